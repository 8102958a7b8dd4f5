/- HTTP, plainly: all values of a name; texts within bounds; what was parsed is no greater than what was read. -/
import Derived.Test.YtipleegkonhfcaaGreatDoorC4
import Derived.Test.YtipleegkonhfcaaGreatDoorSP
import Derived.Test.YtipleegkonhfcaaGreatDoorKL1
set_option linter.unusedSimpArgs false
set_option linter.unusedVariables false
set_option maxRecDepth 10000
namespace Go.Proofs.YtipleegkonhfcaaGreatDoor.Q
open Go Go.RowKit Go.Lib Go.Proofs.YtipleegkonhfcaaGreatDoorW.PrintWords Go.Proofs.YtipleegkonhfcaaGreatDoorB Go.Proofs.YtipleegkonhfcaaGreatDoor.E Go.Proofs.YtipleegkonhfcaaGreatDoor.P Go.Proofs.YtipleegkonhfcaaGreatDoor.U Go.Proofs.YtipleegkonhfcaaGreatDoor.KF

def sameB (a b : ByteArray) : Bool := (lowerOf a).toList == (lowerOf b).toList
theorem wn1 (i : Nat) (h : i < 1000000) : wrap64 ((i : Int) + 1) = ((i + 1 : Nat) : Int) := by unfold wrap64; omega
theorem same_b (a b : ByteArray) (ha : a.size ≤ 1000000) (hb : b.size ≤ 1000000) : header_same.f a b = some (sameB a b) := by
  unfold header_same.f text_Lower.f
  rw [if_pos (by omega), if_pos (by omega)]
  rfl
theorem alike_b (a b : ByteArray) (ha : a.size ≤ 1000000) (hb : b.size ≤ 1000000) : lanternref09_Alike.f a b = some (sameB a b) := by
  unfold lanternref09_Alike.f lanternref01_Lower.f
  rw [if_pos (by omega), if_pos (by omega)]
  rfl
def Small (l : List S67) : Prop := l.length ≤ 100 ∧ ∀ h ∈ l, h.f0.size ≤ 1000000
def allV (nm : ByteArray) (l : List S67) : List ByteArray := (l.filter fun h => sameB h.f0 nm).map fun h => h.f1
theorem allV_len (nm : ByteArray) (l : List S67) : (allV nm l).length ≤ l.length := by
  unfold allV
  rw [List.length_map]
  exact List.length_filter_le _ _
theorem rdH (l : List S67) (i : Nat) (h : i < l.length) : rd_T67 l (i : Int) = l[i] := by
  show l.getD (i : Int).toNat z67 = l[i]
  rw [Int.toNat_natCast, List.getD_eq_getElem?_getD, List.getElem?_eq_getElem h, Option.getD_some]
theorem rdS (l : List ByteArray) (i : Nat) (h : i < l.length) : rdOf ByteArray.empty l (i : Int) = l[i] := by
  show l.getD (i : Int).toNat ByteArray.empty = l[i]
  rw [Int.toNat_natCast, List.getD_eq_getElem?_getD, List.getElem?_eq_getElem h, Option.getD_some]
theorem allV_step (nm : ByteArray) (l : List S67) (i : Nat) (h : i < l.length) : allV nm (l.drop i) = (if sameB l[i].f0 nm = true then [l[i].f1] else []) ++ allV nm (l.drop (i + 1)) := by
  rw [List.drop_eq_getElem_cons h]
  unfold allV
  rw [List.filter_cons]
  split <;> rfl
theorem all_loop (nm : ByteArray) (l : List S67) (hs : Small l) (hn : nm.size ≤ 1000000) : ∀ (d k i : Nat) (acc : List ByteArray), i + d = l.length → d < k → acc.length ≤ i → header_All.l0 k nm acc l (l.length : Int) (i : Int) = some (acc ++ allV nm (l.drop i))
  | 0, k + 1, i, acc, hi, hk, ha => by
    rw [header_All.l0, if_neg (by omega), List.drop_eq_nil_of_le (by omega)]
    simp [allV]
  | d + 1, k + 1, i, acc, hi, hk, ha => by
    have hl := hs.1
    have hlt : i < l.length := by omega
    have hsz := hs.2 l[i] (List.getElem_mem hlt)
    have ih := fun acc ha => all_loop nm l hs hn d k (i + 1) acc (by omega) (by omega) ha
    rw [header_All.l0, if_pos (by omega), if_pos (by omega), if_pos (by omega), rdH l i hlt, same_b _ _ hsz hn, Option.bind_some, wn1 i (by omega), allV_step nm l i hlt]
    cases sameB l[i].f0 nm with
    | true =>
      rw [if_pos rfl, if_pos rfl, if_pos (by omega), ih _ (by simp; omega)]
      simp
    | false =>
      rw [if_neg (by decide), if_neg (by decide), ih _ (by omega)]
      simp
theorem all_f (nm : ByteArray) (l : List S67) (hs : Small l) (hn : nm.size ≤ 1000000) (k : Nat) (hk : 1000 < k) : header_All.f k l nm = some (allV nm l) := by
  have := all_loop nm l hs hn l.length k 0 [] (by omega) (by have := hs.1; omega) (by simp)
  unfold header_All.f
  exact this
theorem rall_loop (nm : ByteArray) (l : List S67) (hs : Small l) (hn : nm.size ≤ 1000000) : ∀ (d k i : Nat) (acc : List ByteArray), i + d = l.length → d < k → acc.length ≤ i → lanternref09_All.l0 k l nm acc (i : Int) = some (acc ++ allV nm (l.drop i))
  | 0, k + 1, i, acc, hi, hk, ha => by
    rw [lanternref09_All.l0, if_neg (by omega), List.drop_eq_nil_of_le (by omega)]
    simp [allV]
  | d + 1, k + 1, i, acc, hi, hk, ha => by
    have hl := hs.1
    have hlt : i < l.length := by omega
    have hsz := hs.2 l[i] (List.getElem_mem hlt)
    have ih := fun acc ha => rall_loop nm l hs hn d k (i + 1) acc (by omega) (by omega) ha
    rw [lanternref09_All.l0, if_pos (by omega), if_pos (by omega), rdH l i hlt, alike_b _ _ hsz hn, Option.bind_some, wn1 i (by omega), allV_step nm l i hlt]
    cases sameB l[i].f0 nm with
    | true =>
      rw [if_pos rfl, if_pos rfl, if_pos (by omega), ih _ (by simp; omega)]
      simp
    | false =>
      rw [if_neg (by decide), if_neg (by decide), ih _ (by omega)]
      simp
theorem rall_f (nm : ByteArray) (l : List S67) (hs : Small l) (hn : nm.size ≤ 1000000) (k : Nat) (hk : 1000 < k) : lanternref09_All.f k l nm = some (allV nm l) := by
  have := rall_loop nm l hs hn l.length k 0 [] (by omega) (by have := hs.1; omega) (by simp)
  unfold lanternref09_All.f
  exact this

theorem headL_size {l : List UInt8} {h : S67} (e : headL l = some h) : h.f0.size ≤ l.length ∧ h.f1.size ≤ l.length := by
  unfold headL at e
  split at e
  · cases e
  · next x hx =>
    split at e
    · injection e with e
      subst e
      obtain ⟨e1, _⟩ := splitC_some _ _ x.1 x.2 hx
      have e2 := congrArg List.length e1
      rw [List.length_append, List.length_cons] at e2
      have e3 := trimS_length x.2 blL
      refine ⟨?_, ?_⟩
      · show (B x.1).size ≤ _
        rw [size_B]
        omega
      · show (B (Lib.trimS x.2 blL)).size ≤ _
        rw [size_B]
        omega
    · cases e
theorem parseM_small (bs : List UInt8) : ∀ (f p : Nat) (acc : List S67), (∀ h ∈ acc, h.f0.size ≤ bs.length ∧ h.f1.size ≤ bs.length) → ∀ h ∈ (parseM bs f p acc).1, h.f0.size ≤ bs.length ∧ h.f1.size ≤ bs.length
  | 0, p, acc, ha => by simp [parseM]
  | f + 1, p, acc, ha => by
    rw [parseM]
    split
    · split <;> simp
    · next x hx =>
      obtain ⟨e1, _⟩ := splitC_some _ _ x.1 x.2 hx
      have e2 := congrArg List.length e1
      rw [List.length_append, List.length_cons, List.length_drop] at e2
      split
      · simp
      · split
        · exact ha
        · split
          · simp
          · next h hh =>
            split
            · simp
            · have h1 := headL_size hh
              have h2 := chomp_length x.1
              refine parseM_small bs f _ _ (fun q hq => ?_)
              rcases List.mem_append.1 hq with hq | hq
              · exact ha q hq
              · rw [List.mem_singleton.1 hq]
                omega
theorem allV_mem {nm : ByteArray} {l : List S67} {n : Nat} (h : ∀ x ∈ l, x.f0.size ≤ n ∧ x.f1.size ≤ n) : ∀ v ∈ allV nm l, v.size ≤ n := by
  intro v hv
  unfold allV at hv
  obtain ⟨x, hx, rfl⟩ := List.mem_map.1 hv
  exact (h x (List.mem_filter.1 hx).1).2
def inR (a b : Nat) (c : UInt8) : Bool := decide (a ≤ c.toNat) && decide (c.toNat ≤ b)
theorem hwithin_l (s : ByteArray) (hs : s.size ≤ 1000000000) (a b : Nat) : ∀ (d k i : Nat), i + d = s.size → d < k → http_within.l0 k s (a : Int) (b : Int) (i : Int) = some (((L s).drop i).all (inR a b))
  | 0, k + 1, i, hi, hk => by
    rw [http_within.l0, if_neg (by omega), List.drop_eq_nil_of_le (by rw [← size_L]; omega)]
    rfl
  | d + 1, k + 1, i, hi, hk => by
    have ih := hwithin_l s hs a b d k (i + 1) (by omega) (by omega)
    have hw : wrap64 ((i : Int) + 1) = ((i + 1 : Nat) : Int) := wrap_nat (i + 1) (by omega) (by omega)
    rw [http_within.l0, if_pos (by omega), if_pos (by omega), bt_gb, hw, ih, dropD (L s) i (by rw [← size_L]; omega), List.all_cons]
    clear hw
    unfold gb inR
    by_cases h1 : ((L s).getD i 0).toNat < a
    · rw [if_pos (by omega), decide_eq_false (by omega)]
      rfl
    · rw [if_neg (by omega), decide_eq_true (show a ≤ ((L s).getD i 0).toNat by omega)]
      by_cases h2 : b < ((L s).getD i 0).toNat
      · rw [if_pos (by omega), decide_eq_false (by omega)]
        rfl
      · rw [if_neg (by omega), decide_eq_true (show ((L s).getD i 0).toNat ≤ b by omega)]
        rfl
theorem hwithin_f (s : ByteArray) (hs : s.size ≤ 1000000000) (a b : Nat) (k : Nat) (hk : s.size < k) : http_within.f k s (a : Int) (b : Int) = some ((L s).all (inR a b)) := by
  have := hwithin_l s hs a b s.size k 0 (by omega) hk
  rw [List.drop_zero] at this
  unfold http_within.f
  exact this
theorem between_l (s : ByteArray) (hs : s.size ≤ 1000000000) (a b : Nat) : ∀ (d k i : Nat), i + d = s.size → d < k → lanternref11_between.l0 k s (a : Int) (b : Int) (i : Int) = some (((L s).drop i).all (inR a b))
  | 0, k + 1, i, hi, hk => by
    rw [lanternref11_between.l0, if_neg (by omega), List.drop_eq_nil_of_le (by rw [← size_L]; omega)]
    rfl
  | d + 1, k + 1, i, hi, hk => by
    have ih := between_l s hs a b d k (i + 1) (by omega) (by omega)
    have hw : wrap64 ((i : Int) + 1) = ((i + 1 : Nat) : Int) := wrap_nat (i + 1) (by omega) (by omega)
    rw [lanternref11_between.l0, if_pos (by omega), if_pos (by omega), bt_gb, hw, ih, dropD (L s) i (by rw [← size_L]; omega), List.all_cons]
    clear hw
    unfold gb inR
    by_cases h1 : ((L s).getD i 0).toNat < a
    · rw [if_pos (by omega), decide_eq_false (by omega)]
      rfl
    · rw [if_neg (by omega), decide_eq_true (show a ≤ ((L s).getD i 0).toNat by omega)]
      by_cases h2 : b < ((L s).getD i 0).toNat
      · rw [if_pos (by omega), decide_eq_false (by omega)]
        rfl
      · rw [if_neg (by omega), decide_eq_true (show ((L s).getD i 0).toNat ≤ b by omega)]
        rfl
theorem between_f (s : ByteArray) (hs : s.size ≤ 1000000000) (a b : Nat) (k : Nat) (hk : s.size < k) : lanternref11_between.f k s (a : Int) (b : Int) = some ((L s).all (inR a b)) := by
  have := between_l s hs a b s.size k 0 (by omega) hk
  rw [List.drop_zero] at this
  unfold lanternref11_between.f
  exact this
/-! ### a target -/
def targetL (l : List UInt8) : Bool := decide (l ≠ []) && decide (l.length ≤ 2048) && l.all (inR 33 126)
theorem target_f (s : ByteArray) (hs : s.size ≤ 1000000000) (k : Nat) (hk : s.size < k) : http_target.f k s = some (targetL (L s)) := by
  have hw : http_within.f k s 33 126 = some ((L s).all (inR 33 126)) := hwithin_f s hs 33 126 k hk
  have hz := size_L s
  unfold http_target.f targetL
  rw [toList_L, hw]
  by_cases h1 : L s = []
  · rw [if_pos h1, h1]
    rfl
  · rw [if_neg h1, decide_eq_true h1]
    by_cases h2 : (L s).length ≤ 2048
    · rw [if_pos (by omega), decide_eq_true h2]
      rfl
    · rw [if_neg (by omega), decide_eq_false h2]
      rfl
theorem rtarget_f (s : ByteArray) (hs : s.size ≤ 1000000000) (k : Nat) (hk : s.size < k) : lanternref11_target.f k s = some (targetL (L s)) := by
  have hw : lanternref11_between.f k s 33 126 = some ((L s).all (inR 33 126)) := between_f s hs 33 126 k hk
  have hz := size_L s
  unfold lanternref11_target.f targetL
  rw [hw]
  by_cases h1 : L s = []
  · have h0 : s.size = 0 := by rw [hz, h1]; rfl
    rw [if_neg (by omega), h1]
    rfl
  · have h0 : 0 < (L s).length := List.length_pos_iff.2 h1
    rw [if_pos (by omega), decide_eq_true h1]
    by_cases h2 : (L s).length ≤ 2048
    · rw [if_pos (by omega), decide_eq_true h2]
      rfl
    · rw [if_neg (by omega), decide_eq_false h2]
      rfl
end Go.Proofs.YtipleegkonhfcaaGreatDoor.Q
set_option linter.unusedSimpArgs false
set_option linter.unusedVariables false
set_option maxRecDepth 10000
namespace Go.Proofs.YtipleegkonhfcaaGreatDoor.Q
open Go Go.RowKit Go.Lib Go.Proofs.YtipleegkonhfcaaGreatDoorW.PrintWords Go.Proofs.YtipleegkonhfcaaGreatDoorB Go.Proofs.YtipleegkonhfcaaGreatDoor.E Go.Proofs.YtipleegkonhfcaaGreatDoor.P Go.Proofs.YtipleegkonhfcaaGreatDoor.U Go.Proofs.YtipleegkonhfcaaGreatDoor.KF

def firstM (bs : List UInt8) : ByteArray × Int × Int := match splitC 10 (bs.take 4096) with
  | some x => (B (chomp x.1), ((x.1.length + 1 : Nat) : Int), 0)
  | none => ((⟨#[]⟩ : ByteArray), 0, if 4096 < bs.length then 3 else 10)
theorem splitC_take {c : UInt8} {l u t : List UInt8} {n : Nat} (h : splitC c (l.take n) = some (u, t)) : u.length < n ∧ u.length < l.length ∧ l.take u.length = u := by
  obtain ⟨e, _⟩ := splitC_some _ _ _ _ h
  have hl := congrArg List.length e
  rw [List.length_take, List.length_append, List.length_cons] at hl
  refine ⟨by omega, by omega, ?_⟩
  have h2 : (l.take n).take u.length = u := by rw [e, List.take_left]
  rw [List.take_take, Nat.min_eq_left (by omega)] at h2
  exact h2
theorem first_f (bs : List UInt8) (hb : bs.length ≤ 1000000) (k : Nat) (hk : 5 < k) : http_first.f k (nums bs) = some (firstM bs) := by
  obtain ⟨k, rfl⟩ : ∃ m, k = m + 1 := ⟨k - 1, by omega⟩
  have hnl := nums_length bs
  have hm : mn ((nums bs).length : Int) 4096 = ((min bs.length 4096 : Nat) : Int) := by
    rw [hnl]
    unfold mn
    split <;> omega
  have ht : bs.take (min bs.length 4096) = bs.take 4096 := by
    rcases Nat.le_total bs.length 4096 with h | h
    · rw [Nat.min_eq_left h, List.take_length, List.take_of_length_le h]
    · rw [Nat.min_eq_right h]
  unfold http_first.f firstM
  rw [hm, if_pos (by omega), if_pos (by omega), Int.toNat_natCast, nums_take, ht]
  unfold bytes_IndexByte.f
  rw [bytesOf_nums, show (10 : Int).toNat.toUInt8 = 10 from rfl, indexByte_split, Option.bind_some]
  cases hs : splitC 10 (bs.take 4096) with
  | none =>
    simp only
    rw [if_pos (by omega), http_first.j0]
    by_cases h : 4096 < bs.length
    · rw [if_pos (by rw [hnl]; exact decide_eq_true (by omega)), if_pos h]
    · rw [if_neg (by rw [hnl]; simp; omega), if_pos (by omega), if_neg h]
  | some x =>
    obtain ⟨u, t⟩ := x
    obtain ⟨h1, h2, h3⟩ := splitC_take hs
    have hc := chomp_length u
    simp only
    have hw : wrap64 ((u.length : Int) + 1) = ((u.length + 1 : Nat) : Int) := wrap_nat (u.length + 1) (by omega) (by omega)
    rw [if_neg (by omega), http_first.j0, if_neg (by decide), if_neg (by omega), if_pos (by omega), if_pos (by omega), Int.toNat_natCast, nums_take, strOf_nums, h3, hw]
    unfold strings_TrimSuffix.f
    rw [if_pos (by rw [size_B]; omega), Option.bind_some]
    rw [show (⟨(Lib.trimSuffix (B u).data.toList [13]).toArray⟩ : ByteArray) = B (chomp u) from by rw [show (B u).data.toList = u from L_B u]; rfl]
theorem line_scan (bs : List UInt8) (hb : bs.length ≤ 1000000) : ∀ (d k i : Nat), i + d ≤ bs.length → i + d ≤ 4096 → (∀ j, i ≤ j → j < i + d → bs.getD j 0 ≠ 10) → lanternref11_line.l0 (k + 2 * d) (nums bs) (i : Int) = lanternref11_line.l0 k (nums bs) ((i + d : Nat) : Int)
  | 0, k, i, h1, h2, h3 => rfl
  | d + 1, k, i, h1, h2, h3 => by
    have hnl := nums_length bs
    have ih := line_scan bs hb d k (i + 1) (by omega) (by omega) (fun j a b => h3 j (by omega) (by omega))
    have hw : wrap64 ((i : Int) + 1) = ((i + 1 : Nat) : Int) := wrap_nat (i + 1) (by omega) (by omega)
    have hne : ¬ rd (nums bs) (i : Int) = 10 := by
      rw [rd_nums]
      intro q
      exact h3 i (Nat.le_refl _) (by omega) ((u8_eq _ _).2 q)
    rw [show k + 2 * (d + 1) = k + 2 * d + 1 + 1 from by omega, lanternref11_line.l0, if_pos (by omega), lanternref11_line.j1, if_pos (decide_eq_true (by omega)), if_pos (by omega), if_pos (by omega), if_neg hne, hw, ih, show i + 1 + d = i + (d + 1) from by omega]
theorem line_f (bs : List UInt8) (hb : bs.length ≤ 1000000) (k : Nat) (hk : 9000 < k) : lanternref11_line.f k (nums bs) = some (firstM bs) := by
  have hnl := nums_length bs
  unfold lanternref11_line.f firstM
  cases hs : splitC 10 (bs.take 4096) with
  | none =>
    have hno := splitC_none 10 _ hs
    have hg : ∀ j, 0 ≤ j → j < 0 + min bs.length 4096 → bs.getD j 0 ≠ 10 := by
      intro j _ hj
      have hj1 : j < bs.length := by omega
      have e : bs.getD j 0 = bs[j] := by rw [List.getD_eq_getElem?_getD, List.getElem?_eq_getElem hj1, Option.getD_some]
      rw [e]
      refine hno _ (List.mem_iff_getElem.2 ⟨j, by rw [List.length_take]; omega, by rw [List.getElem_take]⟩)
    obtain ⟨q, hq⟩ : ∃ q, k = q + 1 + 1 + 2 * min bs.length 4096 := ⟨k - 2 - 2 * min bs.length 4096, by omega⟩
    have := line_scan bs hb (min bs.length 4096) (q + 1 + 1) 0 (by omega) (by omega) hg
    rw [hq]
    refine this.trans ?_
    rw [Nat.zero_add]
    simp only
    rw [lanternref11_line.l0]
    by_cases h : 4096 < bs.length
    · rw [if_pos (by omega), lanternref11_line.j1, if_neg (by simp; omega), if_pos (by omega), if_pos h]
    · rw [if_neg (by omega), lanternref11_line.j1, if_neg (by decide), if_neg (by omega), if_neg h]
  | some x =>
    obtain ⟨u, t⟩ := x
    obtain ⟨h1, h2, h3⟩ := splitC_take hs
    obtain ⟨e, hu⟩ := splitC_some _ _ _ _ hs
    have gu : ∀ j, j < u.length → bs.getD j 0 = u.getD j 0 := by
      intro j hj
      rw [List.getD_eq_getElem?_getD, List.getD_eq_getElem?_getD, ← List.getElem?_take_of_lt hj, h3]
    have hg : ∀ j, 0 ≤ j → j < 0 + u.length → bs.getD j 0 ≠ 10 := by
      intro j _ hj
      rw [gu j (by omega)]
      exact hu _ (getD_mem u j (by omega))
    have h10 : bs.getD u.length 0 = 10 := by
      have e1 : (bs.take 4096).getD u.length 0 = 10 := by rw [e, List.getD_eq_getElem?_getD, List.getElem?_append_right (Nat.le_refl _), Nat.sub_self]; rfl
      rw [List.getD_eq_getElem?_getD, List.getElem?_take_of_lt h1, ← List.getD_eq_getElem?_getD] at e1
      exact e1
    obtain ⟨q, hq⟩ : ∃ q, k = q + 1 + 1 + 2 * u.length := ⟨k - 2 - 2 * u.length, by omega⟩
    have := line_scan bs hb u.length (q + 1 + 1) 0 (by omega) (by omega) hg
    rw [hq]
    refine this.trans ?_
    rw [Nat.zero_add]
    simp only
    have hw : wrap64 ((u.length : Int) + 1) = ((u.length + 1 : Nat) : Int) := wrap_nat (u.length + 1) (by omega) (by omega)
    have hr : rd (nums bs) (u.length : Int) = 10 := by
      rw [rd_nums, h10]
      rfl
    rw [lanternref11_line.l0, if_pos (by omega), lanternref11_line.j1, if_pos (decide_eq_true (by omega)), if_pos (by omega), if_pos (by omega), if_pos hr, hw, chomp_eq]
    clear hw
    by_cases hz : u = []
    · subst hz
      rw [if_neg (by simp), if_pos (by simp), if_neg (by simp)]
      rfl
    · have hp : 0 < u.length := List.length_pos_iff.2 hz
      have hw2 : wrap64 ((u.length : Int) - 1) = ((u.length - 1 : Nat) : Int) := wrap_nat (u.length - 1) (by omega) (by omega)
      rw [if_pos (by omega), hw2]
      clear hw2
      rw [if_pos (by omega), if_pos (by omega), rd_nums, gu _ (by omega)]
      by_cases h13 : u.getD (u.length - 1) 0 = 13
      · rw [if_pos (show (((u.getD (u.length - 1) 0).toNat : Nat) : Int) = 13 from by rw [h13]; rfl), if_pos (by omega), if_pos ⟨hz, h13⟩, Int.toNat_natCast, nums_take, strOf_nums]
        rw [show bs.take (u.length - 1) = u.take (u.length - 1) from by rw [← h3, List.take_take, Nat.min_eq_left (by rw [h3]; omega), h3]]
      · rw [if_neg (show ¬ (((u.getD (u.length - 1) 0).toNat : Nat) : Int) = 13 from fun q => h13 ((u8_eq _ _).2 q)), if_pos (by omega), if_neg (fun q => h13 q.2), Int.toNat_natCast, nums_take, strOf_nums, h3]
/-! ### a line's parts: nine at most -/
def cutN : Nat → List UInt8 → List (List UInt8)
  | 0, l => [l]
  | n + 1, l => match splitC 32 l with
    | none => [l]
    | some x => x.1 :: cutN n x.2
theorem splitS_eq (l : List UInt8) : splitS 32 l = match splitC 32 l with | none => [l] | some x => x.1 :: splitS 32 x.2 := by
  cases h : splitC 32 l with
  | none => exact splitS_miss 32 l (splitC_none 32 l h)
  | some x =>
    obtain ⟨e, hu⟩ := splitC_some 32 l x.1 x.2 h
    simp only
    conv => lhs; rw [e]
    exact splitS_hit 32 x.1 x.2 hu
theorem cutN_three : ∀ (n : Nat) (l : List UInt8), (splitS 32 l).length ≤ n + 1 → cutN n l = splitS 32 l
  | 0, l, h => by
    rw [splitS_eq] at h ⊢
    cases hs : splitC 32 l with
    | none => rfl
    | some x =>
      rw [hs] at h
      simp only [List.length_cons] at h
      have : 0 < (splitS 32 x.2).length := by
        rw [splitS_eq]
        split <;> simp
      omega
  | n + 1, l, h => by
    rw [splitS_eq] at h ⊢
    rw [cutN]
    cases hs : splitC 32 l with
    | none => rfl
    | some x =>
      rw [hs] at h
      simp only [List.length_cons] at h ⊢
      rw [cutN_three n x.2 (by omega)]
theorem cutN_many : ∀ (n : Nat) (l : List UInt8), n + 1 < (splitS 32 l).length → (cutN n l).length = n + 1
  | 0, l, h => rfl
  | n + 1, l, h => by
    rw [splitS_eq] at h
    rw [cutN]
    cases hs : splitC 32 l with
    | none =>
      rw [hs] at h
      simp at h
    | some x =>
      rw [hs] at h
      simp only [List.length_cons] at h ⊢
      rw [cutN_many n x.2 (by omega)]
theorem w91 : wrap64 ((9 : Int) - 1) = 8 := wrap_id (x := (9 : Int) - 1) (by decide) (by decide)
theorem cut_scan (s : ByteArray) (hs : s.size ≤ 1000000) (acc : List ByteArray) (hacc : acc.length < 8) (p : Nat) : ∀ (d k i : Nat), i + d ≤ s.size → (∀ j, i ≤ j → j < i + d → (L s).getD j 0 ≠ 32) → lanternref11_cut.l0 (k + 2 * d) s 9 acc (p : Int) (i : Int) = lanternref11_cut.l0 k s 9 acc (p : Int) ((i + d : Nat) : Int)
  | 0, k, i, h1, h2 => rfl
  | d + 1, k, i, h1, h2 => by
    have ih := cut_scan s hs acc hacc p d k (i + 1) (by omega) (fun j a b => h2 j (by omega) (by omega))
    have hw : wrap64 ((i : Int) + 1) = ((i + 1 : Nat) : Int) := wrap_nat (i + 1) (by omega) (by omega)
    have hne : ¬ bt s (i : Int) = 32 := by
      rw [bt_gb]
      intro q
      exact h2 i (Nat.le_refl _) (by omega) ((u8_eq _ _).2 q)
    rw [show k + 2 * (d + 1) = k + 2 * d + 1 + 1 from by omega, lanternref11_cut.l0, if_pos (by omega), w91, lanternref11_cut.j1, if_pos (decide_eq_true (by omega)), if_pos (by omega), if_pos (by omega), if_neg hne, hw, ih, show i + 1 + d = i + (d + 1) from by omega]
theorem cut_l (s : ByteArray) (hs : s.size ≤ 1000000) : ∀ (n k p : Nat) (acc : List ByteArray), p ≤ s.size → acc.length + n = 8 → 2 * (s.size - p) + 2 * n + 2 < k → lanternref11_cut.l0 k s 9 acc (p : Int) (p : Int) = some (acc ++ (cutN n ((L s).drop p)).map B)
  | 0, k, p, acc, hp, hn, hk => by
    obtain ⟨k, rfl⟩ : ∃ m, k = m + 1 + 1 := ⟨k - 2, by omega⟩
    have hz := size_L s
    have hx : s.extract p s.size = B ((L s).drop p) := by
      apply L_inj
      rw [L_extract, L_B, hz, List.take_length]
    have hend : lanternref11_cut.j1 (k + 1) s 9 acc (p : Int) (p : Int) false = some (acc ++ (cutN 0 ((L s).drop p)).map B) := by
      rw [lanternref11_cut.j1, if_neg (by decide), if_pos (by omega), if_pos (by omega), if_pos (by omega), Int.toNat_natCast, hx]
      rfl
    have hd : decide ((acc.length : Int) < 8) = false := decide_eq_false (by omega)
    rw [lanternref11_cut.l0, w91, hd, hend, ite_self]
  | n + 1, k, p, acc, hp, hn, hk => by
    have hz := size_L s
    rw [cutN]
    cases hs1 : splitC 32 ((L s).drop p) with
    | none =>
      have hno := splitC_none 32 _ hs1
      have hg : ∀ j, p ≤ j → j < p + (s.size - p) → (L s).getD j 0 ≠ 32 := by
        intro j h1 h2
        have e := getD_of_drop (L s) p (j - p)
        rw [show p + (j - p) = j from by omega] at e
        rw [← e]
        exact hno _ (getD_mem _ _ (by rw [List.length_drop]; omega))
      obtain ⟨q, hq⟩ : ∃ q, k = q + 1 + 1 + 2 * (s.size - p) := ⟨k - 2 - 2 * (s.size - p), by omega⟩
      have := cut_scan s hs acc (by omega) p (s.size - p) (q + 1 + 1) p (by omega) hg
      rw [hq]
      refine this.trans ?_
      rw [show p + (s.size - p) = s.size from by omega]
      have hx : s.extract p s.size = B ((L s).drop p) := by
        apply L_inj
        rw [L_extract, L_B, hz, List.take_length]
      rw [lanternref11_cut.l0, if_neg (by omega), lanternref11_cut.j1, if_neg (by decide), if_pos (by omega), if_pos (by omega), if_pos (by omega), Int.toNat_natCast, hx]
      rfl
    | some x =>
      obtain ⟨u, t⟩ := x
      obtain ⟨e, hu⟩ := splitC_some _ _ _ _ hs1
      have hl := congrArg List.length e
      rw [List.length_drop, List.length_append, List.length_cons] at hl
      have gu : ∀ j, (L s).getD (p + j) 0 = (u ++ 32 :: t).getD j 0 := by
        intro j
        rw [← getD_of_drop, e]
      have hg : ∀ j, p ≤ j → j < p + u.length → (L s).getD j 0 ≠ 32 := by
        intro j h1 h2
        have e := gu (j - p)
        rw [show p + (j - p) = j from by omega, List.getD_eq_getElem?_getD (l := u ++ 32 :: t), List.getElem?_append_left (by omega), ← List.getD_eq_getElem?_getD] at e
        rw [e]
        exact hu _ (getD_mem _ _ (by omega))
      have h32 : (L s).getD (p + u.length) 0 = 32 := by
        rw [gu, List.getD_eq_getElem?_getD, List.getElem?_append_right (Nat.le_refl _), Nat.sub_self]
        rfl
      obtain ⟨q, hq⟩ : ∃ q, k = q + 1 + 1 + 2 * u.length := ⟨k - 2 - 2 * u.length, by omega⟩
      have := cut_scan s hs acc (by omega) p u.length (q + 1 + 1) p (by omega) hg
      rw [hq]
      refine this.trans ?_
      have hb : bt s ((p + u.length : Nat) : Int) = 32 := by
        rw [bt_gb]
        unfold gb
        rw [h32]
        rfl
      have hx : s.extract p (p + u.length) = B u := by
        apply L_inj
        rw [L_extract, L_B]
        have h2 : ((L s).drop p).take u.length = u := by rw [e, List.take_left]
        rw [List.take_drop] at h2
        exact h2
      have ht : (L s).drop (p + u.length + 1) = t := by
        have h2 : ((L s).drop p).drop (u.length + 1) = t := by
          rw [e, ← List.drop_drop, List.drop_left]
          rfl
        rw [List.drop_drop] at h2
        exact h2
      have ih := cut_l s hs n q (p + u.length + 1) (acc ++ [B u]) (by omega) (by rw [List.length_append, List.length_singleton]; omega) (by omega)
      have c1 : ((p + u.length : Nat) : Int) < (s.size : Int) := by omega
      have c2 : decide ((acc.length : Int) < 8) = true := decide_eq_true (by omega)
      have c3 : (0 : Int) ≤ ((p + u.length : Nat) : Int) := by omega
      have c4 : (0 : Int) ≤ (p : Int) := by omega
      have c5 : (p : Int) ≤ ((p + u.length : Nat) : Int) := by omega
      have c6 : acc.length < 8796093022208 := by omega
      have n1 : p + u.length + 1 ≤ 9223372036854775807 := by omega
      have hw : wrap64 (((p + u.length : Nat) : Int) + 1) = ((p + u.length + 1 : Nat) : Int) := wrap_nat (p + u.length + 1) rfl n1
      rw [lanternref11_cut.l0, if_pos c1, w91, c2, lanternref11_cut.j1, if_pos rfl, if_pos c3, if_pos c1, if_pos hb, if_pos c4, if_pos c5, if_pos (Int.le_of_lt c1), if_pos c6, hw, Int.toNat_natCast, Int.toNat_natCast, hx, ih, ht]
      simp
theorem cut_f (s : ByteArray) (hs : s.size ≤ 1000000) (k : Nat) (hk : 2 * s.size + 30 < k) : lanternref11_cut.f k s 9 = some ((cutN 8 (L s)).map B) := by
  have := cut_l s hs 8 k 0 [] (by omega) rfl (by omega)
  rw [List.drop_zero] at this
  unfold lanternref11_cut.f
  exact this
end Go.Proofs.YtipleegkonhfcaaGreatDoor.Q
set_option linter.unusedSimpArgs false
set_option linter.unusedVariables false
set_option maxRecDepth 10000
namespace Go.Proofs.YtipleegkonhfcaaGreatDoor.Q
open Go Go.RowKit Go.Lib Go.Proofs.YtipleegkonhfcaaGreatDoorW.PrintWords Go.Proofs.YtipleegkonhfcaaGreatDoorB Go.Proofs.YtipleegkonhfcaaGreatDoor.E Go.Proofs.YtipleegkonhfcaaGreatDoor.P Go.Proofs.YtipleegkonhfcaaGreatDoor.U Go.Proofs.YtipleegkonhfcaaGreatDoor.KF

/-! ### numbers -/
def numV : List UInt8 → Nat → Nat
  | [], n => n
  | c :: r, n => numV r (n * 10 + (c.toNat - 48))
theorem numV_lt : ∀ (l : List UInt8) (n : Nat), l.all (inR 48 57) = true → numV l n + 1 ≤ (n + 1) * 10 ^ l.length
  | [], n, h => by simp [numV]
  | c :: r, n, h => by
    rw [List.all_cons, Bool.and_eq_true] at h
    have ih := numV_lt r (n * 10 + (c.toNat - 48)) h.2
    have hc : c.toNat ≤ 57 := by
      have := h.1
      unfold inR at this
      rw [Bool.and_eq_true] at this
      exact of_decide_eq_true this.2
    rw [numV, List.length_cons, Nat.pow_succ]
    refine Nat.le_trans ih ?_
    rw [Nat.mul_comm (10 ^ r.length) 10, ← Nat.mul_assoc]
    exact Nat.mul_le_mul_right _ (by omega)
theorem decFrom_num : ∀ (l : List UInt8) (n : Nat), l.all (inR 48 57) = true → Lib.decFrom n l = some (numV l n)
  | [], n, h => rfl
  | c :: r, n, h => by
    rw [List.all_cons, Bool.and_eq_true] at h
    have hc := h.1
    unfold inR at hc
    rw [Bool.and_eq_true] at hc
    have h1 := of_decide_eq_true hc.1
    have h2 := of_decide_eq_true hc.2
    have hv : Lib.digitVal c = some (c.toNat - 48) := by
      unfold Lib.digitVal
      first
        | rw [if_pos ⟨h1, h2⟩]
        | simp [h1, h2]
    rw [Lib.decFrom, hv]
    exact decFrom_num r _ h.2
theorem atoi_num (l : List UInt8) (h0 : l ≠ []) (h : l.all (inR 48 57) = true) : Lib.atoi l = some ((numV l 0 : Nat) : Int) := by
  cases l with
  | nil => exact absurd rfl h0
  | cons c r =>
    have hd := decFrom_num (c :: r) 0 h
    rw [List.all_cons, Bool.and_eq_true] at h
    have hc := h.1
    unfold inR at hc
    rw [Bool.and_eq_true] at hc
    have h1 := of_decide_eq_true hc.1
    have n1 : (c == 45) = false := by
      rw [beq_eq_false_iff_ne]
      rintro rfl
      revert h1
      decide
    have n2 : (c == 43) = false := by
      rw [beq_eq_false_iff_ne]
      rintro rfl
      revert h1
      decide
    rw [Lib.atoi, n1, n2, if_neg (by decide), if_neg (by decide)]
    unfold Lib.decNat
    rw [List.isEmpty_cons, if_neg (by decide), hd]
    rfl
/-! ### a body of so many bytes -/
def sizedM (bs : List UInt8) (n : Nat) : List Int × Int × Int := if n > 32768 then ([], 0, 3) else if n > bs.length then ([], 0, 10) else (nums (bs.take n), (n : Int), 0)
theorem sized_f (bs : List UInt8) (hb : bs.length ≤ 1000000) (n k : Nat) : http_body.j0 (k + 1) (nums bs) (n : Int) = some (sizedM bs n) := by
  have hnl := nums_length bs
  unfold sizedM
  rw [http_body.j0]
  by_cases h1 : n > 32768
  · rw [if_pos (by omega), if_pos h1]
  · rw [if_neg (by omega), if_neg h1]
    by_cases h2 : n > bs.length
    · rw [if_pos (by omega), if_pos h2]
    · rw [if_neg (by omega), if_neg h2, if_pos (by omega), if_pos (by omega), Int.toNat_natCast, nums_take]
      unfold slices_Clone_byte_byte.f
      rw [if_pos (by rw [nums_length, List.length_take]; omega), Option.bind_some]
theorem rsized_f (bs : List UInt8) (hb : bs.length ≤ 1000000) (n k : Nat) : lanternref11_body.j4 (k + 1) (nums bs) (n : Int) = some (sizedM bs n) := by
  have hnl := nums_length bs
  unfold sizedM
  rw [lanternref11_body.j4]
  by_cases h1 : n > 32768
  · rw [if_pos (by omega), if_pos h1]
  · rw [if_neg (by omega), if_neg h1]
    by_cases h2 : n > bs.length
    · rw [if_pos (by omega), if_pos h2]
    · rw [if_neg (by omega), if_neg h2, if_pos (by omega), if_pos (by omega), Int.toNat_natCast, nums_take]
/-! ### which texts tell a length -/
def okY (a y : ByteArray) : Bool := (L y == L a) && (decide (1 ≤ y.size) && (decide (y.size ≤ 8) && (L y).all (inR 48 57)))
theorem compactUpTo_one (d : Array (List UInt8)) : ∀ m, 1 ≤ (Lib.compactUpTo d (m + 1)).length ∧ ((Lib.compactUpTo d (m + 1)).length = 1 ↔ ∀ j, j ≤ m → d[j]! = d[0]!)
  | 0 => by
    rw [Lib.compactUpTo_succ, Lib.keeps_lt_one d 0 (by omega)]
    refine ⟨by simp [Lib.compactUpTo], by simp [Lib.compactUpTo], fun _ => by simp [Lib.compactUpTo]⟩
  | m + 1 => by
    obtain ⟨h1, h2⟩ := compactUpTo_one d m
    rw [Lib.compactUpTo_succ, List.length_append]
    by_cases hk : d[m + 1]! = d[m]!
    · rw [Lib.keeps_neg (Nat.succ_pos m) hk]
      simp only [Bool.false_eq_true, if_false, List.length_nil, Nat.add_zero]
      refine ⟨h1, h2.trans ⟨fun h j hj => ?_, fun h j hj => h j (by omega)⟩⟩
      rcases Nat.lt_or_ge j (m + 1) with hlt | hge
      · exact h j (by omega)
      · rw [show j = m + 1 from by omega, hk]
        exact h m (Nat.le_refl _)
    · rw [Lib.keeps_pos hk]
      simp only [if_true, List.length_singleton]
      refine ⟨by omega, fun h => by omega, fun h => ?_⟩
      exact absurd ((h (m + 1) (Nat.le_refl _)).trans (h m (by omega)).symm) hk
theorem compact_one (x : ByteArray) (r : List ByteArray) : (Lib.compact ((x :: r).map (·.data.toList))).length = 1 ↔ ∀ y ∈ r, y = x := by
  have hl : ((x :: r).map (·.data.toList)).length = r.length + 1 := by simp
  unfold Lib.compact
  rw [hl, (compactUpTo_one _ r.length).2]
  have hg : ∀ j (hj : j < r.length + 1), (((x :: r).map (·.data.toList)).toArray)[j]! = ((x :: r)[j]'(by simpa using hj)).data.toList := by
    intro j hj
    rw [getElem!_pos _ _ (by simpa using hj), List.getElem_toArray, List.getElem_map]
  constructor
  · intro h y hy
    obtain ⟨i, hi, rfl⟩ := List.mem_iff_getElem.1 hy
    have := h (i + 1) (by omega)
    rw [hg (i + 1) (by omega), hg 0 (by omega)] at this
    exact L_inj this
  · intro h j hj
    rw [hg j (by omega), hg 0 (by omega)]
    cases j with
    | zero => rfl
    | succ j =>
      have := h (r[j]'(by omega)) (List.getElem_mem _)
      show L ((x :: r)[j + 1]'_) = L x
      rw [List.getElem_cons_succ, this]
theorem okY_all (x : ByteArray) (r : List ByteArray) : (x :: r).all (okY x) = (decide ((Lib.compact ((x :: r).map (·.data.toList))).length = 1) && (decide (1 ≤ x.size) && (decide (x.size ≤ 8) && (L x).all (inR 48 57)))) := by
  rw [Bool.eq_iff_iff, List.all_eq_true, Bool.and_eq_true, decide_eq_true_iff, compact_one]
  constructor
  · intro h
    have h0 := h x List.mem_cons_self
    unfold okY at h0
    rw [Bool.and_eq_true] at h0
    refine ⟨fun y hy => ?_, h0.2⟩
    have h1 := h y (List.mem_cons_of_mem _ hy)
    unfold okY at h1
    rw [Bool.and_eq_true] at h1
    exact L_inj (beq_iff_eq.1 h1.1)
  · rintro ⟨h1, h2⟩ y hy
    have : y = x := by
      rcases List.mem_cons.1 hy with h | h
      · exact h
      · exact h1 y h
    subst this
    unfold okY
    rw [Bool.and_eq_true]
    exact ⟨beq_self_eq_true _, h2⟩
/-! ### the headers' names, whatever their case -/
theorem allV_low (nm nm' : ByteArray) (l : List S67) (h : lowerOf nm = lowerOf nm') : allV nm l = allV nm' l := by
  unfold allV sameB
  rw [h]
def teB : ByteArray := ⟨#[116, 114, 97, 110, 115, 102, 101, 114, 45, 101, 110, 99, 111, 100, 105, 110, 103]⟩
def clB : ByteArray := ⟨#[99, 111, 110, 116, 101, 110, 116, 45, 108, 101, 110, 103, 116, 104]⟩
theorem te_low : lowerOf (⟨#[84, 114, 97, 110, 115, 102, 101, 114, 45, 69, 110, 99, 111, 100, 105, 110, 103]⟩ : ByteArray) = lowerOf teB := by kernel_rfl
theorem cl_low : lowerOf (⟨#[67, 111, 110, 116, 101, 110, 116, 45, 76, 101, 110, 103, 116, 104]⟩ : ByteArray) = lowerOf clB := by kernel_rfl
def chunkedL : List UInt8 := [99, 104, 117, 110, 107, 101, 100]
/-- Which body there is: 0 none, 1 of so many bytes, 2 in chunks, 3 a bad one. -/
def kindM (c s : List ByteArray) : Int × Int := match c with
  | x :: r => if r = [] ∧ L (lowerOf x) = chunkedL ∧ s = [] then (2, 0) else (3, 0)
  | [] => match s with
    | [] => (0, 0)
    | y :: t => if (y :: t).all (okY y) = true then (1, ((numV (L y) 0 : Nat) : Int)) else (3, 0)
theorem kindM_cons (x : ByteArray) (r s : List ByteArray) : kindM (x :: r) s = if r = [] ∧ L (lowerOf x) = chunkedL ∧ s = [] then (2, 0) else (3, 0) := rfl
def Small2 (l : List S67) : Prop := l.length ≤ 100 ∧ ∀ h ∈ l, h.f0.size ≤ 1000000 ∧ h.f1.size ≤ 1000000
theorem Small2.small {l : List S67} (h : Small2 l) : Small l := ⟨h.1, fun x hx => (h.2 x hx).1⟩
def kj0M (c s : List ByteArray) (b : Bool) : Int × Int := if b = true then (2, 0) else match c with
  | x :: r => (3, 0)
  | [] => match s with
    | [] => (0, 0)
    | y :: t => if (y :: t).all (okY y) = true then (1, ((numV (L y) 0 : Nat) : Int)) else (3, 0)
theorem kind_j0 (c s : List ByteArray) (hs : ∀ v ∈ s, v.size ≤ 1000000) (hsl : s.length ≤ 100) (b : Bool) (k : Nat) (hk : 30 < k) : http_kind.j0 k c s b = some (kj0M c s b) := by
  obtain ⟨k, rfl⟩ : ∃ m, k = m + 1 := ⟨k - 1, by omega⟩
  rw [http_kind.j0]
  unfold kj0M
  cases b with
  | true => rfl
  | false =>
    rw [if_neg (by decide)]
    cases c with
    | cons x r =>
      rw [if_pos (show (((x :: r).length : Nat) : Int) > 0 from by rw [List.length_cons]; omega)]
      rfl
    | nil =>
      rw [if_neg (show ¬ ((([] : List ByteArray).length : Nat) : Int) > 0 from by decide)]
      cases s with
      | nil =>
        rw [if_pos (show ((([] : List ByteArray).length : Nat) : Int) = 0 from rfl)]
        rfl
      | cons y t =>
        have hy := hs y List.mem_cons_self
        rw [if_neg (show ¬ (((y :: t).length : Nat) : Int) = 0 from by rw [List.length_cons]; omega)]
        show _ = some (if (y :: t).all (okY y) = true then ((1, ((numV (L y) 0 : Nat) : Int)) : Int × Int) else (3, 0))
        unfold slices_Compact_string_string.f
        rw [if_pos (by rw [List.length_cons] at hsl ⊢; omega), Option.bind_some, List.length_map, okY_all]
        have h0 : rdOf ByteArray.empty (y :: t) 0 = y := rfl
        have hz := size_L y
        rw [h0]
        by_cases h1 : (Lib.compact ((y :: t).map (·.data.toList))).length = 1
        · rw [if_pos (by omega), if_pos (by rw [List.length_cons]; omega), decide_eq_true h1, Bool.true_and, toList_L]
          by_cases h2 : L y = []
          · have : y.size = 0 := by rw [hz, h2]; rfl
            rw [if_pos h2, decide_eq_false (by omega)]
            rfl
          · have hp : 0 < (L y).length := List.length_pos_iff.2 h2
            rw [if_neg h2, decide_eq_true (show 1 ≤ y.size by omega), Bool.true_and]
            by_cases h3 : y.size ≤ 8
            · have hw : http_within.f k y 48 57 = some ((L y).all (inR 48 57)) := hwithin_f y (by omega) 48 57 k (by omega)
              rw [if_neg (by omega), decide_eq_true h3, Bool.true_and, hw, Option.bind_some]
              cases h4 : (L y).all (inR 48 57) with
              | false => rfl
              | true =>
                rw [if_pos rfl, if_pos rfl]
                unfold strconv_Atoi.f
                rw [if_pos (by omega), show y.data.toList = L y from rfl, atoi_num (L y) h2 h4]
                rfl
            · rw [if_pos (by omega), decide_eq_false h3]
              rfl
        · rw [if_neg (by omega), decide_eq_false h1]
          rfl
theorem kind_f (l : List S67) (hl : Small2 l) (k : Nat) (hk : 1000 < k) : http_kind.f k l = some (kindM (allV teB l) (allV clB l)) := by
  have hs1 : ∀ v ∈ allV teB l, v.size ≤ 1000000 := allV_mem hl.2
  have hs2 : ∀ v ∈ allV clB l, v.size ≤ 1000000 := allV_mem hl.2
  have hl2 : (allV clB l).length ≤ 100 := Nat.le_trans (allV_len _ _) hl.1
  unfold http_kind.f
  rw [all_f _ l hl.small (by decide) k hk, all_f _ l hl.small (by decide) k hk, Option.bind_some, Option.bind_some, allV_low _ _ l te_low, allV_low _ _ l cl_low]
  generalize hc : allV teB l = c at hs1 ⊢
  generalize hs : allV clB l = s at hs2 hl2 ⊢
  clear hc hs
  cases c with
  | nil =>
    rw [if_neg (by decide), kind_j0 [] s hs2 hl2 false k (by omega)]
    rfl
  | cons x r =>
    cases r with
    | cons y t =>
      rw [if_neg (by simp only [List.length_cons]; omega), kind_j0 _ s hs2 hl2 false k (by omega)]
      rw [kindM_cons, if_neg (by rintro ⟨h, _⟩; cases h)]
      rfl
    | nil =>
      have hx := hs1 x List.mem_cons_self
      rw [if_pos (show (([x].length : Nat) : Int) = 1 from rfl), if_pos (show (0 : Int) < (([x].length : Nat) : Int) from Int.zero_lt_one)]
      unfold text_Lower.f
      rw [show rdOf ByteArray.empty [x] 0 = x from rfl, if_pos (by omega), Option.bind_some, toList_L]
      rw [kindM_cons]
      by_cases h1 : L (lowerOf x) = chunkedL
      · rw [if_pos (show L (lowerOf x) = [99, 104, 117, 110, 107, 101, 100] from h1), kind_j0 _ s hs2 hl2 _ k (by omega)]
        unfold kj0M
        cases s with
        | nil => rw [if_pos (show ((([] : List ByteArray).length : Int) == 0) = true from rfl), if_pos ⟨rfl, h1, rfl⟩]
        | cons y t => rw [if_neg (show ¬ (((y :: t).length : Int) == 0) = true from by rw [beq_iff_eq, List.length_cons]; omega), if_neg (by rintro ⟨_, _, h⟩; cases h)]
      · rw [if_neg (show ¬ L (lowerOf x) = [99, 104, 117, 110, 107, 101, 100] from h1), kind_j0 _ s hs2 hl2 _ k (by omega), if_neg (by rintro ⟨_, h, _⟩; exact h1 h)]
        rfl
/-! ### the body -/
def bodyM (bs : List UInt8) (c s : List ByteArray) (rest : Bool) : List Int × Int × Int := match kindM c s with
  | (t, n) => if t = 3 then ([], 0, 5) else if t = 2 then decM bs (bs.length + 1) 0 [] else if t = 0 ∧ rest = true then sizedM bs bs.length else sizedM bs n.toNat
theorem kindM_facts (c s : List ByteArray) : 0 ≤ (kindM c s).2 := by
  unfold kindM
  repeat (first | split | simp | omega)
theorem body_f (bs : List UInt8) (hb : bs.length ≤ 100000) (l : List S67) (hl : Small2 l) (rest : Bool) (k : Nat) (hk : 7 * bs.length + 3000 < k) : http_body.f k (nums bs) l rest = some (bodyM bs (allV teB l) (allV clB l) rest) := by
  obtain ⟨k, rfl⟩ : ∃ m, k = m + 1 := ⟨k - 1, by omega⟩
  have hnl := nums_length bs
  unfold http_body.f bodyM
  rw [kind_f l hl _ (by omega), Option.bind_some]
  have hn := kindM_facts (allV teB l) (allV clB l)
  generalize kindM (allV teB l) (allV clB l) = q at hn ⊢
  obtain ⟨t, n⟩ := q
  simp only at hn ⊢
  by_cases h3 : t = 3
  · rw [if_pos h3, if_pos h3]
  · rw [if_neg h3, if_neg h3]
    by_cases h2 : t = 2
    · have hd : chunk_Decode.f (k + 1) (nums bs) = some (decM bs (bs.length + 1) 0 []) := by
        unfold chunk_Decode.f
        exact prog_dec bs hb (bs.length + 1) (k + 1) 0 [] (by omega) (by omega) (by omega) (by simp)
      rw [if_pos h2, if_pos h2, hd, Option.bind_some]
    · rw [if_neg h2, if_neg h2]
      have hc : n = ((n.toNat : Nat) : Int) := by omega
      by_cases h0 : t = 0
      · rw [if_pos h0]
        cases rest with
        | true =>
          rw [if_pos rfl, if_pos ⟨h0, rfl⟩, hnl]
          exact sized_f bs (by omega) _ k
        | false =>
          rw [if_neg (by decide), if_neg (by rintro ⟨_, h⟩; cases h), hc]
          exact sized_f bs (by omega) _ k
      · rw [if_neg h0, if_neg (by rintro ⟨h, _⟩; exact h0 h), hc]
        exact sized_f bs (by omega) _ k
end Go.Proofs.YtipleegkonhfcaaGreatDoor.Q
set_option linter.unusedSimpArgs false
set_option linter.unusedVariables false
set_option maxRecDepth 10000
namespace Go.Proofs.YtipleegkonhfcaaGreatDoor.Q
open Go Go.RowKit Go.Lib Go.Proofs.YtipleegkonhfcaaGreatDoorW.PrintWords Go.Proofs.YtipleegkonhfcaaGreatDoorB Go.Proofs.YtipleegkonhfcaaGreatDoor.E Go.Proofs.YtipleegkonhfcaaGreatDoor.P Go.Proofs.YtipleegkonhfcaaGreatDoor.U Go.Proofs.YtipleegkonhfcaaGreatDoor.KF

theorem rl1 (bs : List UInt8) (s : List ByteArray) (y : ByteArray) (h0 : rdOf ByteArray.empty s 0 = y) (hp : 0 < s.length) (hsl : s.length ≤ 100) (hz : y.size ≤ 8) (hd : (L y).all (inR 48 57) = true) : ∀ (d k i n : Nat), i + d = y.size → (n + 1) * 10 ^ d ≤ 100000000 → lanternref11_body.l1 (k + d + 1) (nums bs) s (n : Int) (i : Int) = lanternref11_body.j4 k (nums bs) ((numV ((L y).drop i) n : Nat) : Int)
  | 0, k, i, n, hi, hn => by
    have hz := size_L y
    rw [Nat.add_zero, lanternref11_body.l1, if_pos (by omega), h0, if_neg (by omega), List.drop_eq_nil_of_le (by omega)]
    rfl
  | d + 1, k, i, n, hi, hn => by
    have hz2 := size_L y
    have hlt : i < (L y).length := by omega
    have hm := List.all_eq_true.1 hd _ (getD_mem (L y) i hlt)
    unfold inR at hm
    rw [Bool.and_eq_true] at hm
    have m1 := of_decide_eq_true hm.1
    have m2 := of_decide_eq_true hm.2
    have hpow : 10 ^ 0 ≤ 10 ^ (d + 1) := Nat.pow_le_pow_right (by decide) (Nat.zero_le _)
    have hn2 : (n * 10 + ((((L y).getD i 0).toNat) - 48) + 1) * 10 ^ d ≤ 100000000 := by
      refine Nat.le_trans ?_ hn
      rw [Nat.pow_succ, Nat.mul_comm (10 ^ d) 10, ← Nat.mul_assoc]
      exact Nat.mul_le_mul_right _ (by omega)
    have hb : n + 1 ≤ 100000000 := Nat.le_trans (Nat.le_mul_of_pos_right (n + 1) (show 0 < 10 ^ (d + 1) from hpow)) hn
    have ih := rl1 bs s y h0 hp hsl hz hd d k (i + 1) (n * 10 + ((((L y).getD i 0).toNat) - 48)) (by omega) hn2
    have c1 : (i : Int) < (y.size : Int) := by omega
    have c2 : (0 : Int) ≤ (i : Int) := by omega
    have c3 : (0 : Int) < (s.length : Int) := by omega
    have e1 : ((((L y).getD i 0).toNat : Int) - 48) % 256 = ((((L y).getD i 0).toNat - 48 : Nat) : Int) := by omega
    have e2 : (n : Int) * 10 = ((n * 10 : Nat) : Int) := by omega
    have e3 : ((n * 10 : Nat) : Int) + ((((L y).getD i 0).toNat - 48 : Nat) : Int) = ((n * 10 + (((L y).getD i 0).toNat - 48) : Nat) : Int) := by omega
    have b1 : n * 10 ≤ 9223372036854775807 := by omega
    have b2 : n * 10 + (((L y).getD i 0).toNat - 48) ≤ 9223372036854775807 := by omega
    have b3 : i + 1 ≤ 9223372036854775807 := by omega
    rw [show k + (d + 1) + 1 = (k + d + 1) + 1 from by omega, lanternref11_body.l1, if_pos c3, h0, if_pos c1, if_pos c2, bt_gb, show gb y i = ((L y).getD i 0).toNat from rfl, e1, wrap_nat (n * 10) e2 b1, wrap_nat _ e3 b2, wrap_nat (i + 1) (by omega) b3, ih, dropD (L y) i hlt]
    rfl
theorem rl0 (bs : List UInt8) (hb : bs.length ≤ 1000000) (s : List ByteArray) (y : ByteArray) (h0 : rdOf ByteArray.empty s 0 = y) (hp : 0 < s.length) (hsl : s.length ≤ 100) : ∀ (d k i : Nat), i + d = s.length → d + 40 < k → (0 < i → okY y y = true) →
    lanternref11_body.l0 k (nums bs) s 0 (i : Int) = some (if (s.drop i).all (okY y) = true then sizedM bs (numV (L y) 0) else ([], 0, 5))
  | 0, k + 1, i, hi, hk, hh => by
    have hy := hh (by omega)
    unfold okY at hy
    rw [Bool.and_eq_true, Bool.and_eq_true, Bool.and_eq_true] at hy
    have y1 := of_decide_eq_true hy.2.1
    have y2 := of_decide_eq_true hy.2.2.1
    obtain ⟨q, hq⟩ : ∃ q, k = (q + 1) + y.size + 1 := ⟨k - y.size - 2, by omega⟩
    have hpow : (0 + 1) * 10 ^ y.size ≤ 100000000 := by
      rw [Nat.zero_add, Nat.one_mul]
      exact Nat.le_trans (Nat.pow_le_pow_right (by decide) y2) (by decide)
    have h1 := rl1 bs s y h0 hp hsl y2 hy.2.2.2 y.size (q + 1) 0 0 (by omega) hpow
    rw [lanternref11_body.l0, if_neg (by omega), if_pos (by omega), List.drop_eq_nil_of_le (by omega), hq]
    refine Eq.trans (b := lanternref11_body.j4 (q + 1) (nums bs) ((numV ((L y).drop 0) 0 : Nat) : Int)) h1 ?_
    rw [List.drop_zero, rsized_f bs hb _ q]
    rfl
  | d + 1, k + 1, i, hi, hk, hh => by
    have hlt : i < s.length := by omega
    have hrd : rdOf ByteArray.empty s (i : Int) = s[i] := rdS s i hlt
    have hz := size_L s[i]
    rw [lanternref11_body.l0, if_pos (by omega), if_pos (by omega), if_pos (by omega), hrd, h0, toList_L, toList_L, List.drop_eq_getElem_cons hlt, List.all_cons]
    have ex : okY y s[i] = ((L s[i] == L y) && (decide (1 ≤ s[i].size) && (decide (s[i].size ≤ 8) && (L s[i]).all (inR 48 57)))) := rfl
    by_cases h1 : L s[i] = L y
    · rw [if_pos h1]
      by_cases h2 : 1 ≤ s[i].size
      · rw [if_neg (by omega)]
        by_cases h3 : s[i].size ≤ 8
        · have hw : lanternref11_between.f k s[i] 48 57 = some ((L s[i]).all (inR 48 57)) := between_f s[i] (by omega) 48 57 k (by omega)
          rw [if_neg (by omega), hw, Option.bind_some]
          cases h4 : (L s[i]).all (inR 48 57) with
          | false =>
            rw [if_neg (by decide), ex, h4]
            simp
          | true =>
            have hok : okY y s[i] = true := by
              rw [ex, h4, beq_iff_eq.2 h1, decide_eq_true h2, decide_eq_true h3]
              rfl
            have hyy : okY y y = true := by
              have := L_inj h1
              rw [this] at hok
              exact hok
            have ih := rl0 bs hb s y h0 hp hsl d k (i + 1) (by omega) (by omega) (fun _ => hyy)
            rw [if_pos rfl, wrap_nat (i + 1) (by omega) (by omega), ih, hok, Bool.true_and]
        · rw [if_pos (by omega), ex, decide_eq_false h3]
          simp
      · rw [if_pos (by omega), ex, decide_eq_false h2]
        simp
    · rw [if_neg h1, ex, beq_eq_false_iff_ne.2 h1]
      simp
theorem rbody_f (bs : List UInt8) (hb : bs.length ≤ 100000) (l : List S67) (hl : Small2 l) (rest : Bool) (k : Nat) (hk : 14 * bs.length + 7000 < k) : lanternref11_body.f k (nums bs) l rest = some (bodyM bs (allV teB l) (allV clB l) rest) := by
  have hs1 : ∀ v ∈ allV teB l, v.size ≤ 1000000 := allV_mem hl.2
  have hs2 : ∀ v ∈ allV clB l, v.size ≤ 1000000 := allV_mem hl.2
  have hl1 : (allV teB l).length ≤ 100 := Nat.le_trans (allV_len _ _) hl.1
  have hl2 : (allV clB l).length ≤ 100 := Nat.le_trans (allV_len _ _) hl.1
  have hdec : lanternref10_Decode.f k (nums bs) = some (decM bs (bs.length + 1) 0 []) := by
    unfold lanternref10_Decode.f
    exact ref_dec bs hb (bs.length + 1) k 0 0 [] (by omega) (by omega) (by omega) (by omega) (by simp)
  have hnl := nums_length bs
  unfold lanternref11_body.f
  rw [show (⟨#[116, 114, 97, 110, 115, 102, 101, 114, 45, 101, 110, 99, 111, 100, 105, 110, 103]⟩ : ByteArray) = teB from rfl, show (⟨#[99, 111, 110, 116, 101, 110, 116, 45, 108, 101, 110, 103, 116, 104]⟩ : ByteArray) = clB from rfl, rall_f teB l hl.small (by decide) k (by omega), rall_f clB l hl.small (by decide) k (by omega), Option.bind_some, Option.bind_some]
  generalize hc : allV teB l = c at hs1 hl1 ⊢
  generalize hs : allV clB l = s at hs2 hl2 ⊢
  clear hc hs
  cases c with
  | cons x r =>
    have hx := hs1 x List.mem_cons_self
    rw [if_pos (show (((x :: r).length : Nat) : Int) > 0 from by rw [List.length_cons]; omega)]
    unfold bodyM
    rw [kindM_cons]
    cases r with
    | cons z t =>
      rw [if_pos (show (((x :: z :: t).length : Nat) : Int) > 1 from by rw [List.length_cons, List.length_cons]; omega), if_neg (by rintro ⟨h, _⟩; cases h)]
      rfl
    | nil =>
      rw [if_neg (show ¬ (([x].length : Nat) : Int) > 1 from by simp), if_pos (show (0 : Int) < (([x].length : Nat) : Int) from Int.zero_lt_one), show rdOf ByteArray.empty [x] 0 = x from rfl]
      unfold lanternref01_Lower.f
      rw [if_pos (by omega), Option.bind_some, toList_L]
      by_cases h1 : L (lowerOf x) = chunkedL
      · rw [if_pos (show L (lowerOf x) = [99, 104, 117, 110, 107, 101, 100] from h1)]
        cases s with
        | nil =>
          rw [if_neg (show ¬ ((([] : List ByteArray).length : Nat) : Int) > 0 from by decide), if_pos ⟨rfl, h1, rfl⟩, hdec]
          rfl
        | cons y t =>
          rw [if_pos (show (((y :: t).length : Nat) : Int) > 0 from by rw [List.length_cons]; omega), if_neg (by rintro ⟨_, _, h⟩; cases h)]
          rfl
      · rw [if_neg (show ¬ L (lowerOf x) = [99, 104, 117, 110, 107, 101, 100] from h1), if_neg (by rintro ⟨_, h, _⟩; exact h1 h)]
        rfl
  | nil =>
    obtain ⟨k, rfl⟩ : ∃ m, k = m + 4 := ⟨k - 4, by omega⟩
    rw [if_neg (show ¬ ((([] : List ByteArray).length : Nat) : Int) > 0 from by decide)]
    cases s with
    | nil =>
      rw [if_pos (show ((([] : List ByteArray).length : Nat) : Int) = 0 from rfl), lanternref11_body.j0]
      have hj : ∀ n : Nat, lanternref11_body.j1 (k + 3) (nums bs) [] (n : Int) = some (sizedM bs n) := by
        intro n
        rw [lanternref11_body.j1, lanternref11_body.l0, if_neg (by decide), if_neg (by decide)]
        exact rsized_f bs (by omega) n k
      cases rest with
      | true =>
        rw [if_pos rfl, hnl, hj]
        rfl
      | false =>
        rw [if_neg (by decide), show (0 : Int) = ((0 : Nat) : Int) from rfl, hj]
        rfl
    | cons y t =>
      have h0 := rl0 bs (by omega) (y :: t) y rfl (by simp) hl2 (y :: t).length (k + 2) 0 (by omega) (by omega) (fun h => absurd h (Nat.lt_irrefl 0))
      rw [if_neg (show ¬ (((y :: t).length : Nat) : Int) = 0 from by rw [List.length_cons]; omega), lanternref11_body.j0, if_neg (by decide), lanternref11_body.j1]
      refine Eq.trans h0 ?_
      rw [List.drop_zero]
      unfold bodyM kindM
      by_cases ho : (y :: t).all (okY y) = true
      · simp only [ho, if_true]
        rfl
      · simp only [ho, if_false]
        rfl
end Go.Proofs.YtipleegkonhfcaaGreatDoor.Q
set_option linter.unusedSimpArgs false
set_option linter.unusedVariables false
set_option maxRecDepth 10000
namespace Go.Proofs.YtipleegkonhfcaaGreatDoor.Q
open Go Go.RowKit Go.Lib Go.Proofs.YtipleegkonhfcaaGreatDoorW.PrintWords Go.Proofs.YtipleegkonhfcaaGreatDoorB Go.Proofs.YtipleegkonhfcaaGreatDoor.E Go.Proofs.YtipleegkonhfcaaGreatDoor.KG Go.Proofs.YtipleegkonhfcaaGreatDoor.KL Go.Proofs.YtipleegkonhfcaaGreatDoor.P Go.Proofs.YtipleegkonhfcaaGreatDoor.U Go.Proofs.YtipleegkonhfcaaGreatDoor.KF

theorem same_self (l : List S67) (hl : l.length ≤ 1000000) : ∀ (d k i : Nat), i + d = l.length → d < k → lanternref09_Same.l0 k l l i = some true
  | d, k, i, hd, hk => by
    obtain ⟨k, rfl⟩ : ∃ m, k = m + 1 := ⟨k - 1, by omega⟩
    rw [lanternref09_Same.l0]
    by_cases h : i < l.length
    · obtain ⟨d, rfl⟩ : ∃ m, d = m + 1 := ⟨d - 1, by omega⟩
      rw [if_pos (by omega), if_pos (by omega), if_pos (by omega), if_neg (by simp), wrap_nat (x := (i : Int) + 1) (i + 1) rfl (by omega)]
      exact same_self l hl d k (i + 1) (by omega) (by omega)
    · rw [if_neg (by omega)]
theorem same_f (l : List S67) (hl : l.length ≤ 1000000) (k : Nat) (hk : l.length < k) : lanternref09_Same.f k l l = some true := by
  unfold lanternref09_Same.f
  rw [if_pos rfl]
  exact same_self l hl l.length k 0 (by omega) hk
theorem parseM_at (bs : List UInt8) : ∀ (f p : Nat) (acc : List S67), 0 ≤ (parseM bs f p acc).2.1 ∧ (parseM bs f p acc).2.1 ≤ (bs.length : Int)
  | 0, p, acc => by
    rw [parseM]
    exact ⟨Int.le_refl _, Int.natCast_nonneg _⟩
  | f + 1, p, acc => by
    rw [parseM]
    split
    · split <;> exact ⟨Int.le_refl _, Int.natCast_nonneg _⟩
    · next x hx =>
      obtain ⟨e1, _⟩ := splitC_some _ _ x.1 x.2 hx
      have e2 := congrArg List.length e1
      rw [List.length_append, List.length_cons, List.length_drop] at e2
      split
      · exact ⟨Int.le_refl _, Int.natCast_nonneg _⟩
      · split
        · refine ⟨?_, ?_⟩
          · show (0 : Int) ≤ ((p + x.1.length + 1 : Nat) : Int)
            omega
          · show ((p + x.1.length + 1 : Nat) : Int) ≤ (bs.length : Int)
            omega
        · split
          · exact ⟨Int.le_refl _, Int.natCast_nonneg _⟩
          · split
            · exact ⟨Int.le_refl _, Int.natCast_nonneg _⟩
            · exact parseM_at bs f _ _
abbrev Req := ByteArray × ByteArray × List S67 × List Int × Int × Int
def none6 (e : Int) : Req := ((⟨#[]⟩ : ByteArray), (⟨#[]⟩ : ByteArray), [], [], 0, e)
/-- The headers and the body behind the first line (n bytes). -/
def restM (bs : List UInt8) (n : Nat) (a b : ByteArray) : Req :=
  if (parseM (bs.drop n) ((bs.drop n).length + 1) 0 []).2.2 = 0 then
    (if (bodyM (bs.drop (n + (parseM (bs.drop n) ((bs.drop n).length + 1) 0 []).2.1.toNat)) (allV teB (parseM (bs.drop n) ((bs.drop n).length + 1) 0 []).1) (allV clB (parseM (bs.drop n) ((bs.drop n).length + 1) 0 []).1) false).2.2 = 0 then
      (a, b, (parseM (bs.drop n) ((bs.drop n).length + 1) 0 []).1, (bodyM (bs.drop (n + (parseM (bs.drop n) ((bs.drop n).length + 1) 0 []).2.1.toNat)) (allV teB (parseM (bs.drop n) ((bs.drop n).length + 1) 0 []).1) (allV clB (parseM (bs.drop n) ((bs.drop n).length + 1) 0 []).1) false).1,
        wrap64 (((n + (parseM (bs.drop n) ((bs.drop n).length + 1) 0 []).2.1.toNat : Nat) : Int) + (bodyM (bs.drop (n + (parseM (bs.drop n) ((bs.drop n).length + 1) 0 []).2.1.toNat)) (allV teB (parseM (bs.drop n) ((bs.drop n).length + 1) 0 []).1) (allV clB (parseM (bs.drop n) ((bs.drop n).length + 1) 0 []).1) false).2.1), 0)
    else none6 (bodyM (bs.drop (n + (parseM (bs.drop n) ((bs.drop n).length + 1) 0 []).2.1.toNat)) (allV teB (parseM (bs.drop n) ((bs.drop n).length + 1) 0 []).1) (allV clB (parseM (bs.drop n) ((bs.drop n).length + 1) 0 []).1) false).2.2)
  else none6 (parseM (bs.drop n) ((bs.drop n).length + 1) 0 []).2.2
def versionL : List UInt8 := [72, 84, 84, 80, 47, 49, 46, 49]
def partsM (bs : List UInt8) (n : Nat) : List (List UInt8) → Req
  | [a, b, c] => if tokenL a = true ∧ targetL b = true ∧ c = versionL then restM bs n (B a) (B b) else none6 5
  | _ => none6 5
theorem partsM_not (bs : List UInt8) (n : Nat) : ∀ p : List (List UInt8), p.length ≠ 3 → partsM bs n p = none6 5
  | [], _ => rfl
  | [_], _ => rfl
  | [_, _], _ => rfl
  | [_, _, _], h => absurd rfl h
  | _ :: _ :: _ :: _ :: _, _ => rfl
def reqM (bs : List UInt8) : Req :=
  if (firstM bs).2.2 = 0 then
    partsM bs (firstM bs).2.1.toNat (splitS 32 (L (firstM bs).1))
  else none6 (firstM bs).2.2
theorem firstM_at (bs : List UInt8) : ∃ n : Nat, (firstM bs).2.1 = (n : Int) ∧ n ≤ bs.length ∧ (firstM bs).1.size ≤ bs.length := by
  unfold firstM
  cases hs : splitC 10 (bs.take 4096) with
  | none => exact ⟨0, rfl, Nat.zero_le _, Nat.zero_le _⟩
  | some x =>
    obtain ⟨h1, h2, h3⟩ := splitC_take (u := x.1) (t := x.2) hs
    refine ⟨x.1.length + 1, rfl, by omega, ?_⟩
    show (B (chomp x.1)).size ≤ _
    rw [size_B]
    have := chomp_length x.1
    omega
theorem small_parsed (bs : List UInt8) (hb : bs.length ≤ 1000000) : Small2 (parseM bs (bs.length + 1) 0 []).1 := by
  refine ⟨Nat.le_trans (parseM_acc bs _ _ [] (by simp)) (by decide), fun h hh => ?_⟩
  have := parseM_small bs (bs.length + 1) 0 [] (by simp) h hh
  omega
theorem bytes_le (l : List UInt8) : ∀ p ∈ splitS 32 l, p.length ≤ l.length := by
  induction l with
  | nil => simp [splitS]
  | cons c t ih =>
    intro p hp
    rw [splitS] at hp
    split at hp
    · rcases List.mem_cons.1 hp with rfl | hp
      · simp
      · have := ih p hp
        rw [List.length_cons]
        omega
    · split at hp
      · rw [List.mem_singleton.1 hp]
        simp
      · next h t' he =>
        rcases List.mem_cons.1 hp with rfl | hp
        · have := ih h (by rw [he]; exact List.mem_cons_self)
          rw [List.length_cons, List.length_cons]
          omega
        · have := ih p (by rw [he]; exact List.mem_cons_of_mem _ hp)
          rw [List.length_cons]
          omega
theorem req_j0 (bs : List UInt8) (hb : bs.length ≤ 100000) (n : Nat) (hn : n ≤ bs.length) (a b : ByteArray) (c : ByteArray) (flag : Bool) (k : Nat) (hk : 7 * bs.length + 4000 < k) : http_ParseRequest.j0 k (nums bs) (n : Int) [a, b, c] flag = some (if flag = true then none6 5 else restM bs n a b) := by
  obtain ⟨k, rfl⟩ : ∃ m, k = m + 1 := ⟨k - 1, by omega⟩
  have hnl := nums_length bs
  rw [http_ParseRequest.j0]
  cases flag with
  | true => rfl
  | false =>
    have hdl : (bs.drop n).length ≤ bs.length := by rw [List.length_drop]; omega
    have hp : header_Parse.f k (nums (bs.drop n)) = some (parseM (bs.drop n) ((bs.drop n).length + 1) 0 []) := parse_f _ (by omega) k (by omega)
    have hat := parseM_at (bs.drop n) ((bs.drop n).length + 1) 0 []
    have hsm := small_parsed (bs.drop n) (by omega)
    rw [if_neg (by decide), if_pos (by omega), if_pos (by omega), Int.toNat_natCast, nums_drop, hp, Option.bind_some]
    show _ = some (restM bs n a b)
    unfold restM
    generalize parseM (bs.drop n) ((bs.drop n).length + 1) 0 [] = q at hat hsm ⊢
    obtain ⟨l, m, e⟩ := q
    simp only at hat hsm ⊢
    by_cases he : e = 0
    · rw [if_pos he, if_pos he]
      rw [List.length_drop] at hat
      have hm : (n : Int) + m = ((n + m.toNat : Nat) : Int) := by omega
      have hle : n + m.toNat ≤ bs.length := by omega
      have hle2 : n + m.toNat ≤ 9223372036854775807 := by omega
      have hdl2 : (bs.drop (n + m.toNat)).length ≤ bs.length := by rw [List.length_drop]; omega
      have hbd := body_f (bs.drop (n + m.toNat)) (by omega) l hsm false k (by omega)
      rw [wrap_nat (n + m.toNat) hm hle2, if_pos (by omega), if_pos (by omega), Int.toNat_natCast, nums_drop, hbd, Option.bind_some]
      generalize bodyM (bs.drop (n + m.toNat)) (allV teB l) (allV clB l) false = d
      obtain ⟨d1, d2, d3⟩ := d
      simp only
      by_cases hd : d3 = 0
      · rw [if_pos hd, if_pos hd, if_pos (show (0 : Int) < (([a, b, c].length : Nat) : Int) from (by decide : (0 : Int) < 3)), if_pos (show (1 : Int) < (([a, b, c].length : Nat) : Int) from (by decide : (1 : Int) < 3))]
        rfl
      · rw [if_neg hd, if_neg hd]
        rfl
    · rw [if_neg he, if_neg he]
      rfl
theorem rreq_j0 (bs : List UInt8) (hb : bs.length ≤ 100000) (n : Nat) (hn : n ≤ bs.length) (a b : ByteArray) (c : ByteArray) (flag : Bool) (k : Nat) (hk : 14 * bs.length + 8000 < k) : lanternref11_ParseRequest.j0 k (nums bs) (n : Int) [a, b, c] flag (⟨#[]⟩ : ByteArray) (⟨#[]⟩ : ByteArray) = some (if flag = true then none6 5 else restM bs n a b) := by
  obtain ⟨k, rfl⟩ : ∃ m, k = m + 1 := ⟨k - 1, by omega⟩
  have hnl := nums_length bs
  rw [lanternref11_ParseRequest.j0]
  cases flag with
  | true => rfl
  | false =>
    have hdl : (bs.drop n).length ≤ bs.length := by rw [List.length_drop]; omega
    have hp : lanternref09_Parse.f k (nums (bs.drop n)) = some (parseM (bs.drop n) ((bs.drop n).length + 1) 0 []) := ref_parse_f _ (by omega) k (by omega)
    have hat := parseM_at (bs.drop n) ((bs.drop n).length + 1) 0 []
    have hsm := small_parsed (bs.drop n) (by omega)
    rw [if_neg (by decide), if_pos (by omega), if_pos (by omega), Int.toNat_natCast, nums_drop, hp, Option.bind_some]
    show _ = some (restM bs n a b)
    unfold restM
    generalize parseM (bs.drop n) ((bs.drop n).length + 1) 0 [] = q at hat hsm ⊢
    obtain ⟨l, m, e⟩ := q
    simp only at hat hsm ⊢
    by_cases he : e = 0
    · rw [if_pos he, if_pos he]
      rw [List.length_drop] at hat
      have hm : (n : Int) + m = ((n + m.toNat : Nat) : Int) := by omega
      have hle : n + m.toNat ≤ bs.length := by omega
      have hle2 : n + m.toNat ≤ 9223372036854775807 := by omega
      have hdl2 : (bs.drop (n + m.toNat)).length ≤ bs.length := by rw [List.length_drop]; omega
      have hbd := rbody_f (bs.drop (n + m.toNat)) (by omega) l hsm false k (by omega)
      rw [wrap_nat (n + m.toNat) hm hle2, if_pos (by omega), if_pos (by omega), Int.toNat_natCast, nums_drop, hbd, Option.bind_some]
      generalize bodyM (bs.drop (n + m.toNat)) (allV teB l) (allV clB l) false = d
      obtain ⟨d1, d2, d3⟩ := d
      simp only
      by_cases hd : d3 = 0
      · rw [if_pos hd, if_pos hd, if_pos (show (0 : Int) < (([a, b, c].length : Nat) : Int) from (by decide : (0 : Int) < 3)), if_pos (show (1 : Int) < (([a, b, c].length : Nat) : Int) from (by decide : (1 : Int) < 3))]
        rfl
      · rw [if_neg hd, if_neg hd]
        rfl
    · rw [if_neg he, if_neg he]
      rfl
end Go.Proofs.YtipleegkonhfcaaGreatDoor.Q
set_option linter.unusedSimpArgs false
set_option linter.unusedVariables false
set_option maxRecDepth 10000
namespace Go.Proofs.YtipleegkonhfcaaGreatDoor.Q
open Go Go.RowKit Go.Lib Go.Proofs.YtipleegkonhfcaaGreatDoorW.PrintWords Go.Proofs.YtipleegkonhfcaaGreatDoorB Go.Proofs.YtipleegkonhfcaaGreatDoor.E Go.Proofs.YtipleegkonhfcaaGreatDoor.KG Go.Proofs.YtipleegkonhfcaaGreatDoor.KL Go.Proofs.YtipleegkonhfcaaGreatDoor.P Go.Proofs.YtipleegkonhfcaaGreatDoor.U Go.Proofs.YtipleegkonhfcaaGreatDoor.KF

theorem req_t (x0 : List Int) (x3 : Int) (x6 : List ByteArray) (k : Nat) (hk : 0 < k) : http_ParseRequest.j0 k x0 x3 x6 true = some (none6 5) := by
  obtain ⟨k, rfl⟩ : ∃ m, k = m + 1 := ⟨k - 1, by omega⟩
  rw [http_ParseRequest.j0, if_pos rfl]
  rfl
theorem req_f (bs : List UInt8) (hb : bs.length ≤ 100000) (k : Nat) (hk : 14 * bs.length + 10000 < k) : http_ParseRequest.f k (nums bs) = some (reqM bs) := by
  unfold http_ParseRequest.f reqM
  rw [first_f bs (by omega) k (by omega), Option.bind_some]
  obtain ⟨n, hn, hle, hsz⟩ := firstM_at bs
  generalize firstM bs = q at hn hsz ⊢
  obtain ⟨s, i, e⟩ := q
  simp only at hn hsz ⊢
  subst hn
  by_cases he : e = 0
  · have hl := size_L s
    rw [if_pos he, if_pos he, Int.toNat_natCast]
    rw [split_f 32 s (by omega), Option.bind_some]
    have h3 : ∀ p : List (List UInt8), p.length = 3 → ∃ a b c, p = [a, b, c] := by
      intro p hp
      match p, hp with
      | [a, b, c], _ => exact ⟨a, b, c, rfl⟩
    by_cases hp3 : (splitS 32 (L s)).length = 3
    · obtain ⟨a, b, c, hp⟩ := h3 _ hp3
      have hmem := bytes_le (L s)
      rw [hp] at hmem
      have ha := hmem a (by simp)
      have hb1 := hmem b (by simp)
      rw [hp]
      show _ = some (if tokenL a = true ∧ targetL b = true ∧ c = versionL then restM bs n (B a) (B b) else none6 5)
      rw [show List.map B [a, b, c] = [B a, B b, B c] from rfl]
      rw [if_pos (show ((([B a, B b, B c] : List ByteArray).length : Nat) : Int) = 3 from rfl), if_pos (show (0 : Int) < ((([B a, B b, B c] : List ByteArray).length : Nat) : Int) from (by decide : (0 : Int) < 3)), show rdOf ByteArray.empty [B a, B b, B c] 0 = B a from rfl, show rdOf ByteArray.empty [B a, B b, B c] 1 = B b from rfl, show rdOf ByteArray.empty [B a, B b, B c] 2 = B c from rfl, token_f (B a) (by rw [size_B]; omega), Option.bind_some, L_B]
      cases ht : tokenL a with
      | false =>
        rw [if_neg (by decide), req_t _ _ _ k (by omega)]
        simp only [Bool.false_eq_true, false_and, if_false]
      | true =>
        rw [if_pos rfl, if_pos (show (1 : Int) < ((([B a, B b, B c] : List ByteArray).length : Nat) : Int) from (by decide : (1 : Int) < 3)), target_f (B b) (by rw [size_B]; omega) k (by rw [size_B]; omega), Option.bind_some, L_B]
        cases hg : targetL b with
        | false =>
          rw [if_neg (by decide), req_t _ _ _ k (by omega)]
          simp only [Bool.false_eq_true, false_and, and_false, if_false]
        | true =>
          rw [if_pos rfl, if_pos (show (2 : Int) < ((([B a, B b, B c] : List ByteArray).length : Nat) : Int) from (by decide : (2 : Int) < 3)), toList_L, L_B]
          refine (req_j0 bs hb n hle (B a) (B b) (B c) (c != versionL) k (by omega)).trans ?_
          simp only [true_and]
          by_cases hc : c = versionL
          · rw [if_neg (by simp [hc]), if_pos hc]
          · rw [if_pos (by simp [hc]), if_neg hc]
    · rw [if_neg (by rw [List.length_map]; omega), req_t _ _ _ k (by omega)]
      rw [partsM_not bs n _ hp3]
  · rw [if_neg he, if_neg he]
    rfl
theorem rreq_t (x0 : List Int) (x3 : Int) (x6 : List ByteArray) (k : Nat) (hk : 0 < k) : lanternref11_ParseRequest.j0 k x0 x3 x6 true (⟨#[]⟩ : ByteArray) (⟨#[]⟩ : ByteArray) = some (none6 5) := by
  obtain ⟨k, rfl⟩ : ∃ m, k = m + 1 := ⟨k - 1, by omega⟩
  rw [lanternref11_ParseRequest.j0, if_pos rfl]
  rfl
theorem rreq_f (bs : List UInt8) (hb : bs.length ≤ 100000) (k : Nat) (hk : 14 * bs.length + 10000 < k) : lanternref11_ParseRequest.f k (nums bs) = some (reqM bs) := by
  unfold lanternref11_ParseRequest.f reqM
  rw [line_f bs (by omega) k (by omega), Option.bind_some]
  obtain ⟨n, hn, hle, hsz⟩ := firstM_at bs
  generalize firstM bs = q at hn hsz ⊢
  obtain ⟨s, i, e⟩ := q
  simp only at hn hsz ⊢
  subst hn
  by_cases he : e = 0
  · have hl := size_L s
    rw [if_pos he, if_pos he, Int.toNat_natCast]
    rw [cut_f s (by omega) k (by omega), Option.bind_some]
    have h3 : ∀ p : List (List UInt8), p.length = 3 → ∃ a b c, p = [a, b, c] := by
      intro p hp
      match p, hp with
      | [a, b, c], _ => exact ⟨a, b, c, rfl⟩
    by_cases hp3 : (splitS 32 (L s)).length = 3
    · obtain ⟨a, b, c, hp⟩ := h3 _ hp3
      have hmem := bytes_le (L s)
      rw [hp] at hmem
      have ha := hmem a (by simp)
      have hb1 := hmem b (by simp)
      rw [cutN_three 8 (L s) (by omega)]
      rw [hp]
      show _ = some (if tokenL a = true ∧ targetL b = true ∧ c = versionL then restM bs n (B a) (B b) else none6 5)
      rw [show List.map B [a, b, c] = [B a, B b, B c] from rfl]
      rw [if_pos (show ((([B a, B b, B c] : List ByteArray).length : Nat) : Int) = 3 from rfl), if_pos (show (0 : Int) < ((([B a, B b, B c] : List ByteArray).length : Nat) : Int) from (by decide : (0 : Int) < 3)), show rdOf ByteArray.empty [B a, B b, B c] 0 = B a from rfl, show rdOf ByteArray.empty [B a, B b, B c] 1 = B b from rfl, show rdOf ByteArray.empty [B a, B b, B c] 2 = B c from rfl, ref_token (B a) (by rw [size_B]; omega) k (by rw [size_B]; omega), Option.bind_some, L_B]
      cases ht : tokenL a with
      | false =>
        rw [if_neg (by decide), rreq_t _ _ _ k (by omega)]
        simp only [Bool.false_eq_true, false_and, if_false]
      | true =>
        rw [if_pos rfl, if_pos (show (1 : Int) < ((([B a, B b, B c] : List ByteArray).length : Nat) : Int) from (by decide : (1 : Int) < 3)), rtarget_f (B b) (by rw [size_B]; omega) k (by rw [size_B]; omega), Option.bind_some, L_B]
        cases hg : targetL b with
        | false =>
          rw [if_neg (by decide), rreq_t _ _ _ k (by omega)]
          simp only [Bool.false_eq_true, false_and, and_false, if_false]
        | true =>
          rw [if_pos rfl, if_pos (show (2 : Int) < ((([B a, B b, B c] : List ByteArray).length : Nat) : Int) from (by decide : (2 : Int) < 3)), toList_L, L_B]
          refine (rreq_j0 bs hb n hle (B a) (B b) (B c) (c != versionL) k (by omega)).trans ?_
          simp only [true_and]
          by_cases hc : c = versionL
          · rw [if_neg (by simp [hc]), if_pos hc]
          · rw [if_pos (by simp [hc]), if_neg hc]
    · have hcl : ((cutN 8 (L s)).map B).length ≠ 3 := by
        rw [List.length_map]
        rcases Nat.lt_or_ge 9 (splitS 32 (L s)).length with hlt | hge
        · rw [cutN_many 8 (L s) hlt]
          decide
        · rw [cutN_three 8 (L s) (by omega)]
          exact hp3
      rw [if_neg (by omega), rreq_t _ _ _ k (by omega)]
      rw [partsM_not bs n _ hp3]
  · rw [if_neg he, if_neg he]
    rfl
theorem reqM_len (bs : List UInt8) (hb : bs.length ≤ 100000) : (reqM bs).2.2.1.length ≤ 64 := by
  have hr : ∀ (n : Nat) (a b : ByteArray), (restM bs n a b).2.2.1.length ≤ 64 := by
    intro n a b
    unfold restM
    split
    · split
      · exact parseM_acc _ _ _ [] (by simp)
      · simp [none6]
    · simp [none6]
  unfold reqM
  split
  · unfold partsM
    split
    · split
      · exact hr _ _ _
      · simp [none6]
    · simp [none6]
  · simp [none6]
def ask1 : List UInt8 := [71, 69, 84, 32, 47, 32, 72, 84, 84, 80, 47, 49, 46, 49, 13, 10, 72, 111, 115, 116, 58, 32, 97, 13, 10, 13, 10]
def ask2 : List UInt8 := [71, 69, 84, 32, 47, 32, 72, 84, 84, 80, 47, 49, 46, 49, 13, 10, 67, 111, 110, 116, 101, 110, 116, 45, 76, 101, 110, 103, 116, 104, 58, 32, 49, 13, 10, 67, 111, 110, 116, 101, 110, 116, 45, 76, 101, 110, 103, 116, 104, 58, 32, 50, 13, 10, 13, 10, 97, 98]
theorem ask1_r : (reqM ask1).2.2.2.2.2 = 0 ∧ (reqM ask1).2.2.2.2.1 = 27 ∧ L (reqM ask1).1 = [71, 69, 84] ∧ L (reqM ask1).2.1 = [47] ∧ (((reqM ask1).2.2.1.length : Nat) : Int) = 1 := ⟨by kernel_rfl, by kernel_rfl, by kernel_rfl, by kernel_rfl, by kernel_rfl⟩
theorem ask2_r : (reqM ask2).2.2.2.2.2 = 5 := by kernel_rfl
theorem awake_f (k : Nat) (hk : 12000 < k) : lanternlaw11_awake.f k = some true := by
  unfold lanternlaw11_awake.f
  have e1 : http_ParseRequest.f k [71, 69, 84, 32, 47, 32, 72, 84, 84, 80, 47, 49, 46, 49, 13, 10, 72, 111, 115, 116, 58, 32, 97, 13, 10, 13, 10] = some (reqM ask1) := req_f ask1 (by decide) k (by simp [ask1]; omega)
  have e2 : http_ParseRequest.f k [71, 69, 84, 32, 47, 32, 72, 84, 84, 80, 47, 49, 46, 49, 13, 10, 67, 111, 110, 116, 101, 110, 116, 45, 76, 101, 110, 103, 116, 104, 58, 32, 49, 13, 10, 67, 111, 110, 116, 101, 110, 116, 45, 76, 101, 110, 103, 116, 104, 58, 32, 50, 13, 10, 13, 10, 97, 98] = some (reqM ask2) := req_f ask2 (by decide) k (by simp [ask2]; omega)
  obtain ⟨h1, h2, h3, h4, h5⟩ := ask1_r
  rw [e1, e2, Option.bind_some, Option.bind_some, if_pos h1, if_pos h2, toList_L, toList_L, if_pos h3, if_pos h4, if_pos h5, ask2_r]
  rfl
theorem HttpAsks (l : List Int) (hl : ∀ n ∈ l, 0 ≤ n ∧ n < 256) : ∃ k, lanternlaw11_HttpAsks.f k l = some true := by
  refine ⟨14 * l.length + 13000, ?_⟩
  unfold lanternlaw11_HttpAsks.f
  by_cases h : (l.length : Int) > 45000
  · rw [if_pos h, awake_f _ (by omega)]
    rfl
  · rw [if_neg h, Option.bind_some, List.nil_append, List.length_nil, if_pos (by omega)]
    obtain ⟨bs, rfl⟩ : ∃ bs, l = nums bs := ⟨Lib.bytesOf l, (nums_of hl).symm⟩
    rw [nums_length] at h
    rw [nums_length, req_f bs (by omega) _ (by omega), rreq_f bs (by omega) _ (by omega), Option.bind_some, Option.bind_some]
    have hlen := reqM_len bs (by omega)
    have hs : lanternref11_SameRequest.f (14 * bs.length + 13000) (reqM bs).1 (reqM bs).2.1 (reqM bs).2.2.1 (reqM bs).2.2.2.1 (reqM bs).1 (reqM bs).2.1 (reqM bs).2.2.1 (reqM bs).2.2.2.1 = some true := by
      unfold lanternref11_SameRequest.f
      rw [if_pos rfl, if_pos rfl, same_f _ (by omega) _ (by omega), Option.bind_some, if_pos rfl, beq_self_eq_true]
    rw [hs, Option.bind_some, if_pos rfl, if_pos rfl, if_pos rfl, awake_f _ (by omega)]
    rfl
end Go.Proofs.YtipleegkonhfcaaGreatDoor.Q
