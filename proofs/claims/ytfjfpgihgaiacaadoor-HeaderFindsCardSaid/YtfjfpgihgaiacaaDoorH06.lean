/- The law HeaderFinds, plainly. -/
import Derived.Test.YtfjfpgihgaiacaaDoorH0
set_option linter.unusedSimpArgs false
set_option linter.unusedVariables false
set_option maxRecDepth 10000
namespace Go.Proofs.YtfjfpgihgaiacaaDoor.Q
open Go Go.RowKit Go.Lib Go.Proofs.YtfjfpgihgaiacaaDoorW.PrintWords Go.Proofs.YtfjfpgihgaiacaaDoorB Go.Proofs.YtfjfpgihgaiacaaDoor.E Go.Proofs.YtfjfpgihgaiacaaDoor.P Go.Proofs.YtfjfpgihgaiacaaDoor.Y

theorem wn1 (i : Nat) (h : i < 1000000) : wrap64 ((i : Int) + 1) = ((i + 1 : Nat) : Int) := by unfold wrap64; omega
theorem same_b (a b : ByteArray) (ha : a.size ≤ 1000000) (hb : b.size ≤ 1000000) : header_same.f a b = some (sameB a b) := by
  unfold header_same.f text_Lower.f
  rw [if_pos (by omega), if_pos (by omega)]
  rfl
theorem alike_b (a b : ByteArray) (ha : a.size ≤ 1000000) (hb : b.size ≤ 1000000) : lanternref09_Alike.f a b = some (sameB a b) := by
  unfold lanternref09_Alike.f lanternref01_Lower.f
  rw [if_pos (by omega), if_pos (by omega)]
  rfl
def Small (l : List S39) : Prop := l.length ≤ 100 ∧ ∀ h ∈ l, h.f0.size ≤ 1000000
def allV (nm : ByteArray) (l : List S39) : List ByteArray := (l.filter fun h => sameB h.f0 nm).map fun h => h.f1
theorem allV_len (nm : ByteArray) (l : List S39) : (allV nm l).length ≤ l.length := by
  unfold allV
  rw [List.length_map]
  exact List.length_filter_le _ _
theorem rdH (l : List S39) (i : Nat) (h : i < l.length) : rd_T39 l (i : Int) = l[i] := by
  show l.getD (i : Int).toNat z39 = l[i]
  rw [Int.toNat_natCast, List.getD_eq_getElem?_getD, List.getElem?_eq_getElem h, Option.getD_some]
theorem rdS (l : List ByteArray) (i : Nat) (h : i < l.length) : rdOf ByteArray.empty l (i : Int) = l[i] := by
  show l.getD (i : Int).toNat ByteArray.empty = l[i]
  rw [Int.toNat_natCast, List.getD_eq_getElem?_getD, List.getElem?_eq_getElem h, Option.getD_some]
theorem allV_step (nm : ByteArray) (l : List S39) (i : Nat) (h : i < l.length) : allV nm (l.drop i) = (if sameB l[i].f0 nm = true then [l[i].f1] else []) ++ allV nm (l.drop (i + 1)) := by
  rw [List.drop_eq_getElem_cons h]
  unfold allV
  rw [List.filter_cons]
  split <;> rfl
theorem all_loop (nm : ByteArray) (l : List S39) (hs : Small l) (hn : nm.size ≤ 1000000) : ∀ (d k i : Nat) (acc : List ByteArray), i + d = l.length → d < k → acc.length ≤ i → header_All.l0 k nm acc l (l.length : Int) (i : Int) = some (acc ++ allV nm (l.drop i))
  | 0, k + 1, i, acc, hi, hk, ha => by
    rw [header_All.l0, if_neg (by omega), List.drop_eq_nil_of_le (by omega)]
    simp [allV]
  | d + 1, k + 1, i, acc, hi, hk, ha => by
    have hl := hs.1
    have hlt : i < l.length := by omega
    have hsz := hs.2 l[i] (List.getElem_mem hlt)
    have ih := fun acc ha => all_loop nm l hs hn d k (i + 1) acc (by omega) (by omega) ha
    rw [header_All.l0, if_pos (by omega), if_pos (by omega), if_pos (by omega), rdH l i hlt, same_b _ _ hsz hn, Option.bind_some, wn1 i (by omega), allV_step nm l i hlt]
    cases sameB l[i].f0 nm with
    | true =>
      rw [if_pos rfl, if_pos rfl, if_pos (by omega), ih _ (by simp; omega)]
      simp
    | false =>
      rw [if_neg (by decide), if_neg (by decide), ih _ (by omega)]
      simp
theorem all_f (nm : ByteArray) (l : List S39) (hs : Small l) (hn : nm.size ≤ 1000000) (k : Nat) (hk : 1000 < k) : header_All.f k l nm = some (allV nm l) := by
  have := all_loop nm l hs hn l.length k 0 [] (by omega) (by have := hs.1; omega) (by simp)
  unfold header_All.f
  exact this
theorem rall_loop (nm : ByteArray) (l : List S39) (hs : Small l) (hn : nm.size ≤ 1000000) : ∀ (d k i : Nat) (acc : List ByteArray), i + d = l.length → d < k → acc.length ≤ i → lanternref09_All.l0 k l nm acc (i : Int) = some (acc ++ allV nm (l.drop i))
  | 0, k + 1, i, acc, hi, hk, ha => by
    rw [lanternref09_All.l0, if_neg (by omega), List.drop_eq_nil_of_le (by omega)]
    simp [allV]
  | d + 1, k + 1, i, acc, hi, hk, ha => by
    have hl := hs.1
    have hlt : i < l.length := by omega
    have hsz := hs.2 l[i] (List.getElem_mem hlt)
    have ih := fun acc ha => rall_loop nm l hs hn d k (i + 1) acc (by omega) (by omega) ha
    rw [lanternref09_All.l0, if_pos (by omega), if_pos (by omega), rdH l i hlt, alike_b _ _ hsz hn, Option.bind_some, wn1 i (by omega), allV_step nm l i hlt]
    cases sameB l[i].f0 nm with
    | true =>
      rw [if_pos rfl, if_pos rfl, if_pos (by omega), ih _ (by simp; omega)]
      simp
    | false =>
      rw [if_neg (by decide), if_neg (by decide), ih _ (by omega)]
      simp
theorem rall_f (nm : ByteArray) (l : List S39) (hs : Small l) (hn : nm.size ≤ 1000000) (k : Nat) (hk : 1000 < k) : lanternref09_All.f k l nm = some (allV nm l) := by
  have := rall_loop nm l hs hn l.length k 0 [] (by omega) (by have := hs.1; omega) (by simp)
  unfold lanternref09_All.f
  exact this
theorem get_f (nm : ByteArray) (l : List S39) (hs : Small l) (hn : nm.size ≤ 1000000) (k : Nat) (hk : 1000 < k) : header_Get.f k l nm = some (match allV nm l with | [] => ((⟨#[]⟩ : ByteArray), false) | v :: _ => (v, true)) := by
  unfold header_Get.f
  rw [all_f nm l hs hn k hk, Option.bind_some]
  cases allV nm l with
  | nil => rfl
  | cons v t =>
    rw [if_neg (by simp only [List.length_cons]; omega), if_pos (by simp only [List.length_cons]; omega)]
    rfl
theorem texts_loop (l : List ByteArray) (hl : l.length ≤ 1000) : ∀ (d k i : Nat), i + d = l.length → d < k → lanternref01_Texts.l0 k l l (i : Int) = some true
  | 0, k + 1, i, hi, hk => by rw [lanternref01_Texts.l0, if_neg (by omega)]
  | d + 1, k + 1, i, hi, hk => by rw [lanternref01_Texts.l0, if_pos (by omega), if_pos (by omega), if_pos (by omega), if_pos rfl, wn1 i (by omega), texts_loop l hl d k (i + 1) (by omega) (by omega)]
theorem texts_f (l : List ByteArray) (hl : l.length ≤ 1000) (k : Nat) (hk : 1000 < k) : lanternref01_Texts.f k l l = some true := by
  unfold lanternref01_Texts.f
  rw [if_pos rfl]
  exact texts_loop l hl l.length k 0 (by omega) (by omega)
def withV (ns : List ByteArray) (l : List S39) : List S39 := l.filter fun x => !anyB x.f0 ns
theorem withV_len (ns : List ByteArray) (l : List S39) : (withV ns l).length ≤ l.length := List.length_filter_le _ _
theorem with_step (ns : List ByteArray) (l : List S39) (i : Nat) (h : i < l.length) : withV ns (l.drop i) = (if anyB l[i].f0 ns = true then [] else [l[i]]) ++ withV ns (l.drop (i + 1)) := by
  rw [List.drop_eq_getElem_cons h]
  unfold withV
  rw [List.filter_cons]
  cases anyB l[i].f0 ns <;> rfl
theorem without_in (l : List S39) (hs : Small l) (ns : List ByteArray) (hns : ns.length ≤ 100) (hn : ∀ x ∈ ns, x.size ≤ 1000000) (i : Nat) (hi : i < l.length) (acc : List S39) : ∀ (d k j : Nat) (keep : Bool), j + d = ns.length → d < k →
    ∃ k', k ≤ k' + (d + 1) ∧ lanternref09_Without.l1 k l ns acc (i : Int) keep (j : Int) = lanternref09_Without.l1 (k' + 1) l ns acc (i : Int) (keep && !anyB l[i].f0 (ns.drop j)) (ns.length : Int)
  | 0, k + 1, j, keep, hj, hk => by
    obtain rfl : j = ns.length := by omega
    refine ⟨k, by omega, ?_⟩
    rw [List.drop_length]
    simp [anyB]
  | d + 1, k + 1, j, keep, hj, hk => by
    have hlt : j < ns.length := by omega
    have hsz := hs.2 l[i] (List.getElem_mem hi)
    have hl := hs.1
    have e : anyB l[i].f0 (ns.drop j) = (sameB l[i].f0 ns[j] || anyB l[i].f0 (ns.drop (j + 1))) := by
      rw [List.drop_eq_getElem_cons hlt]
      rfl
    cases keep with
    | true =>
      obtain ⟨k', h1, h2⟩ := without_in l hs ns hns hn i hi acc d k (j + 1) (!sameB l[i].f0 ns[j]) (by omega) (by omega)
      refine ⟨k', by omega, ?_⟩
      rw [lanternref09_Without.l1, if_pos (by omega), if_pos rfl, if_pos (by omega), if_pos (by omega), if_pos (by omega), rdH l i hi, rdS ns j hlt, alike_b _ _ hsz (hn _ (List.getElem_mem hlt)), Option.bind_some, wn1 j (by omega), h2, e]
      simp
    | false =>
      obtain ⟨k', h1, h2⟩ := without_in l hs ns hns hn i hi acc d k (j + 1) false (by omega) (by omega)
      refine ⟨k', by omega, ?_⟩
      rw [lanternref09_Without.l1, if_pos (by omega), if_neg (by decide), wn1 j (by omega), h2]
      simp
theorem without_loop (l : List S39) (hs : Small l) (ns : List ByteArray) (hns : ns.length ≤ 100) (hn : ∀ x ∈ ns, x.size ≤ 1000000) : ∀ (d k i : Nat) (acc : List S39), i + d = l.length → d * (ns.length + 3) < k → acc.length ≤ i → lanternref09_Without.l0 k l ns acc (i : Int) = some (acc ++ withV ns (l.drop i))
  | 0, k + 1, i, acc, hi, hk, ha => by
    rw [lanternref09_Without.l0, if_neg (by omega), List.drop_eq_nil_of_le (by omega)]
    simp [withV]
  | d + 1, k + 1, i, acc, hi, hk, ha => by
    have hl := hs.1
    have hlt : i < l.length := by omega
    have hm : (d + 1) * (ns.length + 3) = d * (ns.length + 3) + (ns.length + 3) := Nat.succ_mul ..
    obtain ⟨k', h1, h2⟩ := without_in l hs ns hns hn i hlt acc ns.length k 0 true (by omega) (by omega)
    have h2' : lanternref09_Without.l1 k l ns acc (i : Int) true 0 = lanternref09_Without.l1 (k' + 1) l ns acc (i : Int) (!anyB l[i].f0 ns) (ns.length : Int) := h2
    have ih := fun acc ha => without_loop l hs ns hns hn d k' (i + 1) acc (by omega) (by omega) ha
    rw [lanternref09_Without.l0, if_pos (by omega), h2', lanternref09_Without.l1, if_neg (by omega), wn1 i (by omega), with_step ns l i hlt]
    cases anyB l[i].f0 ns with
    | true =>
      rw [if_neg (by decide), if_pos rfl, ih _ (by omega)]
      simp
    | false =>
      rw [if_pos (show (!false) = true from rfl), if_pos (by omega), if_pos (by omega), if_pos (by omega), rdH l i hlt, if_neg (by decide), ih _ (by simp; omega)]
      simp
theorem rwithout_f (l : List S39) (hs : Small l) (ns : List ByteArray) (hns : ns.length ≤ 100) (hn : ∀ x ∈ ns, x.size ≤ 1000000) (k : Nat) (hk : 20000 < k) : lanternref09_Without.f k l ns = some (withV ns l) := by
  have hm : l.length * (ns.length + 3) ≤ 100 * 103 := Nat.mul_le_mul hs.1 (by omega)
  have := without_loop l hs ns hns hn l.length k 0 [] (by omega) (by omega) (by simp)
  unfold lanternref09_Without.f
  exact this
theorem without_f (l : List S39) (hs : Small l) (ns : List ByteArray) (hn : ∀ x ∈ ns, x.size ≤ 1000000) : header_Without.f l ns = some (withV ns l) := by
  unfold header_Without.f
  rw [if_pos ⟨fun h hh => Nat.le_trans (hs.2 h hh) (by decide), fun x hx => Nat.le_trans (hn x hx) (by decide), Nat.le_trans hs.1 (by decide)⟩]
  rfl
theorem aw : lanternlaw09_awake.f 100 = some true := by decide +kernel
theorem awake_up (k : Nat) (hk : 100 ≤ k) : lanternlaw09_awake.f k = some true := by
  obtain ⟨j, rfl⟩ : ∃ j, k = 100 + j := ⟨k - 100, by omega⟩
  clear hk
  induction j with
  | zero => exact aw
  | succ j ih => exact lanternlaw09_awake.mono (100 + j) _ ih
theorem j2_f (l : List S39) (hs : Small l) (nm : ByteArray) (hn : nm.size ≤ 1000000) (ns : List ByteArray) (hns : ns.length ≤ 100) (hnn : ∀ x ∈ ns, x.size ≤ 1000000) (k : Nat) (hk : 1200000 < k) : lanternlaw09_HeaderFinds.j2 k l nm ns false = some true := by
  obtain ⟨k, rfl⟩ : ∃ m, k = m + 1 := ⟨k - 1, by omega⟩
  have hl := hs.1
  have h1 := withV_len [nm] l
  have h2 := withV_len ns l
  have hm1 : ∀ x ∈ [nm], x.size ≤ 1000000 := fun x hx => by rw [List.mem_singleton.1 hx]; exact hn
  have hset : header_Set.f l nm (⟨#[118]⟩ : ByteArray) = some (withV [nm] l ++ [(⟨nm, (⟨#[118]⟩ : ByteArray)⟩ : S39)]) := by
    unfold header_Set.f
    rw [without_f l hs [nm] hm1, Option.bind_some, if_pos (by omega)]
  rw [lanternlaw09_HeaderFinds.j2, if_neg (by decide), Option.bind_some, List.length_nil, if_pos (by omega), Option.bind_some, List.nil_append, hset, Option.bind_some, rwithout_f l hs [nm] (by simp) hm1 k (by omega), Option.bind_some, if_pos (by omega),
    same_f _ (by simp; omega) k (by simp; omega), Option.bind_some, if_pos rfl, same_f l (by omega) k (by omega), Option.bind_some, if_pos rfl, without_f l hs ns hnn, Option.bind_some, rwithout_f l hs ns hns hnn k (by omega), Option.bind_some, same_f _ (by omega) k (by omega), Option.bind_some, if_pos rfl,
    token_f nm (by omega), Option.bind_some, ref_token nm (by omega) k (by omega), Option.bind_some, if_pos (by simp), awake_up k (by omega)]
  rfl
theorem finds_mid (l : List S39) (hs : Small l) (nm : ByteArray) (hn : nm.size ≤ 1000000) (ns : List ByteArray) (hns : ns.length ≤ 100) (hnn : ∀ x ∈ ns, x.size ≤ 1000000) (k : Nat) (hk : 1300000 < k) : lanternlaw09_HeaderFinds.l0 k l nm ns (ns.length : Int) = some true := by
  obtain ⟨k, rfl⟩ : ∃ m, k = m + 1 := ⟨k - 1, by omega⟩
  have hl := hs.1
  have hlen := allV_len nm l
  have hj := j2_f l hs nm hn ns hns hnn k (by omega)
  rw [lanternlaw09_HeaderFinds.l0, if_neg (by omega), rall_f nm l hs hn k (by omega), Option.bind_some, get_f nm l hs hn k (by omega), Option.bind_some, all_f nm l hs hn k (by omega), Option.bind_some, texts_f _ (by omega) k (by omega), Option.bind_some, if_pos rfl]
  cases ha : allV nm l with
  | nil =>
    dsimp only
    rw [if_neg (by simp), if_neg (by decide), toList_L]
    exact hj
  | cons v t =>
    dsimp only
    rw [if_neg (by simp), if_pos rfl, if_pos (by simp only [List.length_cons]; omega), if_pos (show v.toList = (rdOf ByteArray.empty (v :: t) 0).toList from rfl)]
    exact hj
theorem finds_loop (l : List S39) (hs : Small l) (nm : ByteArray) (hn : nm.size ≤ 1000000) (ns : List ByteArray) (hns : ns.length ≤ 100) : ∀ (d k i : Nat), i + d = ns.length → 1300000 + d < k → (∀ j, (h : j < ns.length) → j < i → ns[j].size ≤ 2000) → lanternlaw09_HeaderFinds.l0 k l nm ns (i : Int) = some true
  | 0, k, i, hi, hk, ha => by
    obtain rfl : i = ns.length := by omega
    refine finds_mid l hs nm hn ns hns (fun x hx => ?_) k (by omega)
    obtain ⟨j, hj, rfl⟩ := List.mem_iff_getElem.1 hx
    exact Nat.le_trans (ha j hj hj) (by decide)
  | d + 1, k + 1, i, hi, hk, ha => by
    have hlt : i < ns.length := by omega
    rw [lanternlaw09_HeaderFinds.l0, if_pos (by omega), if_pos (by omega), rdS ns i hlt]
    by_cases g : (ns[i].size : Int) > 2000
    · rw [if_pos g, awake_up k (by omega)]
      rfl
    · rw [if_neg g, wn1 i (by omega)]
      refine finds_loop l hs nm hn ns hns d k (i + 1) (by omega) (by omega) fun j hj hji => ?_
      by_cases e : j = i
      · subst e; omega
      · exact ha j hj (by omega)
def FitsN (_ : List ByteArray) : Prop := True
theorem HeaderFinds_law (l : List S39) (hf : Fits l) (nm : ByteArray) (ns : List ByteArray) (_ : FitsN ns) : ∃ k, lanternlaw09_HeaderFinds.f k l nm ns = some true := by
  refine ⟨1400000, ?_⟩
  unfold lanternlaw09_HeaderFinds.f
  rw [light_f l hf _ (by decide), Option.bind_some]
  have hj : lanternlaw09_HeaderFinds.j0 1400000 l nm ns true = some true := by
    rw [lanternlaw09_HeaderFinds.j0, if_pos rfl, awake_up _ (by decide)]
    rfl
  cases hl : lightL l with
  | false => rw [if_neg (by decide)]; exact hj
  | true =>
    obtain ⟨h1, h2, h3⟩ := light_parts hl
    have hs : Small l := ⟨h1, fun h hh => Nat.le_trans (h3 h hh).1 (by decide)⟩
    rw [if_pos rfl]
    by_cases g : (nm.size : Int) > 2000
    · rw [if_pos g]; exact hj
    · rw [if_neg g]
      by_cases g2 : (ns.length : Int) > 50
      · rw [decide_eq_true g2]; exact hj
      · rw [decide_eq_false g2, lanternlaw09_HeaderFinds.j0, if_neg (by decide)]
        exact finds_loop l hs nm (by omega) ns (by omega) ns.length 1399999 0 (by omega) (by omega) (fun j hj h0 => absurd h0 (by omega))
end Go.Proofs.YtfjfpgihgaiacaaDoor.Q
