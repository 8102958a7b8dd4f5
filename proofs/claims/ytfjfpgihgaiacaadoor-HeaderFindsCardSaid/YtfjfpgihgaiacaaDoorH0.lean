/- What the law needs of elder texts. (Put together by wip/gen/pick.py.) -/
import Derived.Test.YtfjfpgihgaiacaaDoorTS
import Derived.Test.YtfjfpgihgaiacaaDoorB
import Derived.Test.YtfjfpgihgaiacaaDoorY1
import Derived.Lib.Index
set_option linter.unusedSimpArgs false
set_option linter.unusedVariables false
set_option maxRecDepth 10000
namespace Go.Proofs.YtfjfpgihgaiacaaDoor.Q
open Go Go.RowKit Go.Lib Go.Proofs.YtfjfpgihgaiacaaDoorW.PrintWords Go.Proofs.YtfjfpgihgaiacaaDoorB Go.Proofs.YtfjfpgihgaiacaaDoor.E Go.Proofs.YtfjfpgihgaiacaaDoor.P Go.Proofs.YtfjfpgihgaiacaaDoor.Y

theorem dropD (l : List UInt8) (i : Nat) (h : i < l.length) : l.drop i = l.getD i 0 :: l.drop (i + 1) := Go.Proofs.YtfjfpgihgaiacaaDoorB.getD_drop l i h
theorem u8_all {p : UInt8 → Prop} (h : ∀ n : Fin 256, p (UInt8.ofNat n.val)) (c : UInt8) : p c := by
  have := h ⟨c.toNat, c.toNat_lt⟩
  simpa using this
def signL : List UInt8 := [97, 98, 99, 100, 101, 102, 103, 104, 105, 106, 107, 108, 109, 110, 111, 112, 113, 114, 115, 116, 117, 118, 119, 120, 121, 122, 65, 66, 67, 68, 69, 70, 71, 72, 73, 74, 75, 76, 77, 78, 79, 80, 81, 82, 83, 84, 85, 86, 87, 88, 89, 90, 48, 49, 50, 51, 52, 53, 54, 55, 56, 57, 33, 35, 36, 37, 38, 39, 42, 43, 45, 46, 94, 95, 96, 124, 126]
def tokenL (l : List UInt8) : Bool := decide (l ≠ []) && l.all (signL.contains ·)
theorem token_f (s : ByteArray) (hs : s.size ≤ 1000000000) : header_Token.f s = some (tokenL (L s)) := by
  unfold header_Token.f strings_Trim.f
  rw [toList_L]
  unfold tokenL
  by_cases h : L s = []
  · rw [if_pos h, h]; rfl
  · rw [if_neg h, if_pos ⟨by omega, by decide, by decide⟩]
    simp only [Option.bind_some, toList_L]
    have e : (L (⟨(Lib.trimS s.data.toList signL).toArray⟩ : ByteArray) == ([] : List UInt8)) = (L s).all (signL.contains ·) := by
      rw [show L (⟨(Lib.trimS s.data.toList signL).toArray⟩ : ByteArray) = Lib.trimS (L s) signL from L_B _]
      rw [Bool.eq_iff_iff, beq_iff_eq, trimS_nil_iff, List.all_eq_true]
    have e' : (decide (L s ≠ []) && (L s).all (signL.contains ·)) = (L s).all (signL.contains ·) := by rw [decide_eq_true h]; rfl
    rw [e']
    exact congrArg some e
theorem within_loop (c : Int) (s : ByteArray) (hs : s.size ≤ 1000000000) : ∀ (d k i : Nat), i + d = s.size → d < k → lanternref07_Within.l0 k c s i = some (((L s).drop i).any fun b => (b.toNat : Int) == c)
  | d, k, i, hd, hk => by
    have hl : (L s).length = s.size := (size_L s).symm
    obtain ⟨k, rfl⟩ : ∃ m, k = m + 1 := ⟨k - 1, by omega⟩
    rw [lanternref07_Within.l0]
    by_cases h : i < s.size
    · obtain ⟨d, rfl⟩ : ∃ m, d = m + 1 := ⟨d - 1, by omega⟩
      rw [if_pos (by omega), if_pos (by omega), dropD _ i (by omega), List.any_cons, bt_L, Int.toNat_natCast]
      by_cases hb : (((L s).getD i 0).toNat : Int) = c
      · have e : ((((L s).getD i 0).toNat : Int) == c) = true := by simpa using hb
        rw [if_pos hb, e, Bool.true_or]
      · rw [if_neg hb, wrap_nat (x := (i : Int) + 1) (i + 1) rfl (by omega), within_loop c s hs d k (i + 1) (by omega) (by omega)]
        have e : ((((L s).getD i 0).toNat : Int) == c) = false := by simpa using hb
        rw [e, Bool.false_or]
    · rw [if_neg (by omega), List.drop_eq_nil_of_le (by omega)]
      rfl
def markL : List UInt8 := [33, 35, 36, 37, 38, 39, 42, 43, 45, 46, 94, 95, 124, 126]
theorem within_f (c : UInt8) (k : Nat) (hk : 20 < k) : lanternref07_Within.f k (c.toNat : Int) (⟨#[33, 35, 36, 37, 38, 39, 42, 43, 45, 46, 94, 95, 124, 126]⟩ : ByteArray) = some (markL.contains c) := by
  unfold lanternref07_Within.f
  have hz : (⟨#[33, 35, 36, 37, 38, 39, 42, 43, 45, 46, 94, 95, 124, 126]⟩ : ByteArray).size = 14 := rfl
  have := within_loop (c.toNat : Int) ⟨#[33, 35, 36, 37, 38, 39, 42, 43, 45, 46, 94, 95, 124, 126]⟩ (by omega) 14 k 0 (by omega) (by omega)
  have e0 : ((0 : Nat) : Int) = 0 := rfl
  rw [e0] at this
  rw [this, List.drop_zero]
  have e : L (⟨#[33, 35, 36, 37, 38, 39, 42, 43, 45, 46, 94, 95, 124, 126]⟩ : ByteArray) = markL := rfl
  rw [e]
  congr 1
  rw [Bool.eq_iff_iff, List.any_eq_true]
  constructor
  · rintro ⟨b, hb, h⟩
    have : b = c := by rw [u8_eq]; simpa using h
    subst this
    simpa using hb
  · intro h
    exact ⟨c, by simpa using h, by simp⟩
def signN (c : UInt8) : Bool := decide (97 ≤ c.toNat ∧ c.toNat ≤ 122) || decide (65 ≤ c.toNat ∧ c.toNat ≤ 90) || decide (48 ≤ c.toNat ∧ c.toNat ≤ 57) || decide (c.toNat = 96) || markL.contains c
theorem signN_eq (c : UInt8) : signN c = signL.contains c := u8_all (p := fun c => signN c = signL.contains c) (by decide +kernel) c
theorem sign_f (c : UInt8) (k : Nat) (hk : 20 < k) : lanternref09_sign.f k (c.toNat : Int) = some (signL.contains c) := by
  rw [← signN_eq]
  unfold lanternref09_sign.f
  rw [within_f c k hk]
  simp only [Option.bind_some]
  unfold signN
  generalize markL.contains c = z
  generalize c.toNat = n
  by_cases h1 : n ≥ 97 <;> by_cases h2 : n ≤ 122 <;> by_cases h3 : n ≥ 65 <;> by_cases h4 : n ≤ 90 <;> by_cases h5 : n ≥ 48 <;> by_cases h6 : n ≤ 57 <;> by_cases h7 : n = 96 <;>
    first
      | (exfalso; omega)
      | (have g1 : ((n : Int) ≥ 97) = (n ≥ 97) := propext ⟨fun _ => by omega, fun _ => by omega⟩
         have g2 : ((n : Int) ≤ 122) = (n ≤ 122) := propext ⟨fun _ => by omega, fun _ => by omega⟩
         have g3 : ((n : Int) ≥ 65) = (n ≥ 65) := propext ⟨fun _ => by omega, fun _ => by omega⟩
         have g4 : ((n : Int) ≤ 90) = (n ≤ 90) := propext ⟨fun _ => by omega, fun _ => by omega⟩
         have g5 : ((n : Int) ≥ 48) = (n ≥ 48) := propext ⟨fun _ => by omega, fun _ => by omega⟩
         have g6 : ((n : Int) ≤ 57) = (n ≤ 57) := propext ⟨fun _ => by omega, fun _ => by omega⟩
         have g7 : ((n : Int) = 96) = (n = 96) := propext ⟨fun _ => by omega, fun _ => by omega⟩
         simp [g1, g2, g3, g4, g5, g6, g7, h1, h2, h3, h4, h5, h6, h7])
theorem ref_token_loop (s : ByteArray) (hs : s.size ≤ 1000000000) : ∀ (d k i : Nat), i + d = s.size → d + 25 < k → lanternref09_Token.l0 k s i = some (((L s).drop i).all (signL.contains ·) && decide (L s ≠ []))
  | d, k, i, hd, hk => by
    have hl : (L s).length = s.size := (size_L s).symm
    obtain ⟨k, rfl⟩ : ∃ m, k = m + 1 := ⟨k - 1, by omega⟩
    rw [lanternref09_Token.l0]
    by_cases h : i < s.size
    · obtain ⟨d, rfl⟩ : ∃ m, d = m + 1 := ⟨d - 1, by omega⟩
      rw [if_pos (by omega), if_pos (by omega), dropD _ i (by omega), List.all_cons, bt_L, Int.toNat_natCast, sign_f _ k (by omega)]
      simp only [Option.bind_some]
      by_cases hb : signL.contains ((L s).getD i 0) = true
      · rw [if_pos hb, hb, Bool.true_and, wrap_nat (x := (i : Int) + 1) (i + 1) rfl (by omega)]
        exact ref_token_loop s hs d k (i + 1) (by omega) (by omega)
      · have e : signL.contains ((L s).getD i 0) = false := by simpa using hb
        rw [if_neg hb, e]
        rfl
    · rw [if_neg (by omega), List.drop_eq_nil_of_le (by omega), toList_L]
      simp only [List.all_nil, Bool.true_and]
      congr 1
      cases L s <;> rfl
theorem ref_token (s : ByteArray) (hs : s.size ≤ 1000000000) (k : Nat) (hk : s.size + 25 < k) : lanternref09_Token.f k s = some (tokenL (L s)) := by
  unfold lanternref09_Token.f
  have := ref_token_loop s hs s.size k 0 (by omega) hk
  rw [List.drop_zero] at this
  unfold tokenL
  rw [Bool.and_comm]
  exact this

theorem same_self (l : List S39) (hl : l.length ≤ 1000000) : ∀ (d k i : Nat), i + d = l.length → d < k → lanternref09_Same.l0 k l l i = some true
  | d, k, i, hd, hk => by
    obtain ⟨k, rfl⟩ : ∃ m, k = m + 1 := ⟨k - 1, by omega⟩
    rw [lanternref09_Same.l0]
    by_cases h : i < l.length
    · obtain ⟨d, rfl⟩ : ∃ m, d = m + 1 := ⟨d - 1, by omega⟩
      rw [if_pos (by omega), if_pos (by omega), if_pos (by omega), if_neg (by simp), wrap_nat (x := (i : Int) + 1) (i + 1) rfl (by omega)]
      exact same_self l hl d k (i + 1) (by omega) (by omega)
    · rw [if_neg (by omega)]
theorem same_f (l : List S39) (hl : l.length ≤ 1000000) (k : Nat) (hk : l.length < k) : lanternref09_Same.f k l l = some true := by
  unfold lanternref09_Same.f
  rw [if_pos rfl]
  exact same_self l hl l.length k 0 (by omega) hk
def sz (h : S39) : Nat := h.f0.size + 2 + h.f1.size + 2
def sizeL (l : List S39) : Nat := 2 + (l.map sz).sum
/-- No text is longer than the machine's reach. -/
def Fits (l : List S39) : Prop := ∀ h ∈ l, h.f0.size ≤ 140737488355328 ∧ h.f1.size ≤ 140737488355328
theorem rd39 (l : List S39) (i : Nat) (h : i < l.length) : rd_T39 l (i : Int) = l[i] := by
  show l.getD (i : Int).toNat z39 = l[i]
  rw [Int.toNat_natCast, List.getD_eq_getElem?_getD, List.getElem?_eq_getElem h, Option.getD_some]
theorem size_loop (l : List S39) (hl : l.length ≤ 100) (hf : Fits l) : ∀ (d k i n : Nat), i + d = l.length → d < k → n ≤ 2 + i * 300000000000000 →
    lanternref09_Size.l0 k l n i = some ((n + ((l.drop i).map sz).sum : Nat) : Int)
  | d, k, i, n, hd, hk, hn => by
    obtain ⟨k, rfl⟩ : ∃ m, k = m + 1 := ⟨k - 1, by omega⟩
    rw [lanternref09_Size.l0]
    by_cases h : i < l.length
    · obtain ⟨d, rfl⟩ : ∃ m, d = m + 1 := ⟨d - 1, by omega⟩
      have hb := hf l[i] (List.getElem_mem h)
      rw [if_pos (by omega), if_pos (by omega), rd39 l i h]
      have b1 : n + l[i].f0.size ≤ 9223372036854775807 := by omega
      have b2 : n + l[i].f0.size + 2 ≤ 9223372036854775807 := by omega
      have b3 : n + l[i].f0.size + 2 + l[i].f1.size ≤ 9223372036854775807 := by omega
      have b4 : n + l[i].f0.size + 2 + l[i].f1.size + 2 ≤ 9223372036854775807 := by omega
      have b5 : i + 1 ≤ 9223372036854775807 := by omega
      rw [wrap_nat (x := (n : Int) + (l[i].f0.size : Int)) _ rfl b1, wrap_nat (x := ((n + l[i].f0.size : Nat) : Int) + 2) (n + l[i].f0.size + 2) rfl b2, wrap_nat (x := ((n + l[i].f0.size + 2 : Nat) : Int) + (l[i].f1.size : Int)) (n + l[i].f0.size + 2 + l[i].f1.size) rfl b3,
        wrap_nat (x := ((n + l[i].f0.size + 2 + l[i].f1.size : Nat) : Int) + 2) (n + l[i].f0.size + 2 + l[i].f1.size + 2) rfl b4, wrap_nat (x := (i : Int) + 1) (i + 1) rfl b5]
      rw [size_loop l hl hf d k (i + 1) _ (by omega) (by omega) (by omega), List.drop_eq_getElem_cons h, List.map_cons, List.sum_cons]
      have e : n + l[i].f0.size + 2 + l[i].f1.size + 2 + (List.map sz (List.drop (i + 1) l)).sum = n + (sz l[i] + (List.map sz (List.drop (i + 1) l)).sum) := by unfold sz; omega
      rw [e]
    · rw [if_neg (by omega), List.drop_eq_nil_of_le (by omega)]
      simp
theorem size_f (l : List S39) (hl : l.length ≤ 100) (hf : Fits l) (k : Nat) (hk : l.length < k) : lanternref09_Size.f k l = some (sizeL l : Int) := by
  unfold lanternref09_Size.f
  have := size_loop l hl hf l.length k 0 2 (by omega) hk (by omega)
  rw [List.drop_zero] at this
  exact this
def lightL (l : List S39) : Bool := decide (l.length ≤ 100) && decide (sizeL l ≤ 20000)
theorem light_f (l : List S39) (hf : Fits l) (k : Nat) (hk : 100 < k) : lanternlaw09_light.f k l = some (lightL l) := by
  unfold lanternlaw09_light.f lightL
  by_cases h : l.length ≤ 100
  · rw [if_pos (by omega), size_f l h hf k (by omega), decide_eq_true h, Bool.true_and]
    simp only [Option.bind_some]
    congr 1
    rw [Bool.eq_iff_iff, decide_eq_true_eq, decide_eq_true_eq]
    omega
  · rw [if_neg (by omega), decide_eq_false h]
    rfl
theorem sz_le (l : List S39) : ∀ h ∈ l, sz h ≤ (l.map sz).sum := by
  induction l with
  | nil => simp
  | cons a t ih =>
    intro h hm
    rw [List.map_cons, List.sum_cons]
    rcases List.mem_cons.1 hm with rfl | hm
    · omega
    · have := ih h hm
      omega
theorem light_parts {l : List S39} (h : lightL l = true) : l.length ≤ 100 ∧ sizeL l ≤ 20000 ∧ ∀ x ∈ l, x.f0.size ≤ 20000 ∧ x.f1.size ≤ 20000 := by
  unfold lightL at h
  rw [Bool.and_eq_true, decide_eq_true_eq, decide_eq_true_eq] at h
  refine ⟨h.1, h.2, fun x hx => ?_⟩
  have := sz_le l x hx
  have h2 := h.2
  unfold sizeL at h2
  have e : sz x = x.f0.size + 2 + x.f1.size + 2 := rfl
  rw [e] at this
  omega
end Go.Proofs.YtfjfpgihgaiacaaDoor.Q
