/- The law HeaderParses. -/
import Derived.Test.YtfjfpgihgaiacaaDoorH02
set_option linter.unusedSimpArgs false
set_option linter.unusedVariables false
namespace Go.Proofs.YtfjfpgihgaiacaaDoor.Q
open Go Go.RowKit Go.Lib Go.Proofs.YtfjfpgihgaiacaaDoorW.PrintWords Go.Proofs.YtfjfpgihgaiacaaDoorB Go.Proofs.YtfjfpgihgaiacaaDoor.E Go.Proofs.YtfjfpgihgaiacaaDoor.P

theorem parse_f (bs : List UInt8) (hb : bs.length ≤ 1000000) (k : Nat) (hk : 4 * bs.length + 200 < k) : header_Parse.f k (nums bs) = some (parseM bs (bs.length + 1) 0 []) := by
  unfold header_Parse.f
  exact prog_parse bs hb (bs.length + 1) k 0 [] (by omega) (by omega) (by omega) (by simp)
theorem ref_parse_f (bs : List UInt8) (hb : bs.length ≤ 1000000) (k : Nat) (hk : 11 * bs.length + 400 < k) : lanternref09_Parse.f k (nums bs) = some (parseM bs (bs.length + 1) 0 []) := by
  unfold lanternref09_Parse.f
  exact ref_parse bs hb (bs.length + 1) k 0 [] (by omega) (by omega) (by omega) (by simp)
theorem get_awake (k : Nat) (hk : 10 < k) : header_Get.f k [⟨B [65], B [98]⟩] (⟨#[97]⟩ : ByteArray) = some (B [98], true) := by
  obtain ⟨k, rfl⟩ : ∃ m, k = m + 1 + 1 := ⟨k - 2, by omega⟩
  have hs : header_same.f (B [65]) (⟨#[97]⟩ : ByteArray) = some true := by
    unfold header_same.f text_Lower.f
    rw [if_pos (by decide), if_pos (by decide)]
    simp only [Option.bind_some, toList_L]
    rfl
  have ha : header_All.f (k + 1 + 1) [⟨B [65], B [98]⟩] (⟨#[97]⟩ : ByteArray) = some [B [98]] := by
    unfold header_All.f
    rw [header_All.l0, if_pos (by decide), if_pos (by decide), if_pos (by decide)]
    have e : (rd_T39 [(⟨B [65], B [98]⟩ : S39)] 0) = ⟨B [65], B [98]⟩ := rfl
    rw [e, hs]
    simp only [Option.bind_some, if_true]
    rw [if_pos (by decide), header_All.l0, if_neg (by decide +kernel)]
    rfl
  unfold header_Get.f
  rw [ha]
  rfl
theorem awake_f (k : Nat) (hk : 1000 < k) : lanternlaw09_awake.f k = some true := by
  unfold lanternlaw09_awake.f
  have h1 : header_Parse.f k (([65, 58, 32, 98, 13, 10, 13, 10, 120] : List Int)) = some ([⟨B [65], B [98]⟩], 8, 0) := by
    have e := parse_f [65, 58, 32, 98, 13, 10, 13, 10, 120] (by decide) k (by simp; omega)
    have v : parseM [65, 58, 32, 98, 13, 10, 13, 10, 120] (([65, 58, 32, 98, 13, 10, 13, 10, 120] : List UInt8).length + 1) 0 [] = ([⟨B [65], B [98]⟩], 8, 0) := by kernel_rfl
    rw [v] at e
    exact e
  have h2 : header_Parse.f k (([65, 32, 58, 32, 98, 13, 10, 13, 10] : List Int)) = some ([], 0, 5) := by
    have e := parse_f [65, 32, 58, 32, 98, 13, 10, 13, 10] (by decide) k (by simp; omega)
    have v : parseM [65, 32, 58, 32, 98, 13, 10, 13, 10] (([65, 32, 58, 32, 98, 13, 10, 13, 10] : List UInt8).length + 1) 0 [] = ([], 0, 5) := by kernel_rfl
    rw [v] at e
    exact e
  rw [h1, h2]
  simp only [Option.bind_some]
  rw [get_awake k (by omega)]
  simp only [Option.bind_some, toList_L]
  rfl
theorem HeaderParses (l : List Int) (hl : ∀ n ∈ l, 0 ≤ n ∧ n < 256) : ∃ k, lanternlaw09_HeaderParses.f k l = some true := by
  refine ⟨11 * l.length + 2000, ?_⟩
  unfold lanternlaw09_HeaderParses.f
  by_cases h : (l.length : Int) > 20000
  · rw [if_pos h, awake_f _ (by omega)]
    rfl
  · rw [if_neg h]
    simp only [Option.bind_some, List.nil_append, List.length_nil]
    rw [if_pos (by omega)]
    obtain ⟨bs, rfl⟩ : ∃ bs, l = nums bs := ⟨Lib.bytesOf l, (nums_of hl).symm⟩
    rw [nums_length] at h
    rw [nums_length, parse_f bs (by omega) _ (by omega), ref_parse_f bs (by omega) _ (by omega)]
    simp only [Option.bind_some]
    have ha := parseM_acc bs (bs.length + 1) 0 [] (by simp)
    rw [same_f _ (by omega) _ (by omega)]
    simp only [Option.bind_some, if_true]
    rw [awake_f _ (by omega)]
    rfl
end Go.Proofs.YtfjfpgihgaiacaaDoor.Q
