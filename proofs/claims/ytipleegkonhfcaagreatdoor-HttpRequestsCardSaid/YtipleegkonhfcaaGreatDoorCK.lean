/- slices.Compact at []string, of a row of the caller's own: it writes the row, its first cell stays. -/
import Derived.Test.YtipleegkonhfcaaGreatDoorU1
set_option linter.unusedVariables false
set_option linter.unusedSimpArgs false
namespace Go.Proofs.YtipleegkonhfcaaGreatDoor.E
open Go Go.RowKit Go.Shelf Go.Lib Go.Proofs.YtipleegkonhfcaaGreatDoorW.PrintWords Go.Proofs.YtipleegkonhfcaaGreatDoorW.PrintLast Go.Proofs.YtipleegkonhfcaaGreatDoorW.PrintMore Go.Proofs.YtipleegkonhfcaaGreatDoor.U
theorem strsOf_rd (s : List ByteArray) : Lib.strsOf (fun i => rdOf ByteArray.empty s (i : Int)) s.length = s.map (·.data.toList) := by
  apply List.ext_getElem
  · simp [Lib.strsOf]
  · intro i h1 h2
    simp only [Lib.strsOf, List.getElem_map, List.getElem_range]
    unfold rdOf
    rw [Int.toNat_natCast, List.getD_eq_getElem?_getD, List.getElem?_eq_getElem (by simpa using h2), Option.getD_some]
theorem below_setCells {w w1 : World} {base g : Nat} (hb : Below base w w1) (hg : base ≤ g) (vs : List Value) (o : Nat) : Below base w (w1.setCells g o vs) := by
  obtain ⟨q1, q2, q3, q4⟩ := setCells_same g vs o w1
  exact ⟨q1.trans hb.os, q2.trans hb.tape, q3.trans hb.output, by have := hb.size; rw [q4]; exact this, fun k hk => (setCells_far vs o k (by omega)).trans (hb.block k hk)⟩
theorem compact_head {α : Type} [Inhabited α] [DecidableEq α] (d : Array α) : ∀ m, ∃ t, Lib.compactUpTo d (m + 1) = d[0]! :: t
  | 0 => ⟨[], by rw [Lib.compactUpTo_succ, Lib.keeps_lt_one d 0 (by omega)]; rfl⟩
  | m + 1 => by
    obtain ⟨t, ht⟩ := compact_head d m
    exact ⟨t ++ (if Lib.keeps d (m + 1) then [d[m + 1]!] else []), by rw [Lib.compactUpTo_succ, ht]; rfl⟩
theorem own_cells {w2 : World} {base c2 : Nat} {A2 : Option Addr} {s : List ByteArray} {ok : Nat → Prop} (h : Kd.R Kd.string 9 w2 base ok (.slice A2 s.length c2) s) (hp : 0 < s.length) :
    ∃ g, A2 = some ⟨g, 0, none⟩ ∧ base ≤ g ∧ s.length ≤ c2 ∧ (∀ i, i < s.length → w2.cell? ⟨g, 0 + i, none⟩ = some (.string (rdOf ByteArray.empty s (i : Int)))) ∧ (∀ i, i < s.length → w2.frozen? ⟨g, 0 + i, none⟩ = false) := by
  have ho := Kd.own_of_R (enc := Value.string) h
  obtain ⟨_, ⟨_, hn⟩ | ⟨g, cap, cur, hv, hg, _, hc, _⟩⟩ := ho
  · omega
  · injection hv with e1 _ e3
    subst e1 e3
    refine ⟨g, rfl, hg, hc, fun i hi => ?_, fun i hi => ?_⟩
    · have := (Kd.R_celln (enc := Value.string) ByteArray.empty h (i : Int) (by omega) (by omega)).1
      rw [Int.toNat_natCast] at this
      rw [Nat.zero_add]
      exact this
    · have := (Kd.R_celln (enc := Value.string) ByteArray.empty h (i : Int) (by omega) (by omega)).2
      rw [Int.toNat_natCast] at this
      rw [Nat.zero_add]
      exact this
theorem own_slice {w2 : World} {base : Nat} {v : Value} {s : List ByteArray} {ok : Nat → Prop} (h : Kd.R Kd.string 9 w2 base ok v s) (hp : 0 < s.length) :
    ∃ g c2, v = .slice (some ⟨g, 0, none⟩) s.length c2 ∧ base ≤ g ∧ s.length ≤ c2 ∧ (∀ i, i < s.length → w2.cell? ⟨g, 0 + i, none⟩ = some (.string (rdOf ByteArray.empty s (i : Int)))) ∧ (∀ i, i < s.length → w2.frozen? ⟨g, 0 + i, none⟩ = false) := by
  obtain ⟨A2, c2, e⟩ := Kd.R_slice h
  subst e
  obtain ⟨g, e, h1, h2, h3, h4⟩ := own_cells h hp
  subst e
  exact ⟨g, c2, rfl, h1, h2, h3, h4⟩
theorem compact_call (g c2 M : Nat) (s : List ByteArray) (hM : (Lib.compact (s.map (·.data.toList))).length = M) (w w2 : World) (base : Nat) (hb : Below base w w2) (hg : base ≤ g) (hp : 0 < s.length) (hcap : s.length ≤ c2) (hlen : s.length ≤ 9223372036854775807)
    (hcell : ∀ i, i < s.length → w2.cell? ⟨g, 0 + i, none⟩ = some (.string (rdOf ByteArray.empty s (i : Int)))) (hfr : ∀ i, i < s.length → w2.frozen? ⟨g, 0 + i, none⟩ = false) :
    Calls Tryz.prog 86 #[.slice (some ⟨g, 0, none⟩) s.length c2] w2 fun e w3 => e = .returned (.slice (some ⟨g, 0, none⟩) M c2) ∧ w3.cell? ⟨g, 0, none⟩ = some (.string (s.getD 0 ByteArray.empty)) ∧ Below base w w3 := by
  subst hM
  refine (Tryz.slices_Compact_string_cells g 0 s.length c2 (fun i => rdOf ByteArray.empty s (i : Int)) w2 hlen hcap hcell hfr).mono ?_
  rw [strsOf_rd]
  rintro e w3 ⟨rfl, q, rfl⟩
  refine ⟨rfl, ?_, below_setCells (pw_below_drewN hb q) hg _ _⟩
  have hz : (s.map (·.data.toList)).length = s.length := List.length_map _
  obtain ⟨x, r, rfl⟩ : ∃ x r, s = x :: r := by
    cases s with
    | nil => simp at hp
    | cons x r => exact ⟨x, r, rfl⟩
  obtain ⟨t, ht⟩ := compact_head (((x :: r).map (·.data.toList)).toArray) r.length
  have hc : Lib.compact ((x :: r).map (·.data.toList)) = x.data.toList :: t := by
    unfold Lib.compact
    rw [hz]
    exact ht
  have hlt : (Lib.compact ((x :: r).map (·.data.toList))).length ≤ (x :: r).length := by
    have : ((List.range ((x :: r).map (·.data.toList)).length).filter (Lib.keeps ((x :: r).map (·.data.toList)).toArray)).length ≤ (List.range ((x :: r).map (·.data.toList)).length).length := List.length_filter_le _ _
    rw [List.length_range, List.length_map] at this
    unfold Lib.compact Lib.compactUpTo
    rw [List.length_map, List.length_map]
    exact this
  rw [hc] at hlt ⊢
  have hin := World.cell?_setCells_in g (((x.data.toList :: t) ++ List.replicate ((x :: r).length - (x.data.toList :: t).length) []).map (fun l : List UInt8 => Value.string ⟨l.toArray⟩)) 0 (w2.drewN q) (fun j hj => by
    have hj' : j < (x :: r).length := by
      rw [List.length_map, List.length_append, List.length_replicate] at hj
      omega
    have := hcell j hj'
    show ((w2.drewN q).cell? _).isSome = true
    rw [show (w2.drewN q).cell? ⟨g, 0 + j, none⟩ = w2.cell? ⟨g, 0 + j, none⟩ from rfl, this]
    rfl) 0 (by simp)
  rw [Nat.add_zero] at hin
  rw [hin]
  rfl
/-- What slices.Compact answers of texts (only its length is looked at). -/
def slices_Compact_string_string.f (s : List ByteArray) : Option (List ByteArray) :=
  if s.length ≤ 9223372036854775807 then some ((Lib.compact (s.map (·.data.toList))).map fun l => ⟨l.toArray⟩) else none
theorem compact_calls {g c2 : Nat} {s t : List ByteArray} {w w2 : World} {base : Nat} {ok : Nat → Prop} (hR : Kd.R Kd.string 9 w2 base ok (.slice (some ⟨g, 0, none⟩) s.length c2) s) (hb : Below base w w2) (hp : 0 < s.length) (hf : slices_Compact_string_string.f s = some t) :
    Calls Tryz.prog 86 #[.slice (some ⟨g, 0, none⟩) s.length c2] w2 fun e w3 => e = .returned (.slice (some ⟨g, 0, none⟩) t.length c2) ∧ w3.cell? ⟨g, 0, none⟩ = some (.string (rdOf ByteArray.empty s 0)) ∧ Below base w w3 := by
  unfold slices_Compact_string_string.f at hf
  by_cases hl : s.length ≤ 9223372036854775807
  · rw [if_pos hl] at hf
    injection hf with hf
    obtain ⟨g', e, h1, h2, h3, h4⟩ := own_cells hR hp
    injection e with e
    injection e with e
    subst e
    refine (compact_call g c2 t.length s (by rw [← hf, List.length_map]) w w2 base hb h1 hp h2 hl h3 h4).mono ?_
    rintro e w3 ⟨q1, q2, q3⟩
    refine ⟨q1, ?_, q3⟩
    rw [q2]
    rfl
  · rw [if_neg hl] at hf
    cases hf
end Go.Proofs.YtipleegkonhfcaaGreatDoor.E
