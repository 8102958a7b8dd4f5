/- What came in, opened: names, and headers. -/
import Derived.Test.YtfjfpgihgaiacaaDoorH07
import Derived.Deep.Strs
set_option linter.unusedSimpArgs false
set_option linter.unusedVariables false
namespace Go.Proofs.YtfjfpgihgaiacaaDoor.Q
open Go Go.RowKit Go.ChangeShapes Go.WideShapes Go.Proofs.YtfjfpgihgaiacaaDoorW.PrintWords Go.Proofs.YtfjfpgihgaiacaaDoorB Go.Proofs.YtfjfpgihgaiacaaDoor.P

set_option maxRecDepth 100000 in
theorem open_names {H : Type} {enc : TypeId × Value → H} {W : World} {a : Option Addr} {len cap : Nat} {d : DataW H} {p : List MemPlace}
    (h : DataW.Trod enc Tryd.prog W 0 (fun _ => true) true 30 (.slice a len cap) d p) {ts : List TypeId} {ds : List (DataW H)} {j : Nat}
    (hsz : (DataW.weightsEach Tryd.prog ts ds).all (· ≤ reachBytes) = true) (ht : ts[j]? = some 30) (hd : ds[j]? = some d) :
    ∃ l : List ByteArray, len = l.length ∧ Kd.C Kd.string W a l.length l ∧ l.length ≤ cap ∧ FitsN l := by
  obtain ⟨fuel, hf⟩ := h
  rcases Go.Deep.open_strs Tryd.underlying30 Tryd.underlying9 (by kernel_rfl) hf with ⟨hcs, _⟩ | ⟨ad, ln, cp, m, Sx, hcs, _, hl, hm, hmm, hx, hcell⟩
  · simp [Value.cells] at hcs
    obtain ⟨rfl, rfl, rfl⟩ := hcs
    exact ⟨[], rfl, ⟨rfl, by simp, fun h0 => absurd h0 (by simp)⟩, Nat.le_refl _, trivial⟩
  · simp [Value.cells] at hcs
    obtain ⟨rfl, rfl, rfl⟩ := hcs
    have hlm : len ≤ m := by rw [hmm]; split <;> omega
    refine ⟨(List.range len).map Sx, by simp, ⟨by simp, by simp; unfold maxLen at hm; omega, fun _ => ⟨ad, rfl, fun i x hi => ?_⟩⟩, by simpa using hl, trivial⟩
    rw [List.getElem?_map] at hi
    obtain ⟨i', hi', rfl⟩ := Option.map_eq_some_iff.1 hi
    obtain ⟨hlt, rfl⟩ := List.getElem?_eq_some_iff.1 hi'
    rw [List.length_range] at hlt
    rw [List.getElem_range]
    refine ⟨[.string (Sx i)], rfl, rfl, fun k u hu => ?_⟩
    match k, hu with
    | 0, hu =>
      obtain rfl : Value.string (Sx i) = u := by simpa using hu
      have := (hcell i (by omega)).1
      rw [show i * (Kd.string).sz + 0 = i from Nat.mul_one i]
      exact this
end Go.Proofs.YtfjfpgihgaiacaaDoor.Q
