/- The contract of header.Without, by hand: slices.DeleteFunc over the literal. -/
import Derived.Test.YtfjfpgihgaiacaaDoorHX
set_option linter.unusedVariables false
set_option linter.unusedSimpArgs false
namespace Go.Proofs.YtfjfpgihgaiacaaDoor.E
open Go Go.RowKit Go.Shelf Go.Lib Go.Proofs.YtfjfpgihgaiacaaDoorW.PrintWords Go.Proofs.YtfjfpgihgaiacaaDoorW.PrintLast Go.Proofs.YtfjfpgihgaiacaaDoorW.PrintMore Go.Proofs.YtfjfpgihgaiacaaDoor.P

/-- The cells of a row of headers. -/
def enc2 : List S39 → List Value
  | [] => []
  | h :: t => .string h.f0 :: .string h.f1 :: enc2 t
theorem enc2_len : ∀ l : List S39, (enc2 l).length = l.length * 2
  | [] => rfl
  | h :: t => by rw [enc2]; simp only [List.length_cons]; rw [enc2_len t]; omega
theorem enc2_app : ∀ l t : List S39, enc2 (l ++ t) = enc2 l ++ enc2 t
  | [], _ => rfl
  | h :: l, t => by rw [List.cons_append, enc2, enc2, enc2_app l t]; rfl
theorem enc2_get (tl : List Value) : ∀ (l : List S39) (j : Nat) (h : j < l.length), (enc2 l ++ tl)[j * 2]? = some (.string l[j].f0) ∧ (enc2 l ++ tl)[j * 2 + 1]? = some (.string l[j].f1)
  | x :: t, 0, _ => ⟨rfl, rfl⟩
  | x :: t, j + 1, h => by
    have := enc2_get tl t j (by simpa using h)
    rw [show (j + 1) * 2 = j * 2 + 1 + 1 by omega, enc2]
    exact this
theorem enc2_set (tl : List Value) (u : S39) : ∀ (l : List S39) (i : Nat), i < l.length → ((enc2 l ++ tl).set (i * 2) (.string u.f0)).set (i * 2 + 1) (.string u.f1) = enc2 (l.set i u) ++ tl
  | x :: t, 0, _ => rfl
  | x :: t, i + 1, h => by
    have := enc2_set tl u t i (by simpa using h)
    rw [show (i + 1) * 2 = i * 2 + 1 + 1 by omega, enc2, List.set_cons_succ, enc2]
    simp only [List.cons_append, List.set_cons_succ]
    rw [this]
def zer2 (n : Nat) : List Value := enc2 (List.replicate n z39)
theorem zero_cells2 (n : Nat) : (Builtin.zeroCells (Value.agg #[.string ⟨#[]⟩, .string ⟨#[]⟩]).cells n).toList = zer2 n := by
  have hs : (Value.agg #[.string ⟨#[]⟩, .string ⟨#[]⟩]).cells = #[Value.string ⟨#[]⟩, Value.string ⟨#[]⟩] := rfl
  rw [hs]
  apply List.ext_getElem
  · simp [Builtin.zeroCells, zer2, enc2_len]
  · intro i h1 h2
    have hz : ∀ (m i : Nat), i < m * 2 → (enc2 (List.replicate m z39))[i]? = some (.string ⟨#[]⟩) := by
      intro m
      induction m with
      | zero => intro i hi; omega
      | succ m ih =>
        intro i hi
        rw [List.replicate_succ, enc2]
        match i with
        | 0 => rfl
        | 1 => rfl
        | i + 2 => exact ih i (by omega)
    have hi : i < n * 2 := by simpa [Builtin.zeroCells] using h1
    have e2 : (zer2 n)[i]? = some (.string ⟨#[]⟩) := hz n i hi
    rw [show (zer2 n)[i] = .string ⟨#[]⟩ from by rw [List.getElem?_eq_getElem h2] at e2; exact Option.some.inj e2]
    simp [Builtin.zeroCells]
    have : i % 2 = 0 ∨ i % 2 = 1 := by omega
    rcases this with e | e <;> rw [e] <;> rfl
theorem run_clear2 (w : World) (t e ty : TypeId) (ht : Tryd.prog.underlying t = some (.slice e)) (hv : ∀ w, (zeroValue e).run Tryd.prog w = .ok (.agg #[.string ⟨#[]⟩, .string ⟨#[]⟩]) w) (b o n c : Nat) (hn : 0 < n)
    (hc : ∀ j, j < n * 2 → (w.cell? ⟨b, o + j, none⟩).isSome = true) (hf : ∀ j, j < n * 2 → w.frozen? ⟨b, o + j, none⟩ = false) :
    (Builtin.clear_ #[t] ty #[.slice (some ⟨b, o, none⟩) n c]).run Tryd.prog w = .ok (.tuple #[]) (w.setCells b o (zer2 n)) := by
  have hl : (zer2 n).length = n * 2 := by unfold zer2; rw [enc2_len, List.length_replicate]
  have hone : ∀ v ∈ zer2 n, v.oneCell' = true := by
    unfold zer2
    generalize List.replicate n z39 = l
    induction l with
    | nil => intro v hv; simp [enc2] at hv
    | cons x t ih =>
      intro v hv
      rw [enc2] at hv
      simp only [List.mem_cons] at hv
      rcases hv with rfl | rfl | hv
      · rfl
      · rfl
      · exact ih v hv
  have hst := run_storeCells_cells (P := Tryd.prog) b o (zer2 n) 0 w (by rw [hl]; simpa using hc) (by rw [hl]; simpa using hf) hone
  simp only [Nat.add_zero] at hst
  obtain ⟨m, rfl⟩ : ∃ m, n = m + 1 := ⟨n - 1, by omega⟩
  simp [Builtin.clear_, run_underlying ht, hv, zero_cells2, hst]
end Go.Proofs.YtfjfpgihgaiacaaDoor.E
