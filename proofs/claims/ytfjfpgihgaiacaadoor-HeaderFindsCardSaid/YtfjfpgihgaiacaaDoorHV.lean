/- The contract of header.Without, by hand: slices.Clone, and all together. -/
import Derived.Test.YtfjfpgihgaiacaaDoorHZ
set_option linter.unusedVariables false
set_option linter.unusedSimpArgs false
namespace Go.Proofs.YtfjfpgihgaiacaaDoor.E
open Go Go.RowKit Go.Shelf Go.Lib Go.Proofs.YtfjfpgihgaiacaaDoorW.PrintWords Go.Proofs.YtfjfpgihgaiacaaDoorW.PrintLast Go.Proofs.YtfjfpgihgaiacaaDoorW.PrintMore Go.Proofs.YtfjfpgihgaiacaaDoor.P

theorem reps_enc2 {R : S39 → List Value → Prop} (hR : ∀ x cs, R x cs → cs = [.string x.f0, .string x.f1]) : ∀ (l : List S39) (inner : List Value), Reps R 2 l inner → inner = enc2 l
  | [], inner, h => by
    have := h.1
    simp at this
    rw [this]; rfl
  | x :: t, inner, h => by
    have h0 := hR x _ (h.2 0 x rfl)
    have ht := reps_enc2 hR t (inner.drop 2) ⟨by rw [List.length_drop, h.1]; simp; omega, fun j p hj => by
      have := h.2 (j + 1) p (by simpa using hj)
      rw [List.drop_drop, show 2 + j * 2 = (j + 1) * 2 by omega]
      exact this⟩
    rw [Nat.zero_mul, List.drop_zero] at h0
    rw [enc2, ← ht, ← List.take_append_drop 2 inner, h0]
    simp
theorem enc2_reps {R : S39 → List Value → Prop} (hR : ∀ x : S39, R x [.string x.f0, .string x.f1]) : ∀ l : List S39, Reps R 2 l (enc2 l)
  | [] => Reps.none _ _
  | x :: t => by
    have ht := enc2_reps hR t
    refine ⟨by rw [enc2_len], fun j p hj => ?_⟩
    cases j with
    | zero =>
      simp only [List.getElem?_cons_zero, Option.some.injEq] at hj
      subst hj
      exact hR x
    | succ j =>
      have := ht.2 j p (by simpa using hj)
      rw [show (j + 1) * 2 = j * 2 + 1 + 1 by omega, enc2]
      exact this
theorem infoH : (Tryd.prog.info? 39).map (fun i => (i.zero, i.size, i.bytes)) = some (some (.agg #[(.string ⟨#[]⟩), (.string ⟨#[]⟩)]), 2, 32) := by kernel_rfl
set_option maxHeartbeats 1000000 in
theorem clone_calls (A0 : Option Addr) (c0 : Nat) (l0 : List S39) (w : World) (hr0 : Kd.C k39 w A0 l0.length l0) (hl : l0.length ≤ 1000000) :
    Calls Tryd.prog 35 #[.slice A0 l0.length c0] w fun e w' => ∃ v0_ : Value, e = .returned v0_ ∧ Kd.R k39 39 w' w.heap.size (fun _ => True) v0_ l0 ∧ Below w.heap.size w w' := by
  have HL := Aside0.mk hl
  have HR := Aside0.mk hr0
  clear hl
  cases A0 with
  | none =>
    have hz : l0 = [] := by
      cases l0 with
      | nil => rfl
      | cons x l =>
        obtain ⟨ad, e, _⟩ := hr0.2.2 (by simp)
        cases e
    subst hz
    clear hr0
    have hk := fun W : World => Lib.run_eql_slice_nil (P := Tryd.prog) W 24 39 none 0 c0 0 0 Tryd.underlying24
    go_enter Tryd.func35, Tryd.ntmps35
    go_wp2
    go_ret
    exact ⟨_, rfl, Kd.R_nil _ _ _ _ _, Below.refl _ _⟩
  | some a =>
    clear hr0
    have hk := fun W : World => Lib.run_eql_slice_nil (P := Tryd.prog) W 24 39 (some a) l0.length c0 0 0 Tryd.underlying24
    go_enter Tryd.func35, Tryd.ntmps35
    go_wp2_with (at_builtin; refine Kd.R_append_rows k39 (Rr := k39.K (w.alloc (.cells #[] 39))) (w0 := w) w.heap.size rfl (.tmp 5) (.tmp 6) 24 39 (.agg #[(.string ⟨#[]⟩), (.string ⟨#[]⟩)]) 32 rfl Tryd.underlying24 infoH rfl (by decide) (by decide) (.slice (some ⟨w.heap.size, 0, none⟩) 0 0) [] l0 (some a) l0.length c0 (fun _ => True) (fun k => k ≠ w.heap.size) rfl rfl ?hO ?hR (fun x cs h => by rw [k39_open h]; exact k39_mkM _ _ _ _) (fun k hk => ⟨trivial, by simpa [Value.ownBlock] using hk⟩) (fun _ _ => trivial) ?hB ?hbase ?hl ?_; (case hO => exact ⟨fun _ _ => trivial, [], ⟨by simp, Or.inr ⟨w.heap.size, 0, #[], rfl, Nat.le_refl _, Array.getElem?_push_size, Nat.le_refl _, by decide, by simp, by simp⟩⟩, Reps.none _ _⟩); (case hR => exact Kd.C_below HR.out (below_alloc (Below.refl _ _) _)); (case hB => exact below_alloc (Below.refl _ _) _); (case hbase => simp); (case hl => have := HL.out; simp; omega); intro v1 w1 HO HB _ _)
    go_ret
    exact ⟨_, rfl, HO, HB⟩
end Go.Proofs.YtfjfpgihgaiacaaDoor.E
