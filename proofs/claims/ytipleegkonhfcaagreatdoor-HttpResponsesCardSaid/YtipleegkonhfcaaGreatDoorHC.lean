/- slices.Clone of headers, by hand. -/
import Derived.Test.YtipleegkonhfcaaGreatDoorU1
set_option linter.unusedVariables false
set_option linter.unusedSimpArgs false
namespace Go.Proofs.YtipleegkonhfcaaGreatDoor.E
open Go Go.RowKit Go.Shelf Go.Lib Go.Proofs.YtipleegkonhfcaaGreatDoorW.PrintWords Go.Proofs.YtipleegkonhfcaaGreatDoorW.PrintLast Go.Proofs.YtipleegkonhfcaaGreatDoorW.PrintMore Go.Proofs.YtipleegkonhfcaaGreatDoor.U

theorem infoH : (Tryz.prog.info? 67).map (fun i => (i.zero, i.size, i.bytes)) = some (some (.agg #[(.string ⟨#[]⟩), (.string ⟨#[]⟩)]), 2, 32) := by kernel_rfl
set_option maxHeartbeats 1000000 in
theorem clone_heads (A0 : Option Addr) (c0 : Nat) (l0 : List S67) (w : World) (hr0 : Kd.C k67 w A0 l0.length l0) (hl : l0.length ≤ 1000000) :
    Calls Tryz.prog 62 #[.slice A0 l0.length c0] w fun e w' => ∃ v0_ : Value, e = .returned v0_ ∧ Kd.R k67 67 w' w.heap.size (fun _ => True) v0_ l0 ∧ Below w.heap.size w w' := by
  have HL := Aside0.mk hl
  have HR := Aside0.mk hr0
  clear hl
  cases A0 with
  | none =>
    have hz : l0 = [] := by
      cases l0 with
      | nil => rfl
      | cons x l =>
        obtain ⟨ad, e, _⟩ := hr0.2.2 (by simp)
        cases e
    subst hz
    clear hr0
    have hk := fun W : World => Lib.run_eql_slice_nil (P := Tryz.prog) W 24 67 none 0 c0 0 0 Tryz.underlying24
    go_enter Tryz.func62, Tryz.ntmps62
    go_wp2
    go_ret
    exact ⟨_, rfl, Kd.R_nil _ _ _ _ _, Below.refl _ _⟩
  | some a =>
    clear hr0
    have hk := fun W : World => Lib.run_eql_slice_nil (P := Tryz.prog) W 24 67 (some a) l0.length c0 0 0 Tryz.underlying24
    go_enter Tryz.func62, Tryz.ntmps62
    go_wp2_with (at_builtin; refine Kd.R_append_rows k67 (Rr := k67.K (w.alloc (.cells #[] 67))) (w0 := w) w.heap.size rfl (.tmp 5) (.tmp 6) 24 67 (.agg #[(.string ⟨#[]⟩), (.string ⟨#[]⟩)]) 32 rfl Tryz.underlying24 infoH rfl (by decide) (by decide) (.slice (some ⟨w.heap.size, 0, none⟩) 0 0) [] l0 (some a) l0.length c0 (fun _ => True) (fun k => k ≠ w.heap.size) rfl rfl ?hO ?hR (fun x cs h => by rw [k67_open h]; exact k67_mkM _ _ _ _) (fun k hk => ⟨trivial, by simpa [Value.ownBlock] using hk⟩) (fun _ _ => trivial) ?hB ?hbase ?hl ?_; (case hO => exact ⟨fun _ _ => trivial, [], ⟨by simp, Or.inr ⟨w.heap.size, 0, #[], rfl, Nat.le_refl _, Array.getElem?_push_size, Nat.le_refl _, by decide, by simp, by simp⟩⟩, Reps.none _ _⟩); (case hR => exact Kd.C_below HR.out (below_alloc (Below.refl _ _) _)); (case hB => exact below_alloc (Below.refl _ _) _); (case hbase => simp); (case hl => have := HL.out; simp; omega); intro v1 w1 HO HB _ _)
    go_ret
    exact ⟨_, rfl, HO, HB⟩
def api_Header.f (l0 : List S67) : Option (List S67) := if l0.length ≤ 1000000 then some l0 else none
theorem api_Header.calls (A0 : Option Addr) (c0 : Nat) (l0 r : List S67) (w : World) (_hLW : LW w) (hr0 : Kd.C k67 w A0 l0.length l0) (_hc0 : l0.length ≤ c0) (h : api_Header.f l0 = some r) :
    Calls Tryz.prog 62 #[.slice A0 l0.length c0] w fun e w' => ∃ v0_ : Value, e = .returned v0_ ∧ Kd.R k67 67 w' w.heap.size (fun _ => True) v0_ r ∧ Below w.heap.size w w' := by
  unfold api_Header.f at h
  split at h
  · rename_i hl
    obtain rfl := Option.some.inj h
    exact clone_heads A0 c0 l0 w hr0 hl
  · cases h
end Go.Proofs.YtipleegkonhfcaaGreatDoor.E
