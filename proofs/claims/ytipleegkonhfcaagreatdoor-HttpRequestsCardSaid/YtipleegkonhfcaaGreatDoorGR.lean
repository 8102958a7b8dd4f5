/- slices.Grow of no bytes, by hand. -/
import Derived.Test.YtipleegkonhfcaaGreatDoorE
import Derived.Test.YtipleegkonhfcaaGreatDoorV
import Derived.Test.YtipleegkonhfcaaGreatDoorWZeros
set_option linter.unusedVariables false
set_option linter.unusedSimpArgs false
namespace Go.Proofs.YtipleegkonhfcaaGreatDoor.E
open Go Go.RowKit Go.Shelf Go.Lib Go.Proofs.YtipleegkonhfcaaGreatDoorW.PrintWords Go.Proofs.YtipleegkonhfcaaGreatDoorW.PrintLast Go.Proofs.YtipleegkonhfcaaGreatDoorW.PrintMore

theorem infoB8 : (Tryz.prog.info? 5).map (fun i => (i.zero, i.size, i.bytes)) = some (some (.int .u8 0), 1, 1) := by kernel_rfl
def slices_Grow_byte_byte.f (l0 : List Int) (n : Int) : Option (List Int) := if l0 = [] ∧ 0 ≤ n ∧ n ≤ 140737488355328 then some [] else none
set_option maxHeartbeats 1000000 in
theorem slices_Grow_byte_byte.calls (A0 : Option Addr) (c0 : Nat) (l0 : List Int) (n : Int) (r : List Int) (w : World) (_hLW : LW w) (hr0 : Kd.C (Kd.int .u8) w A0 l0.length l0) (_hc0 : l0.length ≤ c0) (h : slices_Grow_byte_byte.f l0 n = some r) (hz : A0 = none ∧ c0 = 0 := by exact ⟨rfl, rfl⟩) :
    Calls Tryz.prog 97 #[.slice A0 l0.length c0, .int .i64 n] w fun e w' => ∃ v0_ : Value, e = .returned v0_ ∧ Kd.R (Kd.int .u8) 5 w' w.heap.size (fun _ => True) v0_ r ∧ Below w.heap.size w w' := by
  unfold slices_Grow_byte_byte.f at h
  split at h
  · rename_i hl
    obtain rfl := Option.some.inj h
    obtain ⟨rfl, hn⟩ := hl
    obtain ⟨rfl, rfl⟩ := hz
    clear h hr0
    have b1 : decide (n < 0) = false := decide_eq_false (by omega)
    have hw : wrap64 n = n := by unfold wrap64; omega
    have hwi : IntKind.i64.wrap n = n := by first | (rw [i64_w]; exact hw) | (simp only [i64_w]; exact hw)
    have HN := Aside0.mk hn
    have HB := Aside0.mk (Below.refl w.heap.size w)
    by_cases hp : 0 < n
    · have b2 : (0 < n) = True := eq_true hp
      have HP := Aside0.mk hp
      clear hn hp
      go_enter Tryz.func97, Tryz.ntmps97
      go_wp2_with (at_builtin; refine Kd.R_append_zeros (Kd.int .u8) (w0 := w) w.heap.size rfl (.tmp 20) (.tmp 21) 22 3 5 (.int .u8 0) 1 rfl Tryz.underlying22 Tryz.underlying3 infoB8 rfl (by decide) (by decide) (.slice none 0 0) [] (0 : Int) n (fun _ => True) rfl rfl ?hZ ?hF ?hO ?h0 ?hB ?hb ?hl ?_; (case hZ => rfl); (case hF => exact fun _ _ => trivial); (case hO => exact Kd.R_nil _ _ _ _ _); (case h0 => exact HN.out.1); (case hB => exact HB.out); (case hb => exact Nat.le_refl _); (case hl => have := HN.out; simp; omega); intro v1 w1 HO HB1 _ _; obtain ⟨A1, c1, e1⟩ := Kd.R_slice HO; subst e1)
      go_ret
      have ht := Kd.R_take (m := 0) HO (Nat.zero_le _)
      rw [List.take_zero] at ht
      exact ⟨_, rfl, ht, HB1⟩
    · have b2 : (0 < n) = False := eq_false hp
      clear hn hp
      go_enter Tryz.func97, Tryz.ntmps97
      go_wp2
      go_ret
      exact ⟨_, rfl, Kd.R_nil _ _ _ _ _, Below.refl _ _⟩
  · cases h
end Go.Proofs.YtipleegkonhfcaaGreatDoor.E
