/- The contract of strconv.ParseUint where it reads a number, over the printed inner one, by hand. -/
import Derived.Test.YtipleegkonhfcaaGreatDoorI2
import Derived.Test.YtipleegkonhfcaaGreatDoorE
set_option linter.unusedVariables false
set_option linter.unusedSimpArgs false
namespace Go.Proofs.YtipleegkonhfcaaGreatDoor.E
open Go Go.RowKit Go.Shelf Go.Lib Go.Proofs.YtipleegkonhfcaaGreatDoorW.PrintWords Go.Proofs.YtipleegkonhfcaaGreatDoorW.PrintLast Go.Proofs.YtipleegkonhfcaaGreatDoorW.PrintMore

def strconv_ParseUint.f (k : Nat) (a0 : ByteArray) (a1 a2 : Int) : Option (Int × Option Int) := (I.strconv_ParseUint.f k a0 a1 a2).bind fun r => if r.2 = none then some (r.1, none) else none
theorem strconv_ParseUint.mono : ∀ a0 a1 a2 k, LeO (strconv_ParseUint.f k a0 a1 a2) (strconv_ParseUint.f (k + 1) a0 a1 a2) := by
  intro a0 a1 a2 k
  unfold strconv_ParseUint.f
  exact LeO.bind (I.strconv_ParseUint.mono a0 a1 a2 k) (fun _ => LeO.refl _)
set_option maxHeartbeats 4000000 in
set_option maxRecDepth 100000 in
theorem strconv_ParseUint.plain (k : Nat) (a0 : ByteArray) (a1 a2 : Int) (r1 : Int) (r2 : Option Int) (w : World) (hLW : LW w) (h : strconv_ParseUint.f k a0 a1 a2 = some (r1, r2)) :
    r2 = none ∧ Calls Tryz.prog 111 #[.string a0, .int .i64 a1, .int .i64 a2] w fun e w' => e = .returned (.tuple #[.int .u64 r1, .nilIface]) ∧ Below w.heap.size w w' := by
  obtain ⟨⟨n, er⟩, hp, h⟩ := Option.bind_eq_some_iff.mp h
  have HLW := Aside0.mk hLW
  clear hLW
  cases er with
  | some c =>
    dsimp only at h
    rw [if_neg (by simp)] at h
    cases h
  | none =>
    rw [if_pos rfl] at h
    simp only [Option.some.injEq, Prod.mk.injEq] at h
    obtain ⟨rfl, rfl⟩ := h
    refine ⟨rfl, ?_⟩
    have HC : ∀ W, LW W → Calls Tryz.prog 131 #[.string a0, .int .i64 a1, .int .i64 a2] W fun e w' => e = .returned (.tuple #[.int .u64 n, .nilIface]) ∧ Below W.heap.size W w' := fun W hl => I.strconv_ParseUint.calls k a0 a1 a2 n none W hl hp
    clear hp
    go_enter Tryz.func111, Tryz.ntmps111
    go_wp2_with (go_at_call 131; refine (HC _ HLW.out).mono ?_; rintro e w1 ⟨rfl, hb1⟩)
    go_ret2
    exact ⟨rfl, hb1⟩
theorem strconv_ParseUint.calls (k : Nat) (a0 : ByteArray) (a1 a2 : Int) (r1 : Int) (r2 : Option Int) (w : World) (hLW : LW w) (h : strconv_ParseUint.f k a0 a1 a2 = some (r1, r2)) :
    Calls Tryz.prog 111 #[.string a0, .int .i64 a1, .int .i64 a2] w fun e w' => e = .returned (.tuple #[.int .u64 r1, match r2 with | none => .nilIface | some c => .iface 134 (.int .i64 c)]) ∧ Below w.heap.size w w' := by
  obtain ⟨rfl, hc⟩ := strconv_ParseUint.plain k a0 a1 a2 r1 r2 w hLW h
  exact hc
end Go.Proofs.YtipleegkonhfcaaGreatDoor.E
