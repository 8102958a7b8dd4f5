/- A slice that is read: any cut of any row (what a function hands back that gives a part of its argument). -/
import Derived.Test.YtipleegkonhfcaaGreatDoorP11
set_option linter.unusedVariables false
set_option linter.unusedSimpArgs false
namespace Go.Proofs.YtipleegkonhfcaaGreatDoor.E
open Go Go.RowKit Go.Shelf Go.Lib Go.Proofs.YtipleegkonhfcaaGreatDoorW.PrintWords Go.Proofs.YtipleegkonhfcaaGreatDoorW.PrintLast Go.Proofs.YtipleegkonhfcaaGreatDoorW.PrintMore
def Cs (w : World) (v : Value) (xs : List Int) : Prop := ∃ A c, v = .slice A xs.length c ∧ Kd.C (Kd.int .u8) w A xs.length xs ∧ xs.length ≤ c
theorem Cs.slice {w : World} {v : Value} {xs : List Int} (h : Cs w v xs) : ∃ A c, v = .slice A xs.length c := by
  obtain ⟨A, c, e, _, _⟩ := h
  exact ⟨A, c, e⟩
theorem Cs.reads {w : World} {A : Option Addr} {c : Nat} {xs : List Int} (h : Cs w (.slice A xs.length c) xs) : Kd.C (Kd.int .u8) w A xs.length xs ∧ xs.length ≤ c := by
  obtain ⟨A', c', e, h1, h2⟩ := h
  injection e with e1 _ e3
  subst e1 e3
  exact ⟨h1, h2⟩
theorem Cs.drewN {w : World} {v : Value} {xs : List Int} (h : Cs w v xs) (n : Nat) : Cs (w.drewN n) v xs := by
  obtain ⟨A, c, e, h1, h2⟩ := h
  exact ⟨A, c, e, Kd.C_drewN h1 n, h2⟩
theorem Cs.drew {w : World} {v : Value} {xs : List Int} (h : Cs w v xs) : Cs w.drew v xs := by
  obtain ⟨A, c, e, h1, h2⟩ := h
  exact ⟨A, c, e, Kd.C_drew h1, h2⟩
theorem Cs.below {w w' : World} {v : Value} {xs : List Int} (h : Cs w v xs) (hb : Below w.heap.size w w') : Cs w' v xs := by
  obtain ⟨A, c, e, h1, h2⟩ := h
  exact ⟨A, c, e, Kd.C_below h1 hb, h2⟩
theorem Cs.of_R {w : World} {base : Nat} {ok : Nat → Prop} {v : Value} {xs : List Int} (h : Kd.R (Kd.int .u8) 5 w base ok v xs) : Cs w v xs := by
  obtain ⟨A, c, e⟩ := Kd.R_slice h
  subst e
  exact ⟨A, c, rfl, (Kd.R_reads' h).2.2, (Kd.R_reads' h).2.1⟩
theorem Cs.nil (w : World) : Cs w (.slice none 0 0) [] := Cs.of_R (Kd.R_nil _ _ w w.heap.size (fun _ => True))
end Go.Proofs.YtipleegkonhfcaaGreatDoor.E
