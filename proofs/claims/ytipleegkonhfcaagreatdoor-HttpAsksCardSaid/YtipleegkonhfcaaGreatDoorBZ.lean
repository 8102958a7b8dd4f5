/- ref11.body in the form in which a cut is read; a slice that is read beside a variable that is written. -/
import Derived.Test.YtipleegkonhfcaaGreatDoorP12
import Derived.Laws.IdiomCopy
set_option linter.unusedVariables false
set_option linter.unusedSimpArgs false
namespace Go.Proofs.YtipleegkonhfcaaGreatDoor.E
open Go Go.RowKit Go.Shelf Go.Lib Go.Proofs.YtipleegkonhfcaaGreatDoorW.PrintWords Go.Proofs.YtipleegkonhfcaaGreatDoorW.PrintLast Go.Proofs.YtipleegkonhfcaaGreatDoorW.PrintMore
/-- The row that is read lies in another block than g. -/
def Cf (g : Nat) (w : World) (v : Value) (xs : List Int) : Prop := ∃ A c, v = .slice A xs.length c ∧ Kd.C (Kd.int .u8) w A xs.length xs ∧ xs.length ≤ c ∧ (xs = [] ∨ ∃ ad, A = some ad ∧ ad.block ≠ g)
def notByte : Value → Bool
  | .int .u8 _ => false
  | _ => true
theorem Cs.apart {w : World} {v : Value} {xs : List Int} (h : Cs w v xs) {g t : Nat} {cells : Array Value} (hb : w.heap[g]? = some (.cells cells t (0, 0))) (hno : cells.toList.all notByte = true) : Cf g w v xs := by
  obtain ⟨A, c, e, h1, h2⟩ := h
  refine ⟨A, c, e, h1, h2, ?_⟩
  cases xs with
  | nil => exact Or.inl rfl
  | cons x xs =>
    refine Or.inr ?_
    obtain ⟨ad, ea, hc⟩ := Kd.at_int h1 0 (Int.le_refl _) (by simp)
    refine ⟨ad, ea, fun hg => ?_⟩
    have hn : ad.add (0 : Int).toNat = ad := by
      cases ad
      rfl
    rw [hn] at hc
    unfold World.cell? at hc
    rw [hg, hb] at hc
    dsimp only at hc
    split at hc
    · cases hc
    · have hm : (Value.int .u8 (rd (x :: xs) 0)) ∈ cells.toList := by
        have := Array.mem_of_getElem? hc
        exact Array.mem_toList_iff.2 this
      have := List.all_eq_true.1 hno _ hm
      cases this
theorem Cf.far {g : Nat} {w : World} {v : Value} {xs : List Int} (h : Cf g w v xs) (j : Nat) (u : Value) : Cf g (w.setCell ⟨g, j, none⟩ u) v xs := by
  obtain ⟨A, c, e, h1, h2, h3⟩ := h
  refine ⟨A, c, e, ?_, h2, h3⟩
  have hr := Kd.reads_of_C (enc := Value.int .u8) (d := (0 : Int)) (h1 := fun _ => rfl) h1
  refine Kd.C_of_reads (enc := Value.int .u8) (d := (0 : Int)) (h1 := fun _ => rfl) ⟨hr.1, hr.2.1, fun hn => ?_⟩
  obtain ⟨ad, ea, hc⟩ := hr.2.2 hn
  refine ⟨ad, ea, fun j' hj => ?_⟩
  rw [World.cell?_setCell_far]
  · exact hc j' hj
  · rcases h3 with rfl | ⟨ad', ea', hne⟩
    · simp at hn
    · rw [ea] at ea'
      injection ea' with ea'
      subst ea'
      intro q
      exact hne (by rw [show ad.block = (ad.add j').block from by unfold Addr.add; split <;> rfl, ← q])
theorem Cf.cs {g : Nat} {w : World} {v : Value} {xs : List Int} (h : Cf g w v xs) : Cs w v xs := by
  obtain ⟨A, c, e, h1, h2, _⟩ := h
  exact ⟨A, c, e, h1, h2⟩
theorem Cs.alloc {w : World} {v : Value} {xs : List Int} (h : Cs w v xs) (o : Obj) : Cs (w.alloc o) v xs := h.below (below_alloc (Below.refl _ _) o)
theorem Cs.back {w : World} {v : Value} {xs : List Int} {A : Option Addr} {c m : Nat} (h : Cs w (.slice A m c) xs) (hm : m = xs.length) : Kd.C (Kd.int .u8) w A m xs ∧ m ≤ c := by
  subst hm
  exact Cs.reads h
end Go.Proofs.YtipleegkonhfcaaGreatDoor.E
namespace Go.Proofs.YtipleegkonhfcaaGreatDoor.P
open Go Go.RowKit Go.Shelf Go.Lib Go.Proofs.YtipleegkonhfcaaGreatDoorW.PrintWords Go.Proofs.YtipleegkonhfcaaGreatDoorW.PrintLast Go.Proofs.YtipleegkonhfcaaGreatDoorW.PrintMore Go.Proofs.YtipleegkonhfcaaGreatDoor.E Go.Proofs.YtipleegkonhfcaaGreatDoor.U
theorem headers_heap : Kd.Heap k67 := Kd.heap_iso _ (Kd.heap_pair Kd.heap_string Kd.heap_string)
theorem lanternref11_body.callsX (k : Nat) (A0 : Option Addr) (c0 : Nat) (l0 : List Int) (A1 : Option Addr) (c1 : Nat) (l1 : List S67) (a2 : Bool) (r1 : List Int) (r2 r3 : Int) (w : World) (hLW : LW w) (hr0 : Kd.C (Kd.int .u8) w A0 l0.length l0) (hc0 : l0.length ≤ c0) (hr1 : Kd.C k67 w A1 l1.length l1) (hc1 : l1.length ≤ c1) (h : lanternref11_body.f k l0 l1 a2 = some (r1, r2, r3)) :
    Calls Tryz.prog 34 #[.slice A0 l0.length c0, .slice A1 l1.length c1, .bool a2] w fun e w' => ∃ v0_ : Value, e = .returned (.tuple #[v0_, .int .i64 r2, .int .i64 r3]) ∧ Cs w' v0_ r1 ∧ Below w.heap.size w w' := by
  refine (lanternref11_body.callsG k (fun k_ => w.heap.size ≤ k_) (.slice A0 l0.length c0) l0 A1 c1 l1 a2 r1 r2 r3 w w hLW (Below.refl _ _) ⟨A0, c0, rfl, hr0, hc0⟩ (Kd.C_kept_came headers_heap hr1 (Below.refl _ _) (fun _ h => h)) hc1 h).mono ?_
  rintro e w' ⟨v0_, rfl, h1, h2, _⟩
  exact ⟨v0_, rfl, h1, h2⟩
end Go.Proofs.YtipleegkonhfcaaGreatDoor.P
set_option linter.unusedVariables false
set_option linter.unusedSimpArgs false
namespace Go.Proofs.YtipleegkonhfcaaGreatDoor.E
open Go Go.RowKit Go.Shelf Go.Lib Go.Proofs.YtipleegkonhfcaaGreatDoorW.PrintWords Go.Proofs.YtipleegkonhfcaaGreatDoorW.PrintLast Go.Proofs.YtipleegkonhfcaaGreatDoorW.PrintMore
theorem Cf.farC {g : Nat} {w : World} {v : Value} {xs : List Int} (h : Cf g w v xs) (vs : List Value) (o : Nat) : Cf g (w.setCells g o vs) v xs := by
  obtain ⟨A, c, e, h1, h2, h3⟩ := h
  refine ⟨A, c, e, ?_, h2, h3⟩
  have hr := Kd.reads_of_C (enc := Value.int .u8) (d := (0 : Int)) (h1 := fun _ => rfl) h1
  refine Kd.C_of_reads (enc := Value.int .u8) (d := (0 : Int)) (h1 := fun _ => rfl) ⟨hr.1, hr.2.1, fun hn => ?_⟩
  obtain ⟨ad, ea, hc⟩ := hr.2.2 hn
  refine ⟨ad, ea, fun j' hj => ?_⟩
  rw [World.cell?_setCells_out]
  · exact hc j' hj
  · rcases h3 with rfl | ⟨ad', ea', hne⟩
    · simp at hn
    · rw [ea] at ea'
      injection ea' with ea'
      subst ea'
      intro q
      exact absurd (by rw [← q, show ad.block = (ad.add j').block from by unfold Addr.add; split <;> rfl]) hne
end Go.Proofs.YtipleegkonhfcaaGreatDoor.E
