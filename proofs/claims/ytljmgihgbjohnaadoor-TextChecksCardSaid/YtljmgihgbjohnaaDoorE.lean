/- Contracts of Go's library, and of functions that go through a text rune by rune, in the form in which the printed functions call them. -/
import Derived.Test.YtljmgihgbjohnaaDoorShelf
import Derived.Test.YtljmgihgbjohnaaDoorWMore
import Derived.Test.YtljmgihgbjohnaaDoorWLast
import Derived.Shelf.Unicode.DecodeSlow
import Derived.Lib.RuneCount
import Derived.Lib.OthersKept
import Derived.Lib.ValidU
import Derived.Laws.RangeAny
import Derived.WalkKit
import Derived.Deep.LoopGhost
namespace Go.Proofs.YtljmgihgbjohnaaDoor.E
open Go.RowKit Go.Shelf Go.Lib Go.Proofs.YtljmgihgbjohnaaDoorW.PrintWords Go.Proofs.YtljmgihgbjohnaaDoorW.PrintLast Go.Proofs.YtljmgihgbjohnaaDoorW.PrintMore

/-- What every call asks of the world: the two tables of unicode/utf8 hold what their text lays. -/
def LW (w : World) : Prop := Lib.Utf8Tabs 0 1 w
theorem LW.below {w w' : World} (h : LW w) (hb : Below w.heap.size w w') : LW w' := Utf8Tabs_below h hb
theorem LW.drewN {w : World} (h : LW w) (n : Nat) : LW (w.drewN n) := LW.below h (pw_below_drewN (Below.refl _ _) n)
theorem LW.drew {w : World} (h : LW w) : LW w.drew := LW.below h (below_drew (Below.refl _ _))

/-! ### strings -/
theorem add_block_off (b o j : Nat) : (⟨b, o, none⟩ : Addr).add j = ⟨b, o + j, none⟩ := by unfold Addr.add; split <;> simp_all
/-- The cells of a row of strings that is read. -/
theorem string_cells {w : World} {A : Option Addr} {l : List ByteArray} (h : Kd.C Kd.string w A l.length l) (hp : 0 < l.length) :
    ∃ b o, A = some ⟨b, o, none⟩ ∧ (∀ (j : Nat) x, l[j]? = some x → w.cell? ⟨b, o + j, none⟩ = some (.string x)) ∧ b < w.heap.size := by
  obtain ⟨ad, rfl, hc⟩ := h.2.2 hp
  have cell : ∀ (j : Nat) x, l[j]? = some x → w.cell? (ad.add j) = some (.string x) := by
    intro j x hx
    obtain ⟨c, _, hk, hu⟩ := hc j x hx
    have hk' : c = [Value.string x] := hk
    subst hk'
    have := hu 0 (.string x) rfl
    simpa [Kd.string, Kd.scalar] using this
  obtain ⟨b, o, sp⟩ := ad
  have h0 := cell 0 _ (List.getElem?_eq_getElem hp)
  have hsp : sp = none := by
    cases sp with
    | none => rfl
    | some s =>
      simp only [Addr.add, World.cell?] at h0
      split at h0 <;> simp_all
  subst hsp
  refine ⟨b, o, rfl, fun j x hx => ?_, ?_⟩
  · rw [← add_block_off]; exact cell j x hx
  · exact World.block_lt_of_cell? w _ h0
def isAscii (s : ByteArray) : Bool := s.data.toList.all (fun b => decide (b.toNat < 128))
def strings_Trim.f (a0 a1 : ByteArray) : Option ByteArray :=
  if a0.size ≤ 9223372036854775807 ∧ a1.size < 4294967281 ∧ isAscii a1 = true then some ⟨(Lib.trimS a0.data.toList a1.data.toList).toArray⟩ else none
theorem strings_Trim.calls (a0 a1 : ByteArray) (r : ByteArray) (w : World) (_hLW : LW w) (h : strings_Trim.f a0 a1 = some r) :
    Calls Tryd.prog 29 #[.string a0, .string a1] w fun e w' => e = .returned (.string r) ∧ Below w.heap.size w w' := by
  unfold strings_Trim.f at h
  split at h
  · rename_i hc
    obtain ⟨h1, h2, h3⟩ := hc
    obtain rfl := Option.some.inj h
    exact Any.strings_Trim_laid Tryd.lays160 (by kernel_rfl) a0 a1 w h1 h2 (ascii_of_all h3)
  · cases h

def strings_IndexByte.f (a0 : ByteArray) (a1 : Int) : Option Int := some (Lib.indexByte a0.data.toList a1.toNat.toUInt8)
theorem strings_IndexByte.calls (a0 : ByteArray) (a1 : Int) (r : Int) (w : World) (_hLW : LW w) (h : strings_IndexByte.f a0 a1 = some r) :
    Calls Tryd.prog 27 #[.string a0, .int .u8 a1] w fun e w' => e = .returned (.int .i64 r) ∧ Below w.heap.size w w' := by
  obtain rfl := Option.some.inj h
  refine (Tryd.strings_IndexByte a0 a1 w).mono ?_
  rintro e w' ⟨rfl, rfl⟩
  exact ⟨rfl, Below.refl _ _⟩

def joinOf (l : List ByteArray) (sep : ByteArray) : List UInt8 := Lib.join (l.map (·.data.toList)) sep.data.toList
def strings_Join.f (l0 : List ByteArray) (a1 : ByteArray) : Option ByteArray :=
  if l0.length ≤ 140737488355328 ∧ (joinOf l0 a1).length ≤ 140737488355328 then some ⟨(joinOf l0 a1).toArray⟩ else none
theorem strings_Join.calls (A0 : Option Addr) (c0 : Nat) (l0 : List ByteArray) (a1 : ByteArray) (r : ByteArray) (w : World) (_hLW : LW w) (hr0 : Kd.C Kd.string w A0 l0.length l0) (hc0 : l0.length ≤ c0) (h : strings_Join.f l0 a1 = some r) :
    Calls Tryd.prog 30 #[.slice A0 l0.length c0, .string a1] w fun e w' => e = .returned (.string r) ∧ Below w.heap.size w w' := by
  unfold strings_Join.f at h
  split at h
  · rename_i hc
    obtain ⟨h1, h2⟩ := hc
    obtain rfl := Option.some.inj h
    cases l0 with
    | nil =>
      refine (Tryd.strings_Join_none A0 c0 a1 w).mono ?_
      rintro e w' ⟨rfl, rfl⟩
      exact ⟨rfl, Below.refl _ _⟩
    | cons x l =>
      obtain ⟨b, o, hA, hcell, hb⟩ := string_cells hr0 (by simp)
      subst hA
      exact Tryd.strings_Join b o c0 (x :: l) a1 w hcell hb h1 hc0 h2
  · cases h

/-! ### unicode/utf8 -/
def utf8_ValidString.f (a0 : ByteArray) : Option Bool := if a0.size ≤ 9223372036854775807 then some (Lib.validD a0.data.toList) else none
theorem utf8_ValidString.calls (a0 : ByteArray) (r : Bool) (w : World) (hLW : LW w) (h : utf8_ValidString.f a0 = some r) :
    Calls Tryd.prog 31 #[.string a0] w fun e w' => e = .returned (.bool r) ∧ Below w.heap.size w w' := by
  unfold utf8_ValidString.f at h
  split at h
  · rename_i hc
    obtain rfl := Option.some.inj h
    exact Any.utf8_ValidString Tryd.lays196 a0 w hc hLW
  · cases h
end Go.Proofs.YtljmgihgbjohnaaDoor.E
