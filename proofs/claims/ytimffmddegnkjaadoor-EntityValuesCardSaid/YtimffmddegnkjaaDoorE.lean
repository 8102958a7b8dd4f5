/- Contracts, by hand, of functions that the printed ones call: lw_utf8_maxlen_err, underscore, strings_indexbyte, strings_cutprefix, strings_cut, strings_replaceall. -/
import Derived.Test.YtimffmddegnkjaaDoorShelf2
import Derived.Test.YtimffmddegnkjaaDoorShelf
import Derived.Test.YtimffmddegnkjaaDoorWMore
import Derived.Test.YtimffmddegnkjaaDoorWLast
import Derived.WalkKit
import Derived.Deep.LoopGhost
import Derived.Laws.RangeAny
import Derived.Shelf.Unicode.DecodeSlow
import Derived.Lib.ReplaceLaws
namespace Go.Proofs.YtimffmddegnkjaaDoor.E
open Go Go.RowKit Go.Shelf Go.Lib Go.Proofs.YtimffmddegnkjaaDoorW.PrintWords Go.Proofs.YtimffmddegnkjaaDoorW.PrintLast Go.Proofs.YtimffmddegnkjaaDoorW.PrintMore
set_option linter.unusedVariables false
set_option linter.unusedSimpArgs false

/-- What every call asks of the world: the two tables of unicode/utf8 hold what their text lays; internal/bytealg.MaxLen holds some number; strconv's two errors are errors. -/
def LW (w : World) : Prop := (Lib.Utf8Tabs 0 1 w ∧ ∃ m, w.cell? ⟨2, 0, none⟩ = some (.int .i64 m)) ∧ (∃ ev, w.cell? ⟨3, 0, none⟩ = some ev ∧ (ev = .nilIface ∨ ∃ te pe, ev = .iface te pe)) ∧ ∃ ev, w.cell? ⟨4, 0, none⟩ = some ev ∧ (ev = .nilIface ∨ ∃ te pe, ev = .iface te pe)
theorem LW.below {w w' : World} (h : LW w) (hb : Below w.heap.size w w') : LW w' :=
  let ⟨⟨h1, m, hm⟩, ⟨e1, he1, hf1⟩, e2, he2, hf2⟩ := h
  ⟨⟨Utf8Tabs_below h1 hb, m, (hb.cell (World.block_lt_of_cell? w _ hm)).trans hm⟩, ⟨e1, (hb.cell (World.block_lt_of_cell? w _ he1)).trans he1, hf1⟩, e2, (hb.cell (World.block_lt_of_cell? w _ he2)).trans he2, hf2⟩
theorem LW.tabs {w : World} (h : LW w) : Lib.Utf8Tabs 0 1 w := h.1.1
theorem LW.maxlen {w : World} (h : LW w) : ∃ m, w.cell? ⟨2, 0, none⟩ = some (.int .i64 m) := h.1.2
theorem LW.errs {w : World} (h : LW w) : (∃ ev, w.cell? ⟨3, 0, none⟩ = some ev ∧ (ev = .nilIface ∨ ∃ te pe, ev = .iface te pe)) ∧ ∃ ev, w.cell? ⟨4, 0, none⟩ = some ev ∧ (ev = .nilIface ∨ ∃ te pe, ev = .iface te pe) := h.2
theorem LW.drewN {w : World} (h : LW w) (n : Nat) : LW (w.drewN n) := LW.below h (pw_below_drewN (Below.refl _ _) n)
theorem LW.drew {w : World} (h : LW w) : LW w.drew := LW.below h (below_drew (Below.refl _ _))

/-- internal/strconv.underscoreOK is never called where the base is told: nothing is said of it. -/
def strconv_underscoreOK.f (a0 : ByteArray) : Option Bool := if a0.size < 0 then some true else none
theorem strconv_underscoreOK.calls (a0 : ByteArray) (r : Bool) (w : World) (_hLW : LW w) (h : strconv_underscoreOK.f a0 = some r) :
    Calls Tryd.prog 67 #[.string a0] w fun e w' => e = .returned (.bool r) ∧ Below w.heap.size w w' := by
  unfold strconv_underscoreOK.f at h
  rw [if_neg (Nat.not_lt_zero _)] at h
  cases h

def strings_IndexByte.f (a0 : ByteArray) (a1 : Int) : Option Int := some (Lib.indexByte a0.data.toList a1.toNat.toUInt8)
theorem strings_IndexByte.calls (a0 : ByteArray) (a1 : Int) (r : Int) (w : World) (_hLW : LW w) (h : strings_IndexByte.f a0 a1 = some r) :
    Calls Tryd.prog 22 #[.string a0, .int .u8 a1] w fun e w' => e = .returned (.int .i64 r) ∧ Below w.heap.size w w' := by
  obtain rfl := Option.some.inj h
  refine (Tryd.strings_IndexByte a0 a1 w).mono ?_
  rintro e w' ⟨rfl, rfl⟩
  exact ⟨rfl, Below.refl _ _⟩

def cutPrefixOf (a0 a1 : ByteArray) : ByteArray × Bool := (⟨(Lib.trimPrefix a0.data.toList a1.data.toList).toArray⟩, Lib.hasPrefix a0.data.toList a1.data.toList)
def strings_CutPrefix.f (a0 a1 : ByteArray) : Option (ByteArray × Bool) := some (cutPrefixOf a0 a1)
theorem strings_CutPrefix.calls (a0 a1 : ByteArray) (r0 : ByteArray) (r1 : Bool) (w : World) (_hLW : LW w) (h : strings_CutPrefix.f a0 a1 = some (r0, r1)) :
    Calls Tryd.prog 36 #[.string a0, .string a1] w fun e w' => e = .returned (.tuple #[.string r0, .bool r1]) ∧ Below w.heap.size w w' := by
  have h' := Option.some.inj h
  unfold cutPrefixOf at h'
  simp only [Prod.mk.injEq] at h'
  obtain ⟨rfl, rfl⟩ := h'
  refine (Tryd.strings_CutPrefix a0 a1 w).mono ?_
  rintro e w' ⟨rfl, rfl⟩
  exact ⟨rfl, Below.refl _ _⟩

def cutOf (a0 a1 : ByteArray) : ByteArray × ByteArray × Bool := (⟨(Lib.cut a0.data.toList a1.data.toList).1.toArray⟩, ⟨(Lib.cut a0.data.toList a1.data.toList).2.1.toArray⟩, (Lib.cut a0.data.toList a1.data.toList).2.2)
def strings_Cut.f (a0 a1 : ByteArray) : Option (ByteArray × ByteArray × Bool) := if a0.size < 4294967281 then some (cutOf a0 a1) else none
theorem strings_Cut.calls (a0 a1 : ByteArray) (r0 r1 : ByteArray) (r2 : Bool) (w : World) (hLW : LW w) (h : strings_Cut.f a0 a1 = some (r0, r1, r2)) :
    Calls Tryd.prog 19 #[.string a0, .string a1] w fun e w' => e = .returned (.tuple #[.string r0, .string r1, .bool r2]) ∧ Below w.heap.size w w' := by
  unfold strings_Cut.f at h
  obtain ⟨m, hm⟩ := hLW.maxlen
  split at h
  · rename_i hc
    have h' := Option.some.inj h
    unfold cutOf at h'
    simp only [Prod.mk.injEq] at h'
    obtain ⟨rfl, rfl, rfl⟩ := h'
    refine (Tryd.strings_Cut a0 a1 m w hc hm).mono ?_
    rintro e w' ⟨rfl, n, rfl⟩
    exact ⟨rfl, pw_below_drewN (Below.refl _ _) n⟩
  · cases h

def strings_ReplaceAll.f (a0 a1 a2 : ByteArray) : Option ByteArray := if a0.size < 4294967281 ∧ 1 ≤ a1.size ∧ a2.size ≤ 1 then some ⟨(Lib.replaceAll a0.data.toList a1.data.toList a2.data.toList).toArray⟩ else none
theorem strings_ReplaceAll.calls (a0 a1 a2 : ByteArray) (r : ByteArray) (w : World) (hLW : LW w) (h : strings_ReplaceAll.f a0 a1 a2 = some r) :
    Calls Tryd.prog 31 #[.string a0, .string a1, .string a2] w fun e w' => e = .returned (.string r) ∧ Below w.heap.size w w' := by
  unfold strings_ReplaceAll.f at h
  obtain ⟨m, hm⟩ := hLW.maxlen
  split at h
  · rename_i hc
    obtain ⟨h1, h2, h3⟩ := hc
    obtain rfl := Option.some.inj h
    have hk := countB_mul_le a1 h2 a0.size a0 (Nat.le_refl _)
    have hk1 : Lib.countB a0 a1 ≤ a0.size := Nat.le_trans (Nat.le_mul_of_pos_right _ h2) hk
    have hk2 : Lib.countB a0 a1 * a2.size ≤ a0.size := Nat.le_trans (Nat.mul_le_mul_left _ h3) (by omega)
    exact Tryd.strings_ReplaceAll a0 a1 a2 m w h1 hm h2 (by omega)
  · cases h
end Go.Proofs.YtimffmddegnkjaaDoor.E
