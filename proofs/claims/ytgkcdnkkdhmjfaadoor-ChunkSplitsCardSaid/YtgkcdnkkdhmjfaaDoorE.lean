/- Contracts, by hand, of functions that the printed ones call: lw_utf8_maxlen_bits, underscore, block_off, trim, trimsuffix, strings_cut, strings_indexbyte, bytes_indexbyte. -/
import Derived.Test.YtgkcdnkkdhmjfaaDoorShelf
import Derived.Test.YtgkcdnkkdhmjfaaDoorWMore
import Derived.Test.YtgkcdnkkdhmjfaaDoorWLast
import Derived.WalkKit
import Derived.Deep.LoopGhost
import Derived.Laws.RangeAny
import Derived.Shelf.Unicode.DecodeSlow
import Derived.Lib.OthersKept
import Derived.Lib.ValidU
import Derived.Shelf.Bytes.SlIndexAt
import Derived.Shelf.Bytes.IndexByte
namespace Go.Proofs.YtgkcdnkkdhmjfaaDoor.E
open Go Go.RowKit Go.Shelf Go.Lib Go.Proofs.YtgkcdnkkdhmjfaaDoorW.PrintWords Go.Proofs.YtgkcdnkkdhmjfaaDoorW.PrintLast Go.Proofs.YtgkcdnkkdhmjfaaDoorW.PrintMore
set_option linter.unusedVariables false
set_option linter.unusedSimpArgs false

/-- What every call asks of the world: the two tables of unicode/utf8 hold what their text lays; internal/bytealg.MaxLen holds some number; math/bits.deBruijn64tab tells 16's noughts. -/
def LW (w : World) : Prop := (Lib.Utf8Tabs 5 6 w ∧ ∃ m, w.cell? ⟨1, 0, none⟩ = some (.int .i64 m)) ∧ w.cell? ⟨8, 15, none⟩ = some (.int .u8 4)
theorem LW.below {w w' : World} (h : LW w) (hb : Below w.heap.size w w') : LW w' :=
  let ⟨⟨h1, m, hm⟩, h2⟩ := h
  ⟨⟨Utf8Tabs_below h1 hb, m, (hb.cell (World.block_lt_of_cell? w _ hm)).trans hm⟩, (hb.cell (World.block_lt_of_cell? w _ h2)).trans h2⟩
theorem LW.tabs {w : World} (h : LW w) : Lib.Utf8Tabs 5 6 w := h.1.1
theorem LW.maxlen {w : World} (h : LW w) : ∃ m, w.cell? ⟨1, 0, none⟩ = some (.int .i64 m) := h.1.2
theorem LW.bits {w : World} (h : LW w) : w.cell? ⟨8, 15, none⟩ = some (.int .u8 4) := h.2
theorem LW.drewN {w : World} (h : LW w) (n : Nat) : LW (w.drewN n) := LW.below h (pw_below_drewN (Below.refl _ _) n)
theorem LW.drew {w : World} (h : LW w) : LW w.drew := LW.below h (below_drew (Below.refl _ _))

/-- internal/strconv.underscoreOK is never called where the base is told: nothing is said of it. -/
def strconv_underscoreOK.f (a0 : ByteArray) : Option Bool := if a0.size < 0 then some true else none
theorem strconv_underscoreOK.calls (a0 : ByteArray) (r : Bool) (w : World) (_hLW : LW w) (h : strconv_underscoreOK.f a0 = some r) :
    Calls Tryd.prog 69 #[.string a0] w fun e w' => e = .returned (.bool r) ∧ Below w.heap.size w w' := by
  unfold strconv_underscoreOK.f at h
  rw [if_neg (Nat.not_lt_zero _)] at h
  cases h

theorem add_block_off (b o j : Nat) : (⟨b, o, none⟩ : Addr).add j = ⟨b, o + j, none⟩ := by unfold Addr.add; split <;> simp_all

def isAscii (s : ByteArray) : Bool := s.data.toList.all (fun b => decide (b.toNat < 128))
def strings_Trim.f (a0 a1 : ByteArray) : Option ByteArray :=
  if a0.size ≤ 9223372036854775807 ∧ a1.size < 4294967281 ∧ isAscii a1 = true then some ⟨(Lib.trimS a0.data.toList a1.data.toList).toArray⟩ else none
theorem strings_Trim.calls (a0 a1 : ByteArray) (r : ByteArray) (w : World) (_hLW : LW w) (h : strings_Trim.f a0 a1 = some r) :
    Calls Tryd.prog 28 #[.string a0, .string a1] w fun e w' => e = .returned (.string r) ∧ Below w.heap.size w w' := by
  unfold strings_Trim.f at h
  split at h
  · rename_i hc
    obtain ⟨h1, h2, h3⟩ := hc
    obtain rfl := Option.some.inj h
    exact Any.strings_Trim_laid Tryd.lays160 (by kernel_rfl) a0 a1 w h1 h2 (ascii_of_all h3)
  · cases h

def strings_TrimSuffix.f (a0 a1 : ByteArray) : Option ByteArray := if a0.size ≤ 9223372036854775807 then some ⟨(Lib.trimSuffix a0.data.toList a1.data.toList).toArray⟩ else none
theorem strings_TrimSuffix.calls (a0 a1 : ByteArray) (r : ByteArray) (w : World) (_hLW : LW w) (h : strings_TrimSuffix.f a0 a1 = some r) :
    Calls Tryd.prog 31 #[.string a0, .string a1] w fun e w' => e = .returned (.string r) ∧ Below w.heap.size w w' := by
  unfold strings_TrimSuffix.f at h
  split at h
  · rename_i hc
    obtain rfl := Option.some.inj h
    refine (Tryd.strings_TrimSuffix a0 a1 w hc).mono ?_
    rintro e w' ⟨rfl, rfl⟩
    exact ⟨rfl, Below.refl _ _⟩
  · cases h

def cutOf (a0 a1 : ByteArray) : ByteArray × ByteArray × Bool := (⟨(Lib.cut a0.data.toList a1.data.toList).1.toArray⟩, ⟨(Lib.cut a0.data.toList a1.data.toList).2.1.toArray⟩, (Lib.cut a0.data.toList a1.data.toList).2.2)
def strings_Cut.f (a0 a1 : ByteArray) : Option (ByteArray × ByteArray × Bool) := if a0.size < 4294967281 then some (cutOf a0 a1) else none
theorem strings_Cut.calls (a0 a1 : ByteArray) (r0 r1 : ByteArray) (r2 : Bool) (w : World) (hLW : LW w) (h : strings_Cut.f a0 a1 = some (r0, r1, r2)) :
    Calls Tryd.prog 27 #[.string a0, .string a1] w fun e w' => e = .returned (.tuple #[.string r0, .string r1, .bool r2]) ∧ Below w.heap.size w w' := by
  unfold strings_Cut.f at h
  obtain ⟨m, hm⟩ := hLW.maxlen
  split at h
  · rename_i hc
    have h' := Option.some.inj h
    unfold cutOf at h'
    simp only [Prod.mk.injEq] at h'
    obtain ⟨rfl, rfl, rfl⟩ := h'
    refine (Tryd.strings_Cut a0 a1 m w hc hm).mono ?_
    rintro e w' ⟨rfl, n, rfl⟩
    exact ⟨rfl, pw_below_drewN (Below.refl _ _) n⟩
  · cases h

def strings_IndexByte.f (a0 : ByteArray) (a1 : Int) : Option Int := some (Lib.indexByte a0.data.toList a1.toNat.toUInt8)
theorem strings_IndexByte.calls (a0 : ByteArray) (a1 : Int) (r : Int) (w : World) (_hLW : LW w) (h : strings_IndexByte.f a0 a1 = some r) :
    Calls Tryd.prog 26 #[.string a0, .int .u8 a1] w fun e w' => e = .returned (.int .i64 r) ∧ Below w.heap.size w w' := by
  obtain rfl := Option.some.inj h
  refine (Tryd.strings_IndexByte a0 a1 w).mono ?_
  rintro e w' ⟨rfl, rfl⟩
  exact ⟨rfl, Below.refl _ _⟩

/-- The cells of a row of whole numbers that is read. -/
theorem int_cells {k : IntKind} {w : World} {A : Option Addr} {l : List Int} (h : Kd.C (Kd.int k) w A l.length l) (hp : 0 < l.length) :
    ∃ ad, A = some ad ∧ ∀ i, i < l.length → w.cell? (ad.add i) = some (.int k (l.getD i 0)) := by
  obtain ⟨ad, rfl, hc⟩ := h.2.2 hp
  refine ⟨ad, rfl, fun i hi => ?_⟩
  obtain ⟨c, _, hk, hu⟩ := hc i l[i] (List.getElem?_eq_getElem hi)
  have hk' : c = [Value.int k l[i]] := hk
  subst hk'
  have := hu 0 (.int k l[i]) rfl
  rw [List.getD_eq_getElem?_getD, List.getElem?_eq_getElem hi]
  simpa [Kd.int, Kd.scalar] using this
def bytes_IndexByte.f (l0 : List Int) (a1 : Int) : Option Int := some (Lib.indexByte (Lib.bytesOf l0) a1.toNat.toUInt8)
set_option maxHeartbeats 2000000 in
set_option maxRecDepth 1000000 in
theorem bytes_IndexByte.calls (A0 : Option Addr) (c0 : Nat) (l0 : List Int) (a1 : Int) (r : Int) (w : World) (_hLW : LW w) (hr0 : Kd.C (Kd.int .u8) w A0 l0.length l0) (_hc0 : l0.length ≤ c0) (h : bytes_IndexByte.f l0 a1 = some r) :
    Calls Tryd.prog 30 #[.slice A0 l0.length c0, .int .u8 a1] w fun e w' => e = .returned (.int .i64 r) ∧ Below w.heap.size w w' := by
  obtain rfl := Option.some.inj h
  by_cases hp : 0 < l0.length
  · obtain ⟨ad, rfl, hc⟩ := int_cells hr0 hp
    go_enter Tryd.func30, Tryd.ntmps30
    go_wp2
    rw [run_callFunc_extern Tryd.func49 (by kernel_rfl) (by kernel_rfl) (by kernel_rfl) (e := Extern.BytealgIndexByte.indexByte) (by kernel_rfl), Lib.run_indexByteAt w ad l0.length c0 l0 rfl hc a1]
    simp only [Result.andThen]
    rw [Oper.upon_value]
    go_wp2
    go_ret
    exact ⟨rfl, Below.refl _ _⟩
  · have hl : l0 = [] := List.length_eq_zero_iff.1 (by omega)
    subst hl
    cases A0 with
    | none =>
      go_enter Tryd.func30, Tryd.ntmps30
      go_wp2
      rw [run_callFunc_extern Tryd.func49 (by kernel_rfl) (by kernel_rfl) (by kernel_rfl) (e := Extern.BytealgIndexByte.indexByte) (by kernel_rfl), Lib.run_indexByteNil w 0 c0 a1]
      simp only [Result.andThen]
      rw [Oper.upon_value]
      go_wp2
      go_ret
      exact ⟨rfl, Below.refl _ _⟩
    | some ad =>
      go_enter Tryd.func30, Tryd.ntmps30
      go_wp2
      rw [run_callFunc_extern Tryd.func49 (by kernel_rfl) (by kernel_rfl) (by kernel_rfl) (e := Extern.BytealgIndexByte.indexByte) (by kernel_rfl), Lib.run_indexByteAt w ad 0 c0 [] rfl (fun i hi => absurd hi (by omega)) a1]
      simp only [Result.andThen]
      rw [Oper.upon_value]
      go_wp2
      go_ret
      exact ⟨rfl, Below.refl _ _⟩
end Go.Proofs.YtgkcdnkkdhmjfaaDoor.E
