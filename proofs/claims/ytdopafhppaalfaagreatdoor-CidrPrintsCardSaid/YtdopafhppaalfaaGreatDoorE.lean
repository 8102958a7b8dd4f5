/- Contracts, by hand, of functions that the printed ones call: lw_utf8_maxlen_bits_pow10, block_off, string_cells, strings_cut, strings_indexbyte, split, itoa, join, contains, bytesworld, atoi. -/
import Derived.Test.YtdopafhppaalfaaGreatDoorShelf
import Derived.Test.YtdopafhppaalfaaGreatDoorWMore
import Derived.Test.YtdopafhppaalfaaGreatDoorWLast
import Derived.WalkKit
import Derived.Deep.LoopGhost
import Derived.Laws.RangeAny
import Derived.Shelf.Unicode.DecodeSlow
import Derived.Lib.SmallJoins
import Derived.Lib.ItoaMem
import Derived.LoopTactic
import Derived.Lib.ConvBytes
import Derived.Laws.IdiomStrings
namespace Go.Proofs.YtdopafhppaalfaaGreatDoor.E
open Go Go.RowKit Go.Shelf Go.Lib Go.Proofs.YtdopafhppaalfaaGreatDoorW.PrintWords Go.Proofs.YtdopafhppaalfaaGreatDoorW.PrintLast Go.Proofs.YtdopafhppaalfaaGreatDoorW.PrintMore
set_option linter.unusedVariables false
set_option linter.unusedSimpArgs false

/-- What every call asks of the world: the two tables of unicode/utf8 hold what their text lays; internal/bytealg.MaxLen holds some number; math/bits.deBruijn64tab tells 16's noughts; internal/strconv.uint64pow10 holds the powers of ten. -/
def LW (w : World) : Prop := ((Lib.Utf8Tabs 6 7 w ∧ ∃ m, w.cell? ⟨0, 0, none⟩ = some (.int .i64 m)) ∧ w.cell? ⟨5, 15, none⟩ = some (.int .u8 4)) ∧ Lib.TabIs Tryz.prog w "internal/strconv.uint64pow10" .u64 Lib.pow10Tab
theorem LW.below {w w' : World} (h : LW w) (hb : Below w.heap.size w w') : LW w' :=
  let ⟨⟨⟨h1, m, hm⟩, h3⟩, h2⟩ := h
  ⟨⟨⟨Utf8Tabs_below h1 hb, m, (hb.cell (World.block_lt_of_cell? w _ hm)).trans hm⟩, (hb.cell (World.block_lt_of_cell? w _ h3)).trans h3⟩, Go.Joins.tab_stays (g := 3) (by kernel_rfl) h2 hb (Nat.le_refl _)⟩
theorem LW.maxlen {w : World} (h : LW w) : ∃ m, w.cell? ⟨0, 0, none⟩ = some (.int .i64 m) := h.1.1.2
theorem LW.bits {w : World} (h : LW w) : w.cell? ⟨5, 15, none⟩ = some (.int .u8 4) := h.1.2
theorem LW.pow10 {w : World} (h : LW w) : Lib.TabIs Tryz.prog w "internal/strconv.uint64pow10" .u64 Lib.pow10Tab := h.2
theorem LW.drewN {w : World} (h : LW w) (n : Nat) : LW (w.drewN n) := LW.below h (pw_below_drewN (Below.refl _ _) n)
theorem LW.drew {w : World} (h : LW w) : LW w.drew := LW.below h (below_drew (Below.refl _ _))

theorem add_block_off (b o j : Nat) : (⟨b, o, none⟩ : Addr).add j = ⟨b, o + j, none⟩ := by unfold Addr.add; split <;> simp_all

/-- The cells of a row of strings that is read. -/
theorem string_cells {w : World} {A : Option Addr} {l : List ByteArray} (h : Kd.C Kd.string w A l.length l) (hp : 0 < l.length) :
    ∃ b o, A = some ⟨b, o, none⟩ ∧ (∀ (j : Nat) x, l[j]? = some x → w.cell? ⟨b, o + j, none⟩ = some (.string x)) ∧ b < w.heap.size := by
  obtain ⟨ad, rfl, hc⟩ := h.2.2 hp
  have cell : ∀ (j : Nat) x, l[j]? = some x → w.cell? (ad.add j) = some (.string x) := by
    intro j x hx
    obtain ⟨c, _, hk, hu⟩ := hc j x hx
    have hk' : c = [Value.string x] := hk
    subst hk'
    have := hu 0 (.string x) rfl
    simpa [Kd.string, Kd.scalar] using this
  obtain ⟨b, o, sp⟩ := ad
  have h0 := cell 0 _ (List.getElem?_eq_getElem hp)
  have hsp : sp = none := by
    cases sp with
    | none => rfl
    | some s =>
      simp only [Addr.add, World.cell?] at h0
      split at h0 <;> simp_all
  subst hsp
  refine ⟨b, o, rfl, fun j x hx => ?_, ?_⟩
  · rw [← add_block_off]; exact cell j x hx
  · exact World.block_lt_of_cell? w _ h0

def cutOf (a0 a1 : ByteArray) : ByteArray × ByteArray × Bool := (⟨(Lib.cut a0.data.toList a1.data.toList).1.toArray⟩, ⟨(Lib.cut a0.data.toList a1.data.toList).2.1.toArray⟩, (Lib.cut a0.data.toList a1.data.toList).2.2)
def strings_Cut.f (a0 a1 : ByteArray) : Option (ByteArray × ByteArray × Bool) := if a0.size < 4294967281 then some (cutOf a0 a1) else none
theorem strings_Cut.calls (a0 a1 : ByteArray) (r0 r1 : ByteArray) (r2 : Bool) (w : World) (hLW : LW w) (h : strings_Cut.f a0 a1 = some (r0, r1, r2)) :
    Calls Tryz.prog 21 #[.string a0, .string a1] w fun e w' => e = .returned (.tuple #[.string r0, .string r1, .bool r2]) ∧ Below w.heap.size w w' := by
  unfold strings_Cut.f at h
  obtain ⟨m, hm⟩ := hLW.maxlen
  split at h
  · rename_i hc
    have h' := Option.some.inj h
    unfold cutOf at h'
    simp only [Prod.mk.injEq] at h'
    obtain ⟨rfl, rfl, rfl⟩ := h'
    refine (Tryz.strings_Cut a0 a1 m w hc hm).mono ?_
    rintro e w' ⟨rfl, n, rfl⟩
    exact ⟨rfl, pw_below_drewN (Below.refl _ _) n⟩
  · cases h

def strings_IndexByte.f (a0 : ByteArray) (a1 : Int) : Option Int := some (Lib.indexByte a0.data.toList a1.toNat.toUInt8)
theorem strings_IndexByte.calls (a0 : ByteArray) (a1 : Int) (r : Int) (w : World) (_hLW : LW w) (h : strings_IndexByte.f a0 a1 = some r) :
    Calls Tryz.prog 82 #[.string a0, .int .u8 a1] w fun e w' => e = .returned (.int .i64 r) ∧ Below w.heap.size w w' := by
  obtain rfl := Option.some.inj h
  refine (Tryz.strings_IndexByte a0 a1 w).mono ?_
  rintro e w' ⟨rfl, rfl⟩
  exact ⟨rfl, Below.refl _ _⟩

def strings_Split.f (a0 a1 : ByteArray) : Option (List ByteArray) := if a0.size ≤ 1000000 ∧ 1 ≤ a1.size then some (Lib.splitB a1 0 (Lib.countB a0 a1) a0) else none
theorem strings_Split.calls (a0 a1 : ByteArray) (r : List ByteArray) (w : World) (hLW : LW w) (h : strings_Split.f a0 a1 = some r) :
    Calls Tryz.prog 42 #[.string a0, .string a1] w fun e w' => ∃ v0_ : Value, e = .returned v0_ ∧ Kd.R Kd.string 9 w' w.heap.size (fun _ => True) v0_ r ∧ Below w.heap.size w w' := by
  unfold strings_Split.f at h
  split at h
  · rename_i hc
    obtain ⟨h0, h1⟩ := hc
    obtain rfl := Option.some.inj h
    obtain ⟨m, hm⟩ := hLW.maxlen
    refine (Tryz.strings_Split a0 a1 m w (by omega) hm h1).mono ?_
    rintro e w' ⟨rfl, rfl⟩
    have hl := Lib.splitB_all a1 h1 0 _ a0 rfl
    have hle := Lib.countB_le a1 h1 a0.size a0 (Nat.le_refl _)
    refine ⟨_, rfl, Kd.R_of_own (enc := Value.string) ⟨by simp [encs], Or.inr ⟨w.heap.size, Lib.countB a0 a1 + 1, ((Lib.splitB a1 0 (Lib.countB a0 a1) a0).map Value.string).toArray, by rw [hl], Nat.le_refl _, Array.getElem?_push_size, by rw [hl]; exact Nat.le_refl _, by unfold maxLen; omega, by simp [hl], by rw [Nat.mul_one]; exact List.take_of_length_le (by simp)⟩⟩ (fun _ _ => trivial), below_alloc (Below.refl _ _) _⟩
  · cases h

theorem drewGrow_below (w : World) (k : Nat) (os : Array Obj) : Below w.heap.size w (Go.Sort.grow (w.drewN k) os) :=
  ⟨rfl, rfl, rfl, by simp [Go.Sort.grow, World.drewN], fun i hi => by
    show (w.heap ++ os)[i]? = _
    rw [Array.getElem?_append_left hi]⟩
def strconv_Itoa.f (a0 : Int) : Option ByteArray := if -9223372036854775808 ≤ a0 ∧ a0 ≤ 9223372036854775807 then some ⟨(Lib.itoa a0).toArray⟩ else none
theorem strconv_Itoa.calls (a0 : Int) (r : ByteArray) (w : World) (hLW : LW w) (h : strconv_Itoa.f a0 = some r) :
    Calls Tryz.prog 11 #[.int .i64 a0] w fun e w' => e = .returned (.string r) ∧ Below w.heap.size w w' := by
  unfold strconv_Itoa.f at h
  split at h
  · rename_i hc
    obtain rfl := Option.some.inj h
    refine (Tryz.strconv_Itoa a0 hc.1 hc.2 w hLW.pow10).mono ?_
    rintro e w' ⟨rfl, k, os, rfl⟩
    exact ⟨rfl, drewGrow_below w k os⟩
  · cases h

def joinOf (l : List ByteArray) (sep : ByteArray) : List UInt8 := Lib.join (l.map (·.data.toList)) sep.data.toList
def strings_Join.f (l0 : List ByteArray) (a1 : ByteArray) : Option ByteArray :=
  if l0.length ≤ 140737488355328 ∧ (joinOf l0 a1).length ≤ 140737488355328 then some ⟨(joinOf l0 a1).toArray⟩ else none
theorem strings_Join.calls (A0 : Option Addr) (c0 : Nat) (l0 : List ByteArray) (a1 : ByteArray) (r : ByteArray) (w : World) (_hLW : LW w) (hr0 : Kd.C Kd.string w A0 l0.length l0) (hc0 : l0.length ≤ c0) (h : strings_Join.f l0 a1 = some r) :
    Calls Tryz.prog 52 #[.slice A0 l0.length c0, .string a1] w fun e w' => e = .returned (.string r) ∧ Below w.heap.size w w' := by
  unfold strings_Join.f at h
  split at h
  · rename_i hc
    obtain ⟨h1, h2⟩ := hc
    obtain rfl := Option.some.inj h
    cases l0 with
    | nil =>
      refine (Tryz.strings_Join_none A0 c0 a1 w).mono ?_
      rintro e w' ⟨rfl, rfl⟩
      exact ⟨rfl, Below.refl _ _⟩
    | cons x l =>
      obtain ⟨b, o, hA, hcell, hb⟩ := string_cells hr0 (by simp)
      subst hA
      exact Tryz.strings_Join b o c0 (x :: l) a1 w hcell hb h1 hc0 h2
  · cases h

def strings_Contains.f (a0 a1 : ByteArray) : Option Bool := if a0.size < 4294967281 then some (Lib.contains a0.data.toList a1.data.toList) else none
theorem strings_Contains.calls (a0 a1 : ByteArray) (r : Bool) (w : World) (hLW : LW w) (h : strings_Contains.f a0 a1 = some r) :
    Calls Tryz.prog 46 #[.string a0, .string a1] w fun e w' => e = .returned (.bool r) ∧ Below w.heap.size w w' := by
  unfold strings_Contains.f at h
  obtain ⟨m, hm⟩ := hLW.maxlen
  split at h
  · rename_i hc
    obtain rfl := Option.some.inj h
    refine (Tryz.strings_Contains a0 a1 m w hc hm).mono ?_
    rintro e w' ⟨rfl, rfl⟩
    exact ⟨rfl, Below.refl _ _⟩
  · cases h

theorem bytesWorld_below (w : World) (e : TypeId) (s : ByteArray) : Below w.heap.size w (Lib.bytesWorld w e s) :=
  ⟨rfl, rfl, rfl, by rw [Lib.bytesWorld_size]; omega, fun k hk => Lib.bytesWorld_at_old w e s k hk⟩

def strconv_Atoi.f (a0 : ByteArray) : Option (Int × Option Int) := if a0.size ≤ 18 then (Lib.atoi a0.data.toList).bind fun n => some (n, none) else none
theorem strconv_Atoi.calls (a0 : ByteArray) (r0 : Int) (r1 : Option Int) (w : World) (hLW : LW w) (h : strconv_Atoi.f a0 = some (r0, r1)) :
    Calls Tryz.prog 23 #[.string a0] w fun e w' => e = .returned (.tuple #[.int .i64 r0, match r1 with | none => .nilIface | some c => .iface 97 (.int .i64 c)]) ∧ Below w.heap.size w w' := by
  unfold strconv_Atoi.f at h
  split at h
  · rename_i hc
    obtain ⟨n, hn, hr⟩ := Option.bind_eq_some_iff.mp h
    simp only [Option.some.injEq, Prod.mk.injEq] at hr
    obtain ⟨rfl, rfl⟩ := hr
    refine (Tryz.strconv_Atoi a0 n hc hn w).mono ?_
    rintro e w' ⟨rfl, t, rfl⟩
    exact ⟨rfl, bytesWorld_below w _ t⟩
  · cases h
theorem strconv_Atoi.none {a0 : ByteArray} {r0 : Int} {r1 : Option Int} (h : strconv_Atoi.f a0 = some (r0, r1)) : r1 = .none := by
  unfold strconv_Atoi.f at h
  split at h
  · obtain ⟨n, hn, hr⟩ := Option.bind_eq_some_iff.mp h
    simp only [Option.some.injEq, Prod.mk.injEq] at hr
    exact hr.2.symm
  · cases h
end Go.Proofs.YtdopafhppaalfaaGreatDoor.E
