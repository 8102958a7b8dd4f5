/- Contracts, by hand, of functions that the printed ones call: lw_utf8_maxlen, block_off, trim, trimsuffix, strings_cut, bytes_indexbyte, lower. -/
import Derived.Test.YtfjfpgihgaiacaaDoorShelf
import Derived.Test.YtfjfpgihgaiacaaDoorWMore
import Derived.Test.YtfjfpgihgaiacaaDoorWLast
import Derived.WalkKit
import Derived.Deep.LoopGhost
import Derived.Laws.RangeAny
import Derived.Shelf.Unicode.DecodeSlow
import Derived.Lib.OthersKept
import Derived.Lib.ValidU
import Derived.Shelf.Bytes.SlIndexAt
import Derived.Shelf.Bytes.IndexByte
import Derived.LoopTactic
import Derived.Lib.ConvBytes
import Derived.Laws.IdiomStrings
namespace Go.Proofs.YtfjfpgihgaiacaaDoor.E
open Go Go.RowKit Go.Shelf Go.Lib Go.Proofs.YtfjfpgihgaiacaaDoorW.PrintWords Go.Proofs.YtfjfpgihgaiacaaDoorW.PrintLast Go.Proofs.YtfjfpgihgaiacaaDoorW.PrintMore
set_option linter.unusedVariables false
set_option linter.unusedSimpArgs false

/-- What every call asks of the world: the two tables of unicode/utf8 hold what their text lays; internal/bytealg.MaxLen holds some number. -/
def LW (w : World) : Prop := Lib.Utf8Tabs 2 3 w ∧ ∃ m, w.cell? ⟨0, 0, none⟩ = some (.int .i64 m)
theorem LW.below {w w' : World} (h : LW w) (hb : Below w.heap.size w w') : LW w' :=
  let ⟨m, hm⟩ := h.2
  ⟨Utf8Tabs_below h.1 hb, m, (hb.cell (World.block_lt_of_cell? w _ hm)).trans hm⟩
theorem LW.tabs {w : World} (h : LW w) : Lib.Utf8Tabs 2 3 w := h.1
theorem LW.maxlen {w : World} (h : LW w) : ∃ m, w.cell? ⟨0, 0, none⟩ = some (.int .i64 m) := h.2
theorem LW.drewN {w : World} (h : LW w) (n : Nat) : LW (w.drewN n) := LW.below h (pw_below_drewN (Below.refl _ _) n)
theorem LW.drew {w : World} (h : LW w) : LW w.drew := LW.below h (below_drew (Below.refl _ _))

theorem add_block_off (b o j : Nat) : (⟨b, o, none⟩ : Addr).add j = ⟨b, o + j, none⟩ := by unfold Addr.add; split <;> simp_all

def isAscii (s : ByteArray) : Bool := s.data.toList.all (fun b => decide (b.toNat < 128))
def strings_Trim.f (a0 a1 : ByteArray) : Option ByteArray :=
  if a0.size ≤ 9223372036854775807 ∧ a1.size < 4294967281 ∧ isAscii a1 = true then some ⟨(Lib.trimS a0.data.toList a1.data.toList).toArray⟩ else none
theorem strings_Trim.calls (a0 a1 : ByteArray) (r : ByteArray) (w : World) (_hLW : LW w) (h : strings_Trim.f a0 a1 = some r) :
    Calls Tryd.prog 28 #[.string a0, .string a1] w fun e w' => e = .returned (.string r) ∧ Below w.heap.size w w' := by
  unfold strings_Trim.f at h
  split at h
  · rename_i hc
    obtain ⟨h1, h2, h3⟩ := hc
    obtain rfl := Option.some.inj h
    exact Any.strings_Trim_laid Tryd.lays160 (by kernel_rfl) a0 a1 w h1 h2 (ascii_of_all h3)
  · cases h

def strings_TrimSuffix.f (a0 a1 : ByteArray) : Option ByteArray := if a0.size ≤ 9223372036854775807 then some ⟨(Lib.trimSuffix a0.data.toList a1.data.toList).toArray⟩ else none
theorem strings_TrimSuffix.calls (a0 a1 : ByteArray) (r : ByteArray) (w : World) (_hLW : LW w) (h : strings_TrimSuffix.f a0 a1 = some r) :
    Calls Tryd.prog 26 #[.string a0, .string a1] w fun e w' => e = .returned (.string r) ∧ Below w.heap.size w w' := by
  unfold strings_TrimSuffix.f at h
  split at h
  · rename_i hc
    obtain rfl := Option.some.inj h
    refine (Tryd.strings_TrimSuffix a0 a1 w hc).mono ?_
    rintro e w' ⟨rfl, rfl⟩
    exact ⟨rfl, Below.refl _ _⟩
  · cases h

def cutOf (a0 a1 : ByteArray) : ByteArray × ByteArray × Bool := (⟨(Lib.cut a0.data.toList a1.data.toList).1.toArray⟩, ⟨(Lib.cut a0.data.toList a1.data.toList).2.1.toArray⟩, (Lib.cut a0.data.toList a1.data.toList).2.2)
def strings_Cut.f (a0 a1 : ByteArray) : Option (ByteArray × ByteArray × Bool) := if a0.size < 4294967281 then some (cutOf a0 a1) else none
theorem strings_Cut.calls (a0 a1 : ByteArray) (r0 r1 : ByteArray) (r2 : Bool) (w : World) (hLW : LW w) (h : strings_Cut.f a0 a1 = some (r0, r1, r2)) :
    Calls Tryd.prog 27 #[.string a0, .string a1] w fun e w' => e = .returned (.tuple #[.string r0, .string r1, .bool r2]) ∧ Below w.heap.size w w' := by
  unfold strings_Cut.f at h
  obtain ⟨m, hm⟩ := hLW.maxlen
  split at h
  · rename_i hc
    have h' := Option.some.inj h
    unfold cutOf at h'
    simp only [Prod.mk.injEq] at h'
    obtain ⟨rfl, rfl, rfl⟩ := h'
    refine (Tryd.strings_Cut a0 a1 m w hc hm).mono ?_
    rintro e w' ⟨rfl, n, rfl⟩
    exact ⟨rfl, pw_below_drewN (Below.refl _ _) n⟩
  · cases h

/-- The cells of a row of whole numbers that is read. -/
theorem int_cells {k : IntKind} {w : World} {A : Option Addr} {l : List Int} (h : Kd.C (Kd.int k) w A l.length l) (hp : 0 < l.length) :
    ∃ ad, A = some ad ∧ ∀ i, i < l.length → w.cell? (ad.add i) = some (.int k (l.getD i 0)) := by
  obtain ⟨ad, rfl, hc⟩ := h.2.2 hp
  refine ⟨ad, rfl, fun i hi => ?_⟩
  obtain ⟨c, _, hk, hu⟩ := hc i l[i] (List.getElem?_eq_getElem hi)
  have hk' : c = [Value.int k l[i]] := hk
  subst hk'
  have := hu 0 (.int k l[i]) rfl
  rw [List.getD_eq_getElem?_getD, List.getElem?_eq_getElem hi]
  simpa [Kd.int, Kd.scalar] using this
def bytes_IndexByte.f (l0 : List Int) (a1 : Int) : Option Int := some (Lib.indexByte (Lib.bytesOf l0) a1.toNat.toUInt8)
set_option maxHeartbeats 2000000 in
set_option maxRecDepth 1000000 in
theorem bytes_IndexByte.calls (A0 : Option Addr) (c0 : Nat) (l0 : List Int) (a1 : Int) (r : Int) (w : World) (_hLW : LW w) (hr0 : Kd.C (Kd.int .u8) w A0 l0.length l0) (_hc0 : l0.length ≤ c0) (h : bytes_IndexByte.f l0 a1 = some r) :
    Calls Tryd.prog 25 #[.slice A0 l0.length c0, .int .u8 a1] w fun e w' => e = .returned (.int .i64 r) ∧ Below w.heap.size w w' := by
  obtain rfl := Option.some.inj h
  by_cases hp : 0 < l0.length
  · obtain ⟨ad, rfl, hc⟩ := int_cells hr0 hp
    go_enter Tryd.func25, Tryd.ntmps25
    go_wp2
    rw [run_callFunc_extern Tryd.func43 (by kernel_rfl) (by kernel_rfl) (by kernel_rfl) (e := Extern.BytealgIndexByte.indexByte) (by kernel_rfl), Lib.run_indexByteAt w ad l0.length c0 l0 rfl hc a1]
    simp only [Result.andThen]
    rw [Oper.upon_value]
    go_wp2
    go_ret
    exact ⟨rfl, Below.refl _ _⟩
  · have hl : l0 = [] := List.length_eq_zero_iff.1 (by omega)
    subst hl
    cases A0 with
    | none =>
      go_enter Tryd.func25, Tryd.ntmps25
      go_wp2
      rw [run_callFunc_extern Tryd.func43 (by kernel_rfl) (by kernel_rfl) (by kernel_rfl) (e := Extern.BytealgIndexByte.indexByte) (by kernel_rfl), Lib.run_indexByteNil w 0 c0 a1]
      simp only [Result.andThen]
      rw [Oper.upon_value]
      go_wp2
      go_ret
      exact ⟨rfl, Below.refl _ _⟩
    | some ad =>
      go_enter Tryd.func25, Tryd.ntmps25
      go_wp2
      rw [run_callFunc_extern Tryd.func43 (by kernel_rfl) (by kernel_rfl) (by kernel_rfl) (e := Extern.BytealgIndexByte.indexByte) (by kernel_rfl), Lib.run_indexByteAt w ad 0 c0 [] rfl (fun i hi => absurd hi (by omega)) a1]
      simp only [Result.andThen]
      rw [Oper.upon_value]
      go_wp2
      go_ret
      exact ⟨rfl, Below.refl _ _⟩

theorem bytesWorld_below (w : World) (e : TypeId) (s : ByteArray) : Below w.heap.size w (Lib.bytesWorld w e s) :=
  ⟨rfl, rfl, rfl, by rw [Lib.bytesWorld_size]; omega, fun k hk => Lib.bytesWorld_at_old w e s k hk⟩
/-- A letter of ASCII turned. -/
def lowN (c : Int) : Int := if 65 ≤ c ∧ c ≤ 90 then c + 32 else c
def lowB (b : UInt8) : UInt8 := if 65 ≤ b ∧ b ≤ 90 then b + 32 else b
theorem lowB_toNat (b : UInt8) : ((lowB b).toNat : Int) = lowN b.toNat := by
  have hb := b.toNat_lt
  unfold lowB lowN
  by_cases h : 65 ≤ b ∧ b ≤ 90
  · have h1 : 65 ≤ b.toNat := UInt8.le_iff_toNat_le.mp h.1
    have h2 : b.toNat ≤ 90 := UInt8.le_iff_toNat_le.mp h.2
    rw [if_pos h, if_pos (by omega)]
    rw [UInt8.toNat_add]
    have : (32 : UInt8).toNat = 32 := rfl
    rw [this, Nat.mod_eq_of_lt (by omega)]
    omega
  · have h3 : ¬ (65 ≤ (b.toNat : Int) ∧ (b.toNat : Int) ≤ 90) := fun hh => h ⟨UInt8.le_iff_toNat_le.mpr (by have : (65 : UInt8).toNat = 65 := rfl; omega), UInt8.le_iff_toNat_le.mpr (by have : (90 : UInt8).toNat = 90 := rfl; omega)⟩
    rw [if_neg h, if_neg h3]
def byteAt (s : ByteArray) (j : Nat) : Int := ((s.data.toList.getD j 0).toNat : Int)
theorem byteAt_range (s : ByteArray) (j : Nat) : 0 ≤ byteAt s j ∧ byteAt s j ≤ 255 := by
  unfold byteAt
  have := (s.data.toList.getD j 0).toNat_lt
  omega
/-- The bytes' row behind k rounds. -/
def LowRow (w : World) (B : Nat) (s : ByteArray) (k : Nat) : Prop :=
  (∀ j, j < s.size → w.cell? ⟨B, j, none⟩ = some (.int .u8 (if j < k then lowN (byteAt s j) else byteAt s j))) ∧ (∀ j, j < s.size → w.frozen? ⟨B, j, none⟩ = false)
theorem LowRow.start (w : World) (e : TypeId) (s : ByteArray) : LowRow (Lib.bytesWorld w e s) w.heap.size s 0 := by
  refine ⟨fun j hj => ?_, fun j hj => ?_⟩
  · rw [if_neg (by omega)]; exact Lib.bytesWorld_cell w e s j hj
  · have hcs : s.size ≤ (Lib.bytesCells w e s).size := by simp [Lib.bytesCells]
    simp only [World.frozen?, Lib.bytesWorld_at_new]
    simp
    omega
theorem LowRow.keep {w : World} {B : Nat} {s : ByteArray} {k : Nat} (h : LowRow w B s k) (hk : k < s.size) (he : lowN (byteAt s k) = byteAt s k) : LowRow w B s (k + 1) := by
  refine ⟨fun j hj => ?_, h.2⟩
  rw [h.1 j hj]
  by_cases hjk : j = k
  · subst hjk
    rw [if_neg (by omega), if_pos (by omega), he]
  · by_cases hlt : j < k
    · rw [if_pos hlt, if_pos (by omega)]
    · rw [if_neg hlt, if_neg (by omega)]
theorem LowRow.put {w : World} {B : Nat} {s : ByteArray} {k : Nat} (h : LowRow w B s k) (hk : k < s.size) (x : Int) (hx : lowN (byteAt s k) = x) : LowRow (w.setCell ⟨B, k, none⟩ (.int .u8 x)) B s (k + 1) := by
  refine ⟨fun j hj => ?_, fun j hj => by rw [World.frozen?_setCell]; exact h.2 j hj⟩
  by_cases hjk : j = k
  · subst hjk
    rw [World.cell?_setCell_same' w _ _ (by rw [h.1 j hj]; rfl), if_pos (by omega), hx]
  · rw [World.cell?_setCell_other _ _ _ _ (by intro e; injection e; omega), h.1 j hj]
    by_cases hlt : j < k
    · rw [if_pos hlt, if_pos (by omega)]
    · rw [if_neg hlt, if_neg (by omega)]
def lowerOf (s : ByteArray) : ByteArray := ⟨(s.data.toList.map lowB).toArray⟩
theorem LowRow.back {P : Program} {w : World} {B : Nat} {s : ByteArray} {cap : Nat} (h : LowRow w B s s.size) (src dst e : TypeId) (hs : P.underlying src = some (.slice e)) (he : P.underlying e = some (.int .u8)) (hd : P.underlying dst = some .string) :
    (convert src dst (.slice (some ⟨B, 0, none⟩) s.size cap)).run P w = .ok (.string (lowerOf s)) w := by
  have hl : (s.data.toList.map lowB).length = s.size := by simp
  have := run_convert_bytes_back (P := P) w src dst e ⟨B, 0, none⟩ cap (s.data.toList.map lowB) hs he hd (fun j hj => by
    have hj' : j < s.size := by rw [← hl]; exact hj
    rw [add_block_off, Nat.zero_add, h.1 j hj', if_pos hj', List.getElem_map, lowB_toNat]
    congr 3
    unfold byteAt
    congr 2
    simp [List.getD, hj'])
  rw [hl] at this
  exact this

def text_Lower.f (a0 : ByteArray) : Option ByteArray := if a0.size ≤ 140737488355328 then some (lowerOf a0) else none
set_option maxHeartbeats 4000000 in
theorem text_Lower.calls (a0 : ByteArray) (r : ByteArray) (w : World) (_hLW : LW w) (h : text_Lower.f a0 = some r) :
    Calls Tryd.prog 56 #[.string a0] w fun e w' => e = .returned (.string r) ∧ Below w.heap.size w w' := by
  unfold text_Lower.f at h
  split at h
  · rename_i hs
    obtain rfl := Option.some.inj h
    clear h
    have hcv := fun W => Lib.run_convert_string_bytes (P := Tryd.prog) W 9 22 5 a0 Tryd.underlying9 Tryd.underlying22 Tryd.underlying5
    go_enter Tryd.func56, Tryd.ntmps56
    go_wp2
    clear hcv
    have H0 := Aside0.mk (LowRow.start w 5 a0)
    have HB0 := Aside0.mk (bytesWorld_below w 5 a0)
    go_loopw [4, 5, 10] (fun _ _ v10 w' => ∃ k : Nat, k ≤ a0.size ∧ v10 = .int .i64 k ∧ Aside0 (LowRow w' w.heap.size a0 k) ∧ Aside0 (Below w.heap.size w w')) (fun _ _ v10 _ => a0.size - (RowKit.intOf v10).toNat)
    case atStart => exact ⟨0, by omega, rfl, H0, HB0⟩
    case round =>
      obtain ⟨k, hk, rfl, hrow, hbl⟩ := hrel
      by_cases hlt : k < a0.size
      · have hc : wr.cell? ⟨w.heap.size, k, none⟩ = some (.int .u8 (byteAt a0 k)) := by rw [hrow.out.1 k hlt, if_neg (by omega)]
        have hf := hrow.out.2 k hlt
        obtain ⟨x0, x1⟩ := byteAt_range a0 k
        generalize hx : byteAt a0 k = x at hc x0 x1
        have HX := Aside0.mk hx
        clear hx
        by_cases c1 : x ≥ 65
        · have d1 : decide (65 ≤ x) = true := decide_eq_true c1
          by_cases c2 : x ≤ 90
          · have d2 : decide (x ≤ 90) = true := decide_eq_true c2
            go_wp2
            go_roundw
            case rel => exact ⟨k + 1, by omega, by go_num, ⟨hrow.out.put hlt _ (by rw [HX.out]; unfold lowN; rw [if_pos ⟨c1, c2⟩]; omega)⟩, ⟨hbl.out.setCell (Nat.le_refl _) _⟩⟩
            case measure => simp [RowKit.intOf]; omega
          · have d2 : decide (x ≤ 90) = false := decide_eq_false c2
            go_wp2
            go_roundw
            case rel => exact ⟨k + 1, by omega, by go_num, ⟨hrow.out.keep hlt (by rw [HX.out]; unfold lowN; rw [if_neg (by omega)])⟩, hbl⟩
            case measure => simp [RowKit.intOf]; omega
        · have d1 : decide (65 ≤ x) = false := decide_eq_false c1
          go_wp2
          go_roundw
          case rel => exact ⟨k + 1, by omega, by go_num, ⟨hrow.out.keep hlt (by rw [HX.out]; unfold lowN; rw [if_neg (by omega)])⟩, hbl⟩
          case measure => simp [RowKit.intOf]; omega
      · obtain rfl : k = a0.size := by omega
        have hcv := hrow.out.back (P := Tryd.prog) (cap := grownCap w a0.size 0 5) 22 9 5 Tryd.underlying22 Tryd.underlying5 Tryd.underlying9
        go_wp2
        go_ret
        exact ⟨rfl, hbl.out⟩
  · cases h

def lanternref01_Lower.f (a0 : ByteArray) : Option ByteArray := if a0.size ≤ 140737488355328 then some (lowerOf a0) else none
set_option maxHeartbeats 4000000 in
theorem lanternref01_Lower.calls (a0 : ByteArray) (r : ByteArray) (w : World) (_hLW : LW w) (h : lanternref01_Lower.f a0 = some r) :
    Calls Tryd.prog 55 #[.string a0] w fun e w' => e = .returned (.string r) ∧ Below w.heap.size w w' := by
  unfold lanternref01_Lower.f at h
  split at h
  · rename_i hs
    obtain rfl := Option.some.inj h
    clear h
    have hcv := fun W => Lib.run_convert_string_bytes (P := Tryd.prog) W 9 22 5 a0 Tryd.underlying9 Tryd.underlying22 Tryd.underlying5
    go_enter Tryd.func55, Tryd.ntmps55
    go_wp2
    clear hcv
    have H0 := Aside0.mk (LowRow.start w 5 a0)
    have HB0 := Aside0.mk (bytesWorld_below w 5 a0)
    go_loopw [4] (fun v4 w' => ∃ k : Nat, k ≤ a0.size ∧ v4 = .int .i64 k ∧ Aside0 (LowRow w' w.heap.size a0 k) ∧ Aside0 (Below w.heap.size w w')) (fun v4 _ => a0.size - (RowKit.intOf v4).toNat)
    case atStart => exact ⟨0, by omega, rfl, H0, HB0⟩
    case round =>
      obtain ⟨k, hk, rfl, hrow, hbl⟩ := hrel
      by_cases hlt : k < a0.size
      · have hc : wr.cell? ⟨w.heap.size, k, none⟩ = some (.int .u8 (byteAt a0 k)) := by rw [hrow.out.1 k hlt, if_neg (by omega)]
        have hf := hrow.out.2 k hlt
        obtain ⟨x0, x1⟩ := byteAt_range a0 k
        generalize hx : byteAt a0 k = x at hc x0 x1
        have HX := Aside0.mk hx
        clear hx
        by_cases c1 : x ≥ 65
        · have d1 : decide (65 ≤ x) = true := decide_eq_true c1
          by_cases c2 : x ≤ 90
          · have d2 : decide (x ≤ 90) = true := decide_eq_true c2
            go_wp2
            go_roundw
            case rel => exact ⟨k + 1, by omega, by go_num, ⟨hrow.out.put hlt _ (by rw [HX.out]; unfold lowN; rw [if_pos ⟨c1, c2⟩])⟩, ⟨hbl.out.setCell (Nat.le_refl _) _⟩⟩
            case measure => simp [RowKit.intOf]; omega
          · have d2 : decide (x ≤ 90) = false := decide_eq_false c2
            go_wp2
            go_roundw
            case rel => exact ⟨k + 1, by omega, by go_num, ⟨hrow.out.keep hlt (by rw [HX.out]; unfold lowN; rw [if_neg (by omega)])⟩, hbl⟩
            case measure => simp [RowKit.intOf]; omega
        · have d1 : decide (65 ≤ x) = false := decide_eq_false c1
          go_wp2
          go_roundw
          case rel => exact ⟨k + 1, by omega, by go_num, ⟨hrow.out.keep hlt (by rw [HX.out]; unfold lowN; rw [if_neg (by omega)])⟩, hbl⟩
          case measure => simp [RowKit.intOf]; omega
      · obtain rfl : k = a0.size := by omega
        have hcv := hrow.out.back (P := Tryd.prog) (cap := grownCap w a0.size 0 5) 22 9 5 Tryd.underlying22 Tryd.underlying5 Tryd.underlying9
        go_wp2
        go_ret
        exact ⟨rfl, hbl.out⟩
  · cases h
end Go.Proofs.YtfjfpgihgaiacaaDoor.E
