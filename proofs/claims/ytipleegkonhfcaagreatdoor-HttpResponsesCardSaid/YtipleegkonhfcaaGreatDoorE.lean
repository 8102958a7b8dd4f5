/- Contracts, by hand, of functions that the printed ones call: lw_utf8_maxlen_pow10, underscore, block_off, string_cells, trim, trimsuffix, strings_cut, strings_indexbyte, bytes_indexbyte, split, itoa, lower, atoi. -/
import Derived.Test.YtipleegkonhfcaaGreatDoorShelf
import Derived.Test.YtipleegkonhfcaaGreatDoorWMore
import Derived.Lib.SmallJoins
import Derived.Lib.OthersKept
import Derived.Lib.ValidU
import Derived.Shelf.Bytes.SlIndexAt
namespace Go.Proofs.YtipleegkonhfcaaGreatDoor.E
open Go Go.RowKit Go.Shelf Go.Lib Go.Proofs.YtipleegkonhfcaaGreatDoorW.PrintWords Go.Proofs.YtipleegkonhfcaaGreatDoorW.PrintLast Go.Proofs.YtipleegkonhfcaaGreatDoorW.PrintMore
set_option linter.unusedVariables false
set_option linter.unusedSimpArgs false

/-- What every call asks of the world: the two tables of unicode/utf8 hold what their text lays; internal/bytealg.MaxLen holds some number; internal/strconv.uint64pow10 holds the powers of ten. -/
def LW (w : World) : Prop := (Lib.Utf8Tabs 5 6 w ∧ ∃ m, w.cell? ⟨0, 0, none⟩ = some (.int .i64 m)) ∧ Lib.TabIs Tryz.prog w "internal/strconv.uint64pow10" .u64 Lib.pow10Tab
theorem LW.below {w w' : World} (h : LW w) (hb : Below w.heap.size w w') : LW w' :=
  let ⟨⟨h1, m, hm⟩, h2⟩ := h
  ⟨⟨Utf8Tabs_below h1 hb, m, (hb.cell (World.block_lt_of_cell? w _ hm)).trans hm⟩, Go.Joins.tab_stays (g := 2) (by kernel_rfl) h2 hb (Nat.le_refl _)⟩
theorem LW.maxlen {w : World} (h : LW w) : ∃ m, w.cell? ⟨0, 0, none⟩ = some (.int .i64 m) := h.1.2
theorem LW.pow10 {w : World} (h : LW w) : Lib.TabIs Tryz.prog w "internal/strconv.uint64pow10" .u64 Lib.pow10Tab := h.2
theorem LW.drewN {w : World} (h : LW w) (n : Nat) : LW (w.drewN n) := LW.below h (pw_below_drewN (Below.refl _ _) n)
theorem LW.drew {w : World} (h : LW w) : LW w.drew := LW.below h (below_drew (Below.refl _ _))

/-- internal/strconv.underscoreOK is never called where the base is told: nothing is said of it. -/
def strconv_underscoreOK.f (a0 : ByteArray) : Option Bool := if a0.size < 0 then some true else none
theorem strconv_underscoreOK.calls (a0 : ByteArray) (r : Bool) (w : World) (_hLW : LW w) (h : strconv_underscoreOK.f a0 = some r) :
    Calls Tryz.prog 146 #[.string a0] w fun e w' => e = .returned (.bool r) ∧ Below w.heap.size w w' := by
  unfold strconv_underscoreOK.f at h
  rw [if_neg (Nat.not_lt_zero _)] at h
  cases h

theorem add_block_off (b o j : Nat) : (⟨b, o, none⟩ : Addr).add j = ⟨b, o + j, none⟩ := by unfold Addr.add; split <;> simp_all

def isAscii (s : ByteArray) : Bool := s.data.toList.all (fun b => decide (b.toNat < 128))
def strings_Trim.f (a0 a1 : ByteArray) : Option ByteArray :=
  if a0.size ≤ 9223372036854775807 ∧ a1.size < 4294967281 ∧ isAscii a1 = true then some ⟨(Lib.trimS a0.data.toList a1.data.toList).toArray⟩ else none
theorem strings_Trim.calls (a0 a1 : ByteArray) (r : ByteArray) (w : World) (_hLW : LW w) (h : strings_Trim.f a0 a1 = some r) :
    Calls Tryz.prog 51 #[.string a0, .string a1] w fun e w' => e = .returned (.string r) ∧ Below w.heap.size w w' := by
  unfold strings_Trim.f at h
  split at h
  · rename_i hc
    obtain ⟨h1, h2, h3⟩ := hc
    obtain rfl := Option.some.inj h
    exact Any.strings_Trim_laid Tryz.lays160 (by kernel_rfl) a0 a1 w h1 h2 (ascii_of_all h3)
  · cases h

def strings_TrimSuffix.f (a0 a1 : ByteArray) : Option ByteArray := if a0.size ≤ 9223372036854775807 then some ⟨(Lib.trimSuffix a0.data.toList a1.data.toList).toArray⟩ else none
theorem strings_TrimSuffix.calls (a0 a1 : ByteArray) (r : ByteArray) (w : World) (_hLW : LW w) (h : strings_TrimSuffix.f a0 a1 = some r) :
    Calls Tryz.prog 49 #[.string a0, .string a1] w fun e w' => e = .returned (.string r) ∧ Below w.heap.size w w' := by
  unfold strings_TrimSuffix.f at h
  split at h
  · rename_i hc
    obtain rfl := Option.some.inj h
    refine (Tryz.strings_TrimSuffix a0 a1 w hc).mono ?_
    rintro e w' ⟨rfl, rfl⟩
    exact ⟨rfl, Below.refl _ _⟩
  · cases h

def cutOf (a0 a1 : ByteArray) : ByteArray × ByteArray × Bool := (⟨(Lib.cut a0.data.toList a1.data.toList).1.toArray⟩, ⟨(Lib.cut a0.data.toList a1.data.toList).2.1.toArray⟩, (Lib.cut a0.data.toList a1.data.toList).2.2)
def strings_Cut.f (a0 a1 : ByteArray) : Option (ByteArray × ByteArray × Bool) := if a0.size < 4294967281 then some (cutOf a0 a1) else none
theorem strings_Cut.calls (a0 a1 : ByteArray) (r0 r1 : ByteArray) (r2 : Bool) (w : World) (hLW : LW w) (h : strings_Cut.f a0 a1 = some (r0, r1, r2)) :
    Calls Tryz.prog 52 #[.string a0, .string a1] w fun e w' => e = .returned (.tuple #[.string r0, .string r1, .bool r2]) ∧ Below w.heap.size w w' := by
  unfold strings_Cut.f at h
  obtain ⟨m, hm⟩ := hLW.maxlen
  split at h
  · rename_i hc
    have h' := Option.some.inj h
    unfold cutOf at h'
    simp only [Prod.mk.injEq] at h'
    obtain ⟨rfl, rfl, rfl⟩ := h'
    refine (Tryz.strings_Cut a0 a1 m w hc hm).mono ?_
    rintro e w' ⟨rfl, n, rfl⟩
    exact ⟨rfl, pw_below_drewN (Below.refl _ _) n⟩
  · cases h

def strings_IndexByte.f (a0 : ByteArray) (a1 : Int) : Option Int := some (Lib.indexByte a0.data.toList a1.toNat.toUInt8)
theorem strings_IndexByte.calls (a0 : ByteArray) (a1 : Int) (r : Int) (w : World) (_hLW : LW w) (h : strings_IndexByte.f a0 a1 = some r) :
    Calls Tryz.prog 110 #[.string a0, .int .u8 a1] w fun e w' => e = .returned (.int .i64 r) ∧ Below w.heap.size w w' := by
  obtain rfl := Option.some.inj h
  refine (Tryz.strings_IndexByte a0 a1 w).mono ?_
  rintro e w' ⟨rfl, rfl⟩
  exact ⟨rfl, Below.refl _ _⟩

/-- The cells of a row of whole numbers that is read. -/
theorem int_cells {k : IntKind} {w : World} {A : Option Addr} {l : List Int} (h : Kd.C (Kd.int k) w A l.length l) (hp : 0 < l.length) :
    ∃ ad, A = some ad ∧ ∀ i, i < l.length → w.cell? (ad.add i) = some (.int k (l.getD i 0)) := by
  obtain ⟨ad, rfl, hc⟩ := h.2.2 hp
  refine ⟨ad, rfl, fun i hi => ?_⟩
  obtain ⟨c, _, hk, hu⟩ := hc i l[i] (List.getElem?_eq_getElem hi)
  have hk' : c = [Value.int k l[i]] := hk
  subst hk'
  have := hu 0 (.int k l[i]) rfl
  rw [List.getD_eq_getElem?_getD, List.getElem?_eq_getElem hi]
  simpa [Kd.int, Kd.scalar] using this
def bytes_IndexByte.f (l0 : List Int) (a1 : Int) : Option Int := some (Lib.indexByte (Lib.bytesOf l0) a1.toNat.toUInt8)
set_option maxHeartbeats 2000000 in
set_option maxRecDepth 1000000 in
theorem bytes_IndexByte.calls (A0 : Option Addr) (c0 : Nat) (l0 : List Int) (a1 : Int) (r : Int) (w : World) (_hLW : LW w) (hr0 : Kd.C (Kd.int .u8) w A0 l0.length l0) (_hc0 : l0.length ≤ c0) (h : bytes_IndexByte.f l0 a1 = some r) :
    Calls Tryz.prog 48 #[.slice A0 l0.length c0, .int .u8 a1] w fun e w' => e = .returned (.int .i64 r) ∧ Below w.heap.size w w' := by
  obtain rfl := Option.some.inj h
  by_cases hp : 0 < l0.length
  · obtain ⟨ad, rfl, hc⟩ := int_cells hr0 hp
    go_enter Tryz.func48, Tryz.ntmps48
    go_wp2
    rw [run_callFunc_extern Tryz.func71 (by kernel_rfl) (by kernel_rfl) (by kernel_rfl) (e := Extern.BytealgIndexByte.indexByte) (by kernel_rfl), Lib.run_indexByteAt w ad l0.length c0 l0 rfl hc a1]
    simp only [Result.andThen]
    rw [Oper.upon_value]
    go_wp2
    go_ret
    exact ⟨rfl, Below.refl _ _⟩
  · have hl : l0 = [] := List.length_eq_zero_iff.1 (by omega)
    subst hl
    cases A0 with
    | none =>
      go_enter Tryz.func48, Tryz.ntmps48
      go_wp2
      rw [run_callFunc_extern Tryz.func71 (by kernel_rfl) (by kernel_rfl) (by kernel_rfl) (e := Extern.BytealgIndexByte.indexByte) (by kernel_rfl), Lib.run_indexByteNil w 0 c0 a1]
      simp only [Result.andThen]
      rw [Oper.upon_value]
      go_wp2
      go_ret
      exact ⟨rfl, Below.refl _ _⟩
    | some ad =>
      go_enter Tryz.func48, Tryz.ntmps48
      go_wp2
      rw [run_callFunc_extern Tryz.func71 (by kernel_rfl) (by kernel_rfl) (by kernel_rfl) (e := Extern.BytealgIndexByte.indexByte) (by kernel_rfl), Lib.run_indexByteAt w ad 0 c0 [] rfl (fun i hi => absurd hi (by omega)) a1]
      simp only [Result.andThen]
      rw [Oper.upon_value]
      go_wp2
      go_ret
      exact ⟨rfl, Below.refl _ _⟩

def strings_Split.f (a0 a1 : ByteArray) : Option (List ByteArray) := if a0.size ≤ 1000000 ∧ 1 ≤ a1.size then some (Lib.splitB a1 0 (Lib.countB a0 a1) a0) else none
theorem strings_Split.calls (a0 a1 : ByteArray) (r : List ByteArray) (w : World) (hLW : LW w) (h : strings_Split.f a0 a1 = some r) :
    Calls Tryz.prog 24 #[.string a0, .string a1] w fun e w' => ∃ v0_ : Value, e = .returned v0_ ∧ Kd.R Kd.string 9 w' w.heap.size (fun _ => True) v0_ r ∧ Below w.heap.size w w' := by
  unfold strings_Split.f at h
  split at h
  · rename_i hc
    obtain ⟨h0, h1⟩ := hc
    obtain rfl := Option.some.inj h
    obtain ⟨m, hm⟩ := hLW.maxlen
    refine (Tryz.strings_Split a0 a1 m w (by omega) hm h1).mono ?_
    rintro e w' ⟨rfl, rfl⟩
    have hl := Lib.splitB_all a1 h1 0 _ a0 rfl
    have hle := Lib.countB_le a1 h1 a0.size a0 (Nat.le_refl _)
    refine ⟨_, rfl, Kd.R_of_own (enc := Value.string) ⟨by simp [encs], Or.inr ⟨w.heap.size, Lib.countB a0 a1 + 1, ((Lib.splitB a1 0 (Lib.countB a0 a1) a0).map Value.string).toArray, by rw [hl], Nat.le_refl _, Array.getElem?_push_size, by rw [hl]; exact Nat.le_refl _, by unfold maxLen; omega, by simp [hl], by rw [Nat.mul_one]; exact List.take_of_length_le (by simp)⟩⟩ (fun _ _ => trivial), below_alloc (Below.refl _ _) _⟩
  · cases h

theorem drewGrow_below (w : World) (k : Nat) (os : Array Obj) : Below w.heap.size w (Go.Sort.grow (w.drewN k) os) :=
  ⟨rfl, rfl, rfl, by simp [Go.Sort.grow, World.drewN], fun i hi => by
    show (w.heap ++ os)[i]? = _
    rw [Array.getElem?_append_left hi]⟩
def strconv_Itoa.f (a0 : Int) : Option ByteArray := if -9223372036854775808 ≤ a0 ∧ a0 ≤ 9223372036854775807 then some ⟨(Lib.itoa a0).toArray⟩ else none
theorem strconv_Itoa.calls (a0 : Int) (r : ByteArray) (w : World) (hLW : LW w) (h : strconv_Itoa.f a0 = some r) :
    Calls Tryz.prog 44 #[.int .i64 a0] w fun e w' => e = .returned (.string r) ∧ Below w.heap.size w w' := by
  unfold strconv_Itoa.f at h
  split at h
  · rename_i hc
    obtain rfl := Option.some.inj h
    refine (Tryz.strconv_Itoa a0 hc.1 hc.2 w hLW.pow10).mono ?_
    rintro e w' ⟨rfl, k, os, rfl⟩
    exact ⟨rfl, drewGrow_below w k os⟩
  · cases h

theorem bytesWorld_below (w : World) (e : TypeId) (s : ByteArray) : Below w.heap.size w (Lib.bytesWorld w e s) :=
  ⟨rfl, rfl, rfl, by rw [Lib.bytesWorld_size]; omega, fun k hk => Lib.bytesWorld_at_old w e s k hk⟩
/-- A letter of ASCII turned. -/
def lowN (c : Int) : Int := if 65 ≤ c ∧ c ≤ 90 then c + 32 else c
def lowB (b : UInt8) : UInt8 := if 65 ≤ b ∧ b ≤ 90 then b + 32 else b
theorem lowB_toNat (b : UInt8) : ((lowB b).toNat : Int) = lowN b.toNat := by
  have hb := b.toNat_lt
  unfold lowB lowN
  by_cases h : 65 ≤ b ∧ b ≤ 90
  · have h1 : 65 ≤ b.toNat := UInt8.le_iff_toNat_le.mp h.1
    have h2 : b.toNat ≤ 90 := UInt8.le_iff_toNat_le.mp h.2
    rw [if_pos h, if_pos (by omega)]
    rw [UInt8.toNat_add]
    have : (32 : UInt8).toNat = 32 := rfl
    rw [this, Nat.mod_eq_of_lt (by omega)]
    omega
  · have h3 : ¬ (65 ≤ (b.toNat : Int) ∧ (b.toNat : Int) ≤ 90) := fun hh => h ⟨UInt8.le_iff_toNat_le.mpr (by have : (65 : UInt8).toNat = 65 := rfl; omega), UInt8.le_iff_toNat_le.mpr (by have : (90 : UInt8).toNat = 90 := rfl; omega)⟩
    rw [if_neg h, if_neg h3]
def byteAt (s : ByteArray) (j : Nat) : Int := ((s.data.toList.getD j 0).toNat : Int)
theorem byteAt_range (s : ByteArray) (j : Nat) : 0 ≤ byteAt s j ∧ byteAt s j ≤ 255 := by
  unfold byteAt
  have := (s.data.toList.getD j 0).toNat_lt
  omega
/-- The bytes' row behind k rounds. -/
def LowRow (w : World) (B : Nat) (s : ByteArray) (k : Nat) : Prop :=
  (∀ j, j < s.size → w.cell? ⟨B, j, none⟩ = some (.int .u8 (if j < k then lowN (byteAt s j) else byteAt s j))) ∧ (∀ j, j < s.size → w.frozen? ⟨B, j, none⟩ = false)
theorem LowRow.start (w : World) (e : TypeId) (s : ByteArray) : LowRow (Lib.bytesWorld w e s) w.heap.size s 0 := by
  refine ⟨fun j hj => ?_, fun j hj => ?_⟩
  · rw [if_neg (by omega)]; exact Lib.bytesWorld_cell w e s j hj
  · have hcs : s.size ≤ (Lib.bytesCells w e s).size := by simp [Lib.bytesCells]
    simp only [World.frozen?, Lib.bytesWorld_at_new]
    simp
    omega
theorem LowRow.keep {w : World} {B : Nat} {s : ByteArray} {k : Nat} (h : LowRow w B s k) (hk : k < s.size) (he : lowN (byteAt s k) = byteAt s k) : LowRow w B s (k + 1) := by
  refine ⟨fun j hj => ?_, h.2⟩
  rw [h.1 j hj]
  by_cases hjk : j = k
  · subst hjk
    rw [if_neg (by omega), if_pos (by omega), he]
  · by_cases hlt : j < k
    · rw [if_pos hlt, if_pos (by omega)]
    · rw [if_neg hlt, if_neg (by omega)]
theorem LowRow.put {w : World} {B : Nat} {s : ByteArray} {k : Nat} (h : LowRow w B s k) (hk : k < s.size) (x : Int) (hx : lowN (byteAt s k) = x) : LowRow (w.setCell ⟨B, k, none⟩ (.int .u8 x)) B s (k + 1) := by
  refine ⟨fun j hj => ?_, fun j hj => by rw [World.frozen?_setCell]; exact h.2 j hj⟩
  by_cases hjk : j = k
  · subst hjk
    rw [World.cell?_setCell_same' w _ _ (by rw [h.1 j hj]; rfl), if_pos (by omega), hx]
  · rw [World.cell?_setCell_other _ _ _ _ (by intro e; injection e; omega), h.1 j hj]
    by_cases hlt : j < k
    · rw [if_pos hlt, if_pos (by omega)]
    · rw [if_neg hlt, if_neg (by omega)]
def lowerOf (s : ByteArray) : ByteArray := ⟨(s.data.toList.map lowB).toArray⟩
theorem LowRow.back {P : Program} {w : World} {B : Nat} {s : ByteArray} {cap : Nat} (h : LowRow w B s s.size) (src dst e : TypeId) (hs : P.underlying src = some (.slice e)) (he : P.underlying e = some (.int .u8)) (hd : P.underlying dst = some .string) :
    (convert src dst (.slice (some ⟨B, 0, none⟩) s.size cap)).run P w = .ok (.string (lowerOf s)) w := by
  have hl : (s.data.toList.map lowB).length = s.size := by simp
  have := run_convert_bytes_back (P := P) w src dst e ⟨B, 0, none⟩ cap (s.data.toList.map lowB) hs he hd (fun j hj => by
    have hj' : j < s.size := by rw [← hl]; exact hj
    rw [add_block_off, Nat.zero_add, h.1 j hj', if_pos hj', List.getElem_map, lowB_toNat]
    congr 3
    unfold byteAt
    congr 2
    simp [List.getD, hj'])
  rw [hl] at this
  exact this

def text_Lower.f (a0 : ByteArray) : Option ByteArray := if a0.size ≤ 140737488355328 then some (lowerOf a0) else none
set_option maxHeartbeats 4000000 in
theorem text_Lower.calls (a0 : ByteArray) (r : ByteArray) (w : World) (_hLW : LW w) (h : text_Lower.f a0 = some r) :
    Calls Tryz.prog 85 #[.string a0] w fun e w' => e = .returned (.string r) ∧ Below w.heap.size w w' := by
  unfold text_Lower.f at h
  split at h
  · rename_i hs
    obtain rfl := Option.some.inj h
    clear h
    have hcv := fun W => Lib.run_convert_string_bytes (P := Tryz.prog) W 9 22 5 a0 Tryz.underlying9 Tryz.underlying22 Tryz.underlying5
    go_enter Tryz.func85, Tryz.ntmps85
    go_wp2
    clear hcv
    have H0 := Aside0.mk (LowRow.start w 5 a0)
    have HB0 := Aside0.mk (bytesWorld_below w 5 a0)
    go_loopw [4, 5, 10] (fun _ _ v10 w' => ∃ k : Nat, k ≤ a0.size ∧ v10 = .int .i64 k ∧ Aside0 (LowRow w' w.heap.size a0 k) ∧ Aside0 (Below w.heap.size w w')) (fun _ _ v10 _ => a0.size - (RowKit.intOf v10).toNat)
    case atStart => exact ⟨0, by omega, rfl, H0, HB0⟩
    case round =>
      obtain ⟨k, hk, rfl, hrow, hbl⟩ := hrel
      by_cases hlt : k < a0.size
      · have hc : wr.cell? ⟨w.heap.size, k, none⟩ = some (.int .u8 (byteAt a0 k)) := by rw [hrow.out.1 k hlt, if_neg (by omega)]
        have hf := hrow.out.2 k hlt
        obtain ⟨x0, x1⟩ := byteAt_range a0 k
        generalize hx : byteAt a0 k = x at hc x0 x1
        have HX := Aside0.mk hx
        clear hx
        by_cases c1 : x ≥ 65
        · have d1 : decide (65 ≤ x) = true := decide_eq_true c1
          by_cases c2 : x ≤ 90
          · have d2 : decide (x ≤ 90) = true := decide_eq_true c2
            go_wp2
            go_roundw
            case rel => exact ⟨k + 1, by omega, by go_num, ⟨hrow.out.put hlt _ (by rw [HX.out]; unfold lowN; rw [if_pos ⟨c1, c2⟩]; omega)⟩, ⟨hbl.out.setCell (Nat.le_refl _) _⟩⟩
            case measure => simp [RowKit.intOf]; omega
          · have d2 : decide (x ≤ 90) = false := decide_eq_false c2
            go_wp2
            go_roundw
            case rel => exact ⟨k + 1, by omega, by go_num, ⟨hrow.out.keep hlt (by rw [HX.out]; unfold lowN; rw [if_neg (by omega)])⟩, hbl⟩
            case measure => simp [RowKit.intOf]; omega
        · have d1 : decide (65 ≤ x) = false := decide_eq_false c1
          go_wp2
          go_roundw
          case rel => exact ⟨k + 1, by omega, by go_num, ⟨hrow.out.keep hlt (by rw [HX.out]; unfold lowN; rw [if_neg (by omega)])⟩, hbl⟩
          case measure => simp [RowKit.intOf]; omega
      · obtain rfl : k = a0.size := by omega
        have hcv := hrow.out.back (P := Tryz.prog) (cap := grownCap w a0.size 0 5) 22 9 5 Tryz.underlying22 Tryz.underlying5 Tryz.underlying9
        go_wp2
        go_ret
        exact ⟨rfl, hbl.out⟩
  · cases h

def lanternref01_Lower.f (a0 : ByteArray) : Option ByteArray := if a0.size ≤ 140737488355328 then some (lowerOf a0) else none
set_option maxHeartbeats 4000000 in
theorem lanternref01_Lower.calls (a0 : ByteArray) (r : ByteArray) (w : World) (_hLW : LW w) (h : lanternref01_Lower.f a0 = some r) :
    Calls Tryz.prog 60 #[.string a0] w fun e w' => e = .returned (.string r) ∧ Below w.heap.size w w' := by
  unfold lanternref01_Lower.f at h
  split at h
  · rename_i hs
    obtain rfl := Option.some.inj h
    clear h
    have hcv := fun W => Lib.run_convert_string_bytes (P := Tryz.prog) W 9 22 5 a0 Tryz.underlying9 Tryz.underlying22 Tryz.underlying5
    go_enter Tryz.func60, Tryz.ntmps60
    go_wp2
    clear hcv
    have H0 := Aside0.mk (LowRow.start w 5 a0)
    have HB0 := Aside0.mk (bytesWorld_below w 5 a0)
    go_loopw [4] (fun v4 w' => ∃ k : Nat, k ≤ a0.size ∧ v4 = .int .i64 k ∧ Aside0 (LowRow w' w.heap.size a0 k) ∧ Aside0 (Below w.heap.size w w')) (fun v4 _ => a0.size - (RowKit.intOf v4).toNat)
    case atStart => exact ⟨0, by omega, rfl, H0, HB0⟩
    case round =>
      obtain ⟨k, hk, rfl, hrow, hbl⟩ := hrel
      by_cases hlt : k < a0.size
      · have hc : wr.cell? ⟨w.heap.size, k, none⟩ = some (.int .u8 (byteAt a0 k)) := by rw [hrow.out.1 k hlt, if_neg (by omega)]
        have hf := hrow.out.2 k hlt
        obtain ⟨x0, x1⟩ := byteAt_range a0 k
        generalize hx : byteAt a0 k = x at hc x0 x1
        have HX := Aside0.mk hx
        clear hx
        by_cases c1 : x ≥ 65
        · have d1 : decide (65 ≤ x) = true := decide_eq_true c1
          by_cases c2 : x ≤ 90
          · have d2 : decide (x ≤ 90) = true := decide_eq_true c2
            go_wp2
            go_roundw
            case rel => exact ⟨k + 1, by omega, by go_num, ⟨hrow.out.put hlt _ (by rw [HX.out]; unfold lowN; rw [if_pos ⟨c1, c2⟩])⟩, ⟨hbl.out.setCell (Nat.le_refl _) _⟩⟩
            case measure => simp [RowKit.intOf]; omega
          · have d2 : decide (x ≤ 90) = false := decide_eq_false c2
            go_wp2
            go_roundw
            case rel => exact ⟨k + 1, by omega, by go_num, ⟨hrow.out.keep hlt (by rw [HX.out]; unfold lowN; rw [if_neg (by omega)])⟩, hbl⟩
            case measure => simp [RowKit.intOf]; omega
        · have d1 : decide (65 ≤ x) = false := decide_eq_false c1
          go_wp2
          go_roundw
          case rel => exact ⟨k + 1, by omega, by go_num, ⟨hrow.out.keep hlt (by rw [HX.out]; unfold lowN; rw [if_neg (by omega)])⟩, hbl⟩
          case measure => simp [RowKit.intOf]; omega
      · obtain rfl : k = a0.size := by omega
        have hcv := hrow.out.back (P := Tryz.prog) (cap := grownCap w a0.size 0 5) 22 9 5 Tryz.underlying22 Tryz.underlying5 Tryz.underlying9
        go_wp2
        go_ret
        exact ⟨rfl, hbl.out⟩
  · cases h

def strconv_Atoi.f (a0 : ByteArray) : Option (Int × Option Int) := if a0.size ≤ 18 then (Lib.atoi a0.data.toList).bind fun n => some (n, none) else none
theorem strconv_Atoi.calls (a0 : ByteArray) (r0 : Int) (r1 : Option Int) (w : World) (hLW : LW w) (h : strconv_Atoi.f a0 = some (r0, r1)) :
    Calls Tryz.prog 70 #[.string a0] w fun e w' => e = .returned (.tuple #[.int .i64 r0, match r1 with | none => .nilIface | some c => .iface 134 (.int .i64 c)]) ∧ Below w.heap.size w w' := by
  unfold strconv_Atoi.f at h
  split at h
  · rename_i hc
    obtain ⟨n, hn, hr⟩ := Option.bind_eq_some_iff.mp h
    simp only [Option.some.injEq, Prod.mk.injEq] at hr
    obtain ⟨rfl, rfl⟩ := hr
    refine (Tryz.strconv_Atoi a0 n hc hn w).mono ?_
    rintro e w' ⟨rfl, t, rfl⟩
    exact ⟨rfl, bytesWorld_below w _ t⟩
  · cases h
theorem strconv_Atoi.none {a0 : ByteArray} {r0 : Int} {r1 : Option Int} (h : strconv_Atoi.f a0 = some (r0, r1)) : r1 = .none := by
  unfold strconv_Atoi.f at h
  split at h
  · obtain ⟨n, hn, hr⟩ := Option.bind_eq_some_iff.mp h
    simp only [Option.some.injEq, Prod.mk.injEq] at hr
    exact hr.2.symm
  · cases h
end Go.Proofs.YtipleegkonhfcaaGreatDoor.E
