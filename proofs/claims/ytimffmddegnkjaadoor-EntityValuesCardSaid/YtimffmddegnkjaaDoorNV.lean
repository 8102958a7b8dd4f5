/- The contract of lanternref12.Value, by hand: white turned to blanks in bytes of its own. -/
import Derived.Test.YtimffmddegnkjaaDoorP
import Derived.LoopTactic
import Derived.Lib.ConvBytes
import Derived.Laws.IdiomStrings
set_option linter.unusedVariables false
set_option linter.unusedSimpArgs false
namespace Go.Proofs.YtimffmddegnkjaaDoor.E
open Go.RowKit Go.Shelf Go.Lib Go.Proofs.YtimffmddegnkjaaDoorW.PrintWords Go.Proofs.YtimffmddegnkjaaDoorW.PrintLast Go.Proofs.YtimffmddegnkjaaDoorW.PrintMore Go.Proofs.YtimffmddegnkjaaDoor.P

theorem bytesWorld_below (w : World) (e : TypeId) (s : ByteArray) : Below w.heap.size w (Lib.bytesWorld w e s) :=
  ⟨rfl, rfl, rfl, by rw [Lib.bytesWorld_size]; omega, fun k hk => Lib.bytesWorld_at_old w e s k hk⟩
theorem add_block_off (b o j : Nat) : (⟨b, o, none⟩ : Addr).add j = ⟨b, o + j, none⟩ := by unfold Addr.add; split <;> simp_all
/-- White turned to a blank. -/
def blankN (c : Int) : Int := if c = 9 then 32 else if c = 10 then 32 else c
def blankB (b : UInt8) : UInt8 := if b = 9 then 32 else if b = 10 then 32 else b
theorem blankB_toNat (b : UInt8) : ((blankB b).toNat : Int) = blankN b.toNat := by
  unfold blankB blankN
  by_cases h1 : b = 9
  · subst h1; rfl
  · have n1 : ¬ (b.toNat : Int) = 9 := fun h => h1 (UInt8.toNat_inj.mp (by have : (9 : UInt8).toNat = 9 := rfl; omega))
    rw [if_neg h1, if_neg n1]
    by_cases h2 : b = 10
    · subst h2; rfl
    · have n2 : ¬ (b.toNat : Int) = 10 := fun h => h2 (UInt8.toNat_inj.mp (by have : (10 : UInt8).toNat = 10 := rfl; omega))
      rw [if_neg h2, if_neg n2]
def byteAt (s : ByteArray) (j : Nat) : Int := ((s.data.toList.getD j 0).toNat : Int)
theorem byteAt_range (s : ByteArray) (j : Nat) : 0 ≤ byteAt s j ∧ byteAt s j ≤ 255 := by
  unfold byteAt
  have := (s.data.toList.getD j 0).toNat_lt
  omega
/-- The bytes' row behind k rounds. -/
def BlankRow (w : World) (B : Nat) (s : ByteArray) (k : Nat) : Prop :=
  (∀ j, j < s.size → w.cell? ⟨B, j, none⟩ = some (.int .u8 (if j < k then blankN (byteAt s j) else byteAt s j))) ∧ (∀ j, j < s.size → w.frozen? ⟨B, j, none⟩ = false)
theorem BlankRow.start (w : World) (e : TypeId) (s : ByteArray) : BlankRow (Lib.bytesWorld w e s) w.heap.size s 0 := by
  refine ⟨fun j hj => ?_, fun j hj => ?_⟩
  · rw [if_neg (by omega)]; exact Lib.bytesWorld_cell w e s j hj
  · have hcs : s.size ≤ (Lib.bytesCells w e s).size := by simp [Lib.bytesCells]
    simp only [World.frozen?, Lib.bytesWorld_at_new]
    simp
    omega
theorem BlankRow.keep {w : World} {B : Nat} {s : ByteArray} {k : Nat} (h : BlankRow w B s k) (hk : k < s.size) (he : blankN (byteAt s k) = byteAt s k) : BlankRow w B s (k + 1) := by
  refine ⟨fun j hj => ?_, h.2⟩
  rw [h.1 j hj]
  by_cases hjk : j = k
  · subst hjk
    rw [if_neg (by omega), if_pos (by omega), he]
  · by_cases hlt : j < k
    · rw [if_pos hlt, if_pos (by omega)]
    · rw [if_neg hlt, if_neg (by omega)]
theorem BlankRow.put {w : World} {B : Nat} {s : ByteArray} {k : Nat} (h : BlankRow w B s k) (hk : k < s.size) (x : Int) (hx : blankN (byteAt s k) = x) : BlankRow (w.setCell ⟨B, k, none⟩ (.int .u8 x)) B s (k + 1) := by
  refine ⟨fun j hj => ?_, fun j hj => by rw [World.frozen?_setCell]; exact h.2 j hj⟩
  by_cases hjk : j = k
  · subst hjk
    rw [World.cell?_setCell_same' w _ _ (by rw [h.1 j hj]; rfl), if_pos (by omega), hx]
  · rw [World.cell?_setCell_other _ _ _ _ (by intro e; injection e; omega), h.1 j hj]
    by_cases hlt : j < k
    · rw [if_pos hlt, if_pos (by omega)]
    · rw [if_neg hlt, if_neg (by omega)]
def blankOf (s : ByteArray) : ByteArray := ⟨(s.data.toList.map blankB).toArray⟩
theorem BlankRow.back {P : Program} {w : World} {B : Nat} {s : ByteArray} {cap : Nat} (h : BlankRow w B s s.size) (src dst e : TypeId) (hs : P.underlying src = some (.slice e)) (he : P.underlying e = some (.int .u8)) (hd : P.underlying dst = some .string) :
    (convert src dst (.slice (some ⟨B, 0, none⟩) s.size cap)).run P w = .ok (.string (blankOf s)) w := by
  have hl : (s.data.toList.map blankB).length = s.size := by simp
  have := run_convert_bytes_back (P := P) w src dst e ⟨B, 0, none⟩ cap (s.data.toList.map blankB) hs he hd (fun j hj => by
    have hj' : j < s.size := by rw [← hl]; exact hj
    rw [add_block_off, Nat.zero_add, h.1 j hj', if_pos hj', List.getElem_map, blankB_toNat]
    congr 3
    unfold byteAt
    congr 2
    simp [List.getD, hj'])
  rw [hl] at this
  exact this

def lanternref12_Value.f (k : Nat) (a0 : ByteArray) : Option (ByteArray × Bool) := (lanternref12_Lines.f k a0).bind fun l => if l.size ≤ 140737488355328 then lanternref12_Unescape.f k (blankOf l) else none
theorem lanternref12_Value.mono : ∀ a0 k, LeO (lanternref12_Value.f k a0) (lanternref12_Value.f (k + 1) a0) := by
  intro a0 k
  unfold lanternref12_Value.f
  refine LeO.bind (lanternref12_Lines.mono a0 k) (fun l => ?_)
  split
  · exact lanternref12_Unescape.mono _ k
  · exact LeO.refl _
set_option maxHeartbeats 4000000 in
set_option maxRecDepth 100000 in
theorem lanternref12_Value.calls (k : Nat) (a0 : ByteArray) (r1 : ByteArray) (r2 : Bool) (w : World) (hLW : LW w) (h : lanternref12_Value.f k a0 = some (r1, r2)) :
    Calls Tryd.prog 16 #[.string a0] w fun e w' => e = .returned (.tuple #[.string r1, .bool r2]) ∧ Below w.heap.size w w' := by
  obtain ⟨l, hl, h⟩ := Option.bind_eq_some_iff.mp h
  by_cases hs : l.size ≤ 140737488355328
  · rw [if_pos hs] at h
    have HLW := Aside0.mk hLW
    have HL := Aside0.mk hl
    have HU := Aside0.mk h
    clear hLW hl h
    have hcv := fun W => Lib.run_convert_string_bytes (P := Tryd.prog) W 9 35 5 l Tryd.underlying9 Tryd.underlying35 Tryd.underlying5
    go_enter Tryd.func16, Tryd.ntmps16
    go_wp2_with (go_at_call 17; refine (lanternref12_Lines.calls k a0 l _ HLW.out HL.out).mono ?_; rintro e w1 ⟨rfl, hb1⟩)
    clear hcv
    have HB1 := Aside0.mk hb1
    clear hb1
    have H0 := Aside0.mk (BlankRow.start w1 5 l)
    have HB0 := Aside0.mk (bytesWorld_below w1 5 l)
    go_loopw [5] (fun v5 w' => ∃ k : Nat, k ≤ l.size ∧ v5 = .int .i64 k ∧ Aside0 (BlankRow w' w1.heap.size l k) ∧ Aside0 (Below w1.heap.size w1 w')) (fun v5 _ => l.size - (RowKit.intOf v5).toNat)
    case atStart => exact ⟨0, by omega, rfl, H0, HB0⟩
    case round =>
      obtain ⟨i, hk, rfl, hrow, hbl⟩ := hrel
      by_cases hlt : i < l.size
      · have hc : wr.cell? ⟨w1.heap.size, i, none⟩ = some (.int .u8 (byteAt l i)) := by rw [hrow.out.1 i hlt, if_neg (by omega)]
        have hf := hrow.out.2 i hlt
        obtain ⟨x0, x1⟩ := byteAt_range l i
        generalize hx : byteAt l i = x at hc x0 x1
        have HX := Aside0.mk hx
        clear hx
        by_cases c1 : x = 9
        · subst c1
          go_wp2
          go_roundw
          case rel => exact ⟨i + 1, by omega, by go_num, ⟨hrow.out.put hlt _ (by rw [HX.out]; rfl)⟩, ⟨hbl.out.setCell (Nat.le_refl _) _⟩⟩
          case measure => simp [RowKit.intOf]; omega
        · have d1 : (x == 9) = false := beq_eq_false_iff_ne.mpr c1
          by_cases c2 : x = 10
          · subst c2
            go_wp2
            go_roundw
            case rel => exact ⟨i + 1, by omega, by go_num, ⟨hrow.out.put hlt _ (by rw [HX.out]; rfl)⟩, ⟨hbl.out.setCell (Nat.le_refl _) _⟩⟩
            case measure => simp [RowKit.intOf]; omega
          · have d2 : (x == 10) = false := beq_eq_false_iff_ne.mpr c2
            go_wp2
            go_roundw
            case rel => exact ⟨i + 1, by omega, by go_num, ⟨hrow.out.keep hlt (by rw [HX.out]; unfold blankN; rw [if_neg c1, if_neg c2])⟩, hbl⟩
            case measure => simp [RowKit.intOf]; omega
      · obtain rfl : i = l.size := by omega
        have hcv := hrow.out.back (P := Tryd.prog) (cap := grownCap w1 l.size 0 5) 35 9 5 Tryd.underlying35 Tryd.underlying5 Tryd.underlying9
        go_wp2_with (go_at_call 9; refine (lanternref12_Unescape.calls k (blankOf l) r1 r2 _ (LW.below HLW.out (HB1.out.trans (hbl.out.mono HB1.out.size))) HU.out).mono ?_; rintro e w5 ⟨rfl, hb5⟩)
        go_ret2
        exact ⟨rfl, below_step (HB1.out.trans (hbl.out.mono HB1.out.size)) hb5⟩
  · rw [if_neg hs] at h
    cases h
end Go.Proofs.YtimffmddegnkjaaDoor.E
