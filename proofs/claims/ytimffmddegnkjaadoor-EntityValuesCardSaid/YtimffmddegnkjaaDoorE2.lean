/- Contracts, by hand, of functions that the printed ones call: validstring, text_check, text_stands, text_xml. -/
import Derived.Test.YtimffmddegnkjaaDoorE
import Derived.Test.YtimffmddegnkjaaDoorShelf4
import Derived.Test.YtimffmddegnkjaaDoorShelf
import Derived.Test.YtimffmddegnkjaaDoorWMore
import Derived.Test.YtimffmddegnkjaaDoorWLast
import Derived.WalkKit
import Derived.Deep.LoopGhost
import Derived.Laws.RangeAny
import Derived.Lib.RuneCount
import Derived.Lib.ValidU
import Derived.LoopTactic
import Derived.Shelf.Unicode.DecodeSlow
import Derived.Lib.OthersKept
namespace Go.Proofs.YtimffmddegnkjaaDoor.E
open Go Go.RowKit Go.Shelf Go.Lib Go.Proofs.YtimffmddegnkjaaDoorW.PrintWords Go.Proofs.YtimffmddegnkjaaDoorW.PrintLast Go.Proofs.YtimffmddegnkjaaDoorW.PrintMore
set_option linter.unusedVariables false
set_option linter.unusedSimpArgs false

def utf8_ValidString.f (a0 : ByteArray) : Option Bool := if a0.size ≤ 9223372036854775807 then some (Lib.validD a0.data.toList) else none
theorem utf8_ValidString.calls (a0 : ByteArray) (r : Bool) (w : World) (hLW : LW w) (h : utf8_ValidString.f a0 = some r) :
    Calls Tryd.prog 32 #[.string a0] w fun e w' => e = .returned (.bool r) ∧ Below w.heap.size w w' := by
  unfold utf8_ValidString.f at h
  split at h
  · rename_i hc
    obtain rfl := Option.some.inj h
    exact Any.utf8_ValidString Tryd.lays196 a0 w hc hLW.tabs
  · cases h

def text_Check.f (a0 : ByteArray) : Option Int := (utf8_ValidString.f a0).bind fun b => some (if b = true then 0 else 5)
set_option maxHeartbeats 1000000 in
theorem text_Check.calls (a0 : ByteArray) (r : Int) (w : World) (hLW : LW w) (h : text_Check.f a0 = some r) :
    Calls Tryd.prog 18 #[.string a0] w fun e w' => e = .returned (.int .i64 r) ∧ Below w.heap.size w w' := by
  obtain ⟨b, hb, hr⟩ := Option.bind_eq_some_iff.mp h
  have hc := fun W hl => utf8_ValidString.calls a0 b W hl hb
  have HC := Aside0.mk hc
  have HLW := Aside0.mk hLW
  clear h hb hc hLW
  cases b with
  | true =>
    obtain rfl := Option.some.inj hr
    clear hr
    go_enter Tryd.func18, Tryd.ntmps18
    go_wp2_with (go_at_call 32; refine (HC.out _ HLW.out).mono ?_; rintro e w1 ⟨rfl, hb1⟩)
    go_ret
    exact ⟨rfl, hb1⟩
  | false =>
    obtain rfl := Option.some.inj hr
    clear hr
    go_enter Tryd.func18, Tryd.ntmps18
    go_wp2_with (go_at_call 32; refine (HC.out _ HLW.out).mono ?_; rintro e w1 ⟨rfl, hb1⟩)
    go_ret
    exact ⟨rfl, hb1⟩

theorem check_of {a0 : ByteArray} (hs : a0.size ≤ 9223372036854775807) (b : Bool) (h : Lib.validD a0.data.toList = b) : text_Check.f a0 = some (if b = true then 0 else 5) := by
  unfold text_Check.f utf8_ValidString.f
  rw [if_pos hs, h]
  rfl

def standsB (c : Int) : Bool := if c < 32 then (c == 9 || (c == 10 || c == 13)) else (c != 65534 && c != 65535)
def text_stands.f (a0 : Int) : Option Bool := some (standsB a0)
set_option maxHeartbeats 1000000 in
theorem text_stands.calls (a0 : Int) (r : Bool) (w : World) (_hLW : LW w) (h : text_stands.f a0 = some r) :
    Calls Tryd.prog 41 #[.int .i32 a0] w fun e w' => e = .returned (.bool r) ∧ Below w.heap.size w w' := by
  obtain rfl := Option.some.inj h
  clear h
  by_cases c1 : a0 < 32
  · have d1 : decide (a0 < 32) = true := decide_eq_true c1
    by_cases c9 : a0 = 9
    · subst c9
      go_enter Tryd.func41, Tryd.ntmps41
      go_wp2
      go_ret
      exact ⟨rfl, Below.refl _ _⟩
    · have d9 : (a0 == 9) = false := beq_eq_false_iff_ne.mpr c9
      by_cases c10 : a0 = 10
      · subst c10
        go_enter Tryd.func41, Tryd.ntmps41
        go_wp2
        go_ret
        exact ⟨rfl, Below.refl _ _⟩
      · have d10 : (a0 == 10) = false := beq_eq_false_iff_ne.mpr c10
        have fin : standsB a0 = (a0 == 13) := by simp [standsB, c1, d9, d10]
        have FIN := Aside0.mk fin
        clear fin c1 c9 c10
        go_enter Tryd.func41, Tryd.ntmps41
        go_wp2
        go_ret
        exact ⟨by rw [FIN.out]; rfl, Below.refl _ _⟩
  · have d1 : decide (a0 < 32) = false := decide_eq_false c1
    by_cases c2 : a0 = 65534
    · subst c2
      go_enter Tryd.func41, Tryd.ntmps41
      go_wp2
      go_ret
      exact ⟨rfl, Below.refl _ _⟩
    · have d2 : (a0 != 65534) = true := bne_iff_ne.mpr c2
      have fin : standsB a0 = (a0 != 65535) := by simp [standsB, c1, d2]
      have FIN := Aside0.mk fin
      clear fin c1 c2
      go_enter Tryd.func41, Tryd.ntmps41
      go_wp2
      go_ret
      exact ⟨by rw [FIN.out]; rfl, Below.refl _ _⟩

/-- May all runes from a place on stand in XML? -/
def xmlFrom (s : ByteArray) : Nat → Nat → Bool
  | 0, _ => true
  | b + 1, pos => if pos < s.size then (if standsB (Utf8.decode s pos).1 = true then xmlFrom s b (pos + (Utf8.decode s pos).2) else false) else true
theorem xmlFrom_end (s : ByteArray) (b pos : Nat) (h : ¬ pos < s.size) : xmlFrom s b pos = true := by
  cases b <;> simp [xmlFrom, h]
def text_Xml.f (a0 : ByteArray) : Option Int :=
  if a0.size < 9223372036854775807 then (if Lib.validD a0.data.toList = true then (if xmlFrom a0 a0.size 0 = true then some 0 else some 1) else some 5) else none
def xmlSays (b : Bool) : Int := if b = true then 0 else 1
set_option maxHeartbeats 4000000 in
theorem text_Xml.calls (a0 : ByteArray) (r : Int) (w : World) (hLW : LW w) (h : text_Xml.f a0 = some r) :
    Calls Tryd.prog 28 #[.string a0] w fun e w' => e = .returned (.int .i64 r) ∧ Below w.heap.size w w' := by
  unfold text_Xml.f at h
  have HLW := Aside0.mk hLW
  clear hLW
  by_cases hs : a0.size < 9223372036854775807
  · rw [if_pos hs] at h
    by_cases hv : Lib.validD a0.data.toList = true
    · rw [if_pos hv] at h
      have hr : xmlSays (xmlFrom a0 a0.size 0) = r := by
        unfold xmlSays
        split at h <;> rename_i hx
        · rw [if_pos hx]; exact Option.some.inj h
        · rw [if_neg hx]; exact Option.some.inj h
      subst hr
      have HC := Aside0.mk (fun W hl => text_Check.calls a0 0 W hl (check_of (by omega) true hv))
      clear h hv
      go_enter Tryd.func28, Tryd.ntmps28
      go_wp2_with (go_at_call 18; refine (HC.out _ HLW.out).mono ?_; rintro e w1 ⟨rfl, hb1⟩)
      have HB := Aside0.mk hb1
      clear hb1 HC
      go_loopw [5] (fun _ w' => ∃ (pos b : Nat), Aside0 (w'.heap[w1.heap.size]? = some (.stringIter a0 pos)) ∧ Aside0 (xmlFrom a0 b pos = xmlFrom a0 a0.size 0) ∧ a0.size ≤ pos + b ∧ Aside0 (Below w1.heap.size w1 w')) (fun _ w' => a0.size - w'.iterPos w1.heap.size)
      case atStart => exact ⟨0, a0.size, ⟨World.iter_heap w1 a0 0⟩, ⟨rfl⟩, by omega, ⟨(Below.refl _ _).alloc (Nat.le_refl _) _⟩⟩
      case round =>
        obtain ⟨pos, b, hit, hc, hb, hbl⟩ := hrel
        have hpos : wr.iterPos w1.heap.size = pos := by simp [World.iterPos, hit.out]
        by_cases hp : pos < a0.size
        · have hnx : ∀ ty, (Instr.next (.pointer (some ⟨w1.heap.size, 0, none⟩)) true ty).run Tryd.prog wr = _ := fun ty => Lib.run_next_any_at wr w1.heap.size a0 pos ty hit.out hp
          have hwd := Lib.decode_width_pos a0 pos hp
          have hit2 := Aside0.mk (Lib.iterAt_heap wr w1.heap.size a0 pos (pos + (Utf8.decode a0 pos).2) hit.out)
          have hbl2 := Aside0.mk (Lib.below_iterAt hbl.out (k := w1.heap.size) (Nat.le_refl _) a0 (pos + (Utf8.decode a0 pos).2))
          have hlw := Aside0.mk (LW.below (LW.below HLW.out HB.out) hbl2.out)
          obtain ⟨b, rfl⟩ : ∃ m, b = m + 1 := ⟨b - 1, by omega⟩
          have hsw : Aside0 (wr.iterPos w1.heap.size = pos) := ⟨hpos⟩
          clear hpos
          cases hst : standsB (Utf8.decode a0 pos).1 with
          | true =>
            have e0 : xmlFrom a0 (b + 1) pos = xmlFrom a0 b (pos + (Utf8.decode a0 pos).2) := by simp [xmlFrom, hp, hst]
            have hc' := Aside0.mk (e0.symm.trans hc.out)
            have HS := Aside0.mk (fun W hl => text_stands.calls (Utf8.decode a0 pos).1 true W hl (congrArg some hst))
            clear hc e0 hst
            go_wp2_with (go_at_call 41; refine (HS.out _ hlw.out).mono ?_; rintro e w3 ⟨rfl, hb3⟩)
            have HB3 := Aside0.mk hb3
            clear hb3
            have hsz : w1.heap.size < (wr.iterAt w1.heap.size a0 (pos + (Utf8.decode a0 pos).2)).heap.size := (Array.getElem?_eq_some_iff.1 hit2.out).1
            have hit3 := Aside0.mk ((HB3.out.block _ hsz).trans hit2.out)
            go_roundw
            case rel => exact ⟨pos + (Utf8.decode a0 pos).2, b, hit3, hc', by omega, ⟨hbl2.out.trans (HB3.out.mono (Nat.le_of_lt hsz))⟩⟩
            case measure =>
              have e3 : w3.iterPos w1.heap.size = pos + (Utf8.decode a0 pos).2 := by simp [World.iterPos, hit3.out]
              rw [e3, hsw.out]
              omega
          | false =>
            have e0 : xmlFrom a0 (b + 1) pos = false := by simp [xmlFrom, hp, hst]
            have hc' := Aside0.mk (e0.symm.trans hc.out)
            have HS := Aside0.mk (fun W hl => text_stands.calls (Utf8.decode a0 pos).1 false W hl (congrArg some hst))
            clear hc e0 hst
            go_wp2_with (go_at_call 41; refine (HS.out _ hlw.out).mono ?_; rintro e w3 ⟨rfl, hb3⟩)
            have HB3 := Aside0.mk hb3
            clear hb3
            go_ret
            have hsz : w1.heap.size ≤ (wr.iterAt w1.heap.size a0 (pos + (Utf8.decode a0 pos).2)).heap.size := hbl2.out.size
            exact ⟨by rw [← hc'.out]; rfl, HB.out.trans ((hbl2.out.trans (HB3.out.mono hsz)).mono HB.out.size)⟩
        · have hnx : ∀ ty, (Instr.next (.pointer (some ⟨w1.heap.size, 0, none⟩)) true ty).run Tryd.prog wr = _ := fun ty => Lib.run_next_end_at wr w1.heap.size a0 pos ty hit.out hp
          have hc' := Aside0.mk ((xmlFrom_end a0 b pos hp).symm.trans hc.out)
          clear hc hpos
          go_wp2
          go_ret
          exact ⟨by rw [← hc'.out]; rfl, HB.out.trans (hbl.out.mono HB.out.size)⟩
    · rw [if_neg hv] at h
      obtain rfl := Option.some.inj h
      have HC := Aside0.mk (fun W hl => text_Check.calls a0 5 W hl (check_of (by omega) false (by simpa using hv)))
      clear h hv
      go_enter Tryd.func28, Tryd.ntmps28
      go_wp2_with (go_at_call 18; refine (HC.out _ HLW.out).mono ?_; rintro e w1 ⟨rfl, hb1⟩)
      go_ret
      exact ⟨rfl, hb1⟩
  · rw [if_neg hs] at h
    cases h
end Go.Proofs.YtimffmddegnkjaaDoor.E
