/- The contract of entity.Escape, by hand: rune by rune into a builder of its own. -/
import Derived.Test.YtimffmddegnkjaaDoorNU
set_option linter.unusedVariables false
set_option linter.unusedSimpArgs false
namespace Go.Proofs.YtimffmddegnkjaaDoor.E
open Go Go.RowKit Go.Shelf Go.Lib Go.Proofs.YtimffmddegnkjaaDoorW.PrintWords Go.Proofs.YtimffmddegnkjaaDoorW.PrintLast Go.Proofs.YtimffmddegnkjaaDoorW.PrintMore Go.Proofs.YtimffmddegnkjaaDoor.I Go.Proofs.YtimffmddegnkjaaDoor.J

/-- The sign that stands for a rune; empty: none. -/
def signOf (c : Int) : ByteArray := if c = 38 then ⟨#[38, 97, 109, 112, 59]⟩ else if c = 60 then ⟨#[38, 108, 116, 59]⟩ else if c = 62 then ⟨#[38, 103, 116, 59]⟩ else if c = 34 then ⟨#[38, 113, 117, 111, 116, 59]⟩ else if c = 39 then ⟨#[38, 97, 112, 111, 115, 59]⟩ else if c = 13 then ⟨#[38, 35, 49, 51, 59]⟩ else ⟨#[]⟩
theorem sign_eq (c : Int) : entity_sign.f c = some (signOf c) := by
  unfold entity_sign.f signOf
  repeat' split
  all_goals rfl
theorem signOf_size (c : Int) : (signOf c).size ≤ 6 := by
  unfold signOf
  repeat' split
  all_goals decide
/-- What Escape writes, from a place on. -/
def escFrom (s : ByteArray) : Nat → Nat → List UInt8
  | 0, _ => []
  | b + 1, pos => if pos < s.size then (if (signOf (Utf8.decode s pos).1).toList = [] then Lib.encodeRune (Utf8.decode s pos).1 else (signOf (Utf8.decode s pos).1).data.toList) ++ escFrom s b (pos + (Utf8.decode s pos).2) else []
theorem escFrom_end (s : ByteArray) (b pos : Nat) (h : ¬ pos < s.size) : escFrom s b pos = [] := by
  cases b <;> simp [escFrom, h]
def entity_Escape.f (a0 : ByteArray) : Option (ByteArray × Int) :=
  if a0.size ≤ 17592186044416 then (text_Xml.f a0).bind fun e => if e = 0 then some (⟨(escFrom a0 a0.size 0).toArray⟩, 0) else some (⟨#[]⟩, e) else none
set_option maxHeartbeats 8000000 in
set_option maxRecDepth 100000 in
theorem entity_Escape.calls (a0 : ByteArray) (r1 : ByteArray) (r2 : Int) (w : World) (hLW : LW w) (h : entity_Escape.f a0 = some (r1, r2)) :
    Calls Tryd.prog 12 #[.string a0] w fun e w' => e = .returned (.tuple #[.string r1, .int .i64 r2]) ∧ Below w.heap.size w w' := by
  unfold entity_Escape.f at h
  have HLW := Aside0.mk hLW
  clear hLW
  by_cases hs : a0.size ≤ 17592186044416
  · rw [if_pos hs] at h
    obtain ⟨e, he, hr⟩ := Option.bind_eq_some_iff.mp h
    clear h
    have HE := Aside0.mk he
    clear he
    by_cases c1 : e = 0
    · subst c1
      rw [if_pos rfl] at hr
      simp only [Option.some.injEq, Prod.mk.injEq] at hr
      obtain ⟨rfl, rfl⟩ := hr
      go_enter Tryd.func12, Tryd.ntmps12
      go_wp2_with (go_at_call 28; refine (text_Xml.calls a0 0 _ HLW.out HE.out).mono ?_; rintro e w1 ⟨rfl, hb1⟩)
      have HB1 := Aside0.mk hb1
      clear hb1
      have HF := Aside0.mk (Lib.IsBuilderF.of (Lib.fresh_isBuilder 37 5 w1))
      have HW0 := Aside0.mk HB1.out.size
      have HS := Aside0.mk hs
      clear hs
      go_loopw [] (fun wr => ∃ (pos fuel : Nat) (acc : List UInt8), Aside0 (Lib.IsBuilderF 37 5 w1.heap.size w1.heap.size (Lib.byteCells acc) wr) ∧ Aside0 (wr.heap[w1.heap.size + 1]? = some (.stringIter a0 pos)) ∧ Aside0 (Below w1.heap.size w1 wr) ∧ Aside0 (acc ++ escFrom a0 fuel pos = escFrom a0 a0.size 0) ∧ a0.size ≤ pos + fuel ∧ acc.length ≤ 6 * pos) (fun wr => a0.size - wr.iterPos (w1.heap.size + 1))
      case atStart =>
        refine ⟨0, a0.size, [], ⟨HF.out.alloc _⟩, ⟨?_⟩, ⟨((Below.refl _ w1).alloc (Nat.le_refl _) _).alloc (by simp) _⟩, ⟨rfl⟩, by omega, by simp⟩
        have := World.iter_heap (w1.alloc (.cells #[.pointer none, .slice none 0 0] 37)) a0 0
        simpa using this
      case round =>
        obtain ⟨pos, fuel, acc, hI, hit, hbw, hacc, hfu, hal⟩ := hrel
        have hsz : w1.heap.size + 1 < wr.heap.size := (Array.getElem?_eq_some_iff.1 hit.out).1
        have hhs := HS.out
        by_cases hp : pos < a0.size
        · have hnx : ∀ ty, (Instr.next (.pointer (some ⟨w1.heap.size + 1, 0, none⟩)) true ty).run Tryd.prog wr = _ := fun ty => Lib.run_next_any_at wr (w1.heap.size + 1) a0 pos ty hit.out hp
          have hwd := Lib.decode_width_pos a0 pos hp
          have hd1 := decode_le a0 pos
          have hI2 := Aside0.mk (hI.out.iterAt hit.out (pos + (Utf8.decode a0 pos).2))
          have hit2 := Aside0.mk (Lib.iterAt_heap wr (w1.heap.size + 1) a0 pos (pos + (Utf8.decode a0 pos).2) hit.out)
          have hbw2 := Aside0.mk (Lib.below_iterAt hbw.out (k := w1.heap.size + 1) (by omega) a0 (pos + (Utf8.decode a0 pos).2))
          have hsz2 : w1.heap.size ≤ (wr.iterAt (w1.heap.size + 1) a0 (pos + (Utf8.decode a0 pos).2)).heap.size := by rw [Lib.iterAt_size]; omega
          have hlw2 := Aside0.mk (LW.below HLW.out (HB1.out.trans (hbw2.out.mono HW0.out)))
          obtain ⟨f, rfl⟩ : ∃ f, fuel = f + 1 := ⟨fuel - 1, by omega⟩
          have hsg := signOf_size (Utf8.decode a0 pos).1
          have hip : wr.iterPos (w1.heap.size + 1) = pos := by simp [World.iterPos, hit.out]
          have HIP := Aside0.mk hip
          clear hip
          have e0 : escFrom a0 (f + 1) pos = (if (signOf (Utf8.decode a0 pos).1).toList = [] then Lib.encodeRune (Utf8.decode a0 pos).1 else (signOf (Utf8.decode a0 pos).1).data.toList) ++ escFrom a0 f (pos + (Utf8.decode a0 pos).2) := by rw [escFrom, if_pos hp]
          have hacc' := Aside0.mk hacc.out
          clear hacc
          rw [e0] at hacc'
          clear e0
          by_cases hx : (signOf (Utf8.decode a0 pos).1).toList = []
          · have hacc2 := hacc'.out
            rw [if_pos hx] at hacc2
            have HACC := Aside0.mk hacc2
            have d1 : (signOf (Utf8.decode a0 pos).1).toList.isEmpty = true := by rw [hx]; rfl
            clear hacc2 hacc' hx hsg
            go_wp2_with (first | (go_at_call 29; refine (entity_sign.calls _ _ _ hlw2.out (sign_eq _)).mono ?_; rintro e w3 ⟨rfl, ⟨nd, rfl⟩⟩) | (go_at_call 30; refine (Tryd.Builder_WriteRune_k w1.heap.size w1.heap.size _ _ (by omega) (by omega) _ (isBuilderF_old hI2.out (pw_below_drewN (Below.refl _ _) nd)) (by rw [Lib.byteCells_length]; omega) hsz2).mono ?_; rintro e w4 ⟨rfl, h1, b1, k1⟩))
            go_roundw
            case rel =>
              have hl4 := Lib.runeCells_le ((Utf8.decode a0 pos).1 : Int)
              rw [Lib.runeCells_length] at hl4
              refine ⟨pos + (Utf8.decode a0 pos).2, f, acc ++ Lib.encodeRune (Utf8.decode a0 pos).1, ⟨?_⟩, ⟨k1.iter hit2.out (by omega)⟩, ⟨(pw_below_drewN hbw2.out nd).trans b1⟩, ⟨by rw [List.append_assoc]; exact HACC.out⟩, by omega, by simp; omega⟩
              rw [Lib.byteCells_append, Lib.byteCells_encodeRune]
              exact Or.inr h1
            case measure =>
              have e3 : w4.iterPos (w1.heap.size + 1) = pos + (Utf8.decode a0 pos).2 := by simp [World.iterPos, k1.iter hit2.out (by omega)]
              rw [e3, HIP.out]
              omega
          · have hacc2 := hacc'.out
            rw [if_neg hx] at hacc2
            have HACC := Aside0.mk hacc2
            have d1 : (signOf (Utf8.decode a0 pos).1).toList.isEmpty = false := by cases hq : (signOf (Utf8.decode a0 pos).1).toList with | nil => exact absurd hq hx | cons a b => rfl
            clear hacc2 hacc' hx
            go_wp2_with (first | (go_at_call 29; refine (entity_sign.calls _ _ _ hlw2.out (sign_eq _)).mono ?_; rintro e w3 ⟨rfl, ⟨nd, rfl⟩⟩) | (go_at_call 20; refine (Tryd.Builder_WriteString_k w1.heap.size w1.heap.size _ _ _ (isBuilderF_old hI2.out (pw_below_drewN (Below.refl _ _) nd)) (by rw [Lib.byteCells_length]; omega) hsz2).mono ?_; rintro e w4 ⟨rfl, h1, b1, k1⟩))
            go_roundw
            case rel =>
              refine ⟨pos + (Utf8.decode a0 pos).2, f, acc ++ (signOf (Utf8.decode a0 pos).1).data.toList, ⟨?_⟩, ⟨k1.iter hit2.out (by omega)⟩, ⟨(pw_below_drewN hbw2.out nd).trans b1⟩, ⟨by rw [List.append_assoc]; exact HACC.out⟩, by omega, ?_⟩
              · rw [Lib.byteCells_append]
                exact Or.inr h1
              · rw [List.length_append, ← Lib.size_eq]
                omega
            case measure =>
              have e3 : w4.iterPos (w1.heap.size + 1) = pos + (Utf8.decode a0 pos).2 := by simp [World.iterPos, k1.iter hit2.out (by omega)]
              rw [e3, HIP.out]
              omega
        · have hnx : ∀ ty, (Instr.next (.pointer (some ⟨w1.heap.size + 1, 0, none⟩)) true ty).run Tryd.prog wr = _ := fun ty => Lib.run_next_end_at wr (w1.heap.size + 1) a0 pos ty hit.out hp
          have hacc2 := hacc.out
          rw [escFrom_end a0 fuel pos hp, List.append_nil] at hacc2
          subst hacc2
          clear hacc
          go_wp2_with (go_at_call 21; refine (Tryd.Builder_String_any_k w1.heap.size w1.heap.size _ _ hI.out (by omega)).mono ?_; rintro e w4 ⟨rfl, _, b1, _⟩)
          go_ret2
          exact ⟨rfl, HB1.out.trans ((hbw.out.trans b1).mono HW0.out)⟩
    · rw [if_neg c1] at hr
      simp only [Option.some.injEq, Prod.mk.injEq] at hr
      obtain ⟨rfl, rfl⟩ := hr
      have d1 : (e != 0) = true := bne_iff_ne.mpr c1
      go_enter Tryd.func12, Tryd.ntmps12
      go_wp2_with (go_at_call 28; refine (text_Xml.calls a0 e _ HLW.out HE.out).mono ?_; rintro e w1 ⟨rfl, hb1⟩)
      go_ret2
      exact ⟨rfl, hb1⟩
  · rw [if_neg hs] at h
    cases h
end Go.Proofs.YtimffmddegnkjaaDoor.E
