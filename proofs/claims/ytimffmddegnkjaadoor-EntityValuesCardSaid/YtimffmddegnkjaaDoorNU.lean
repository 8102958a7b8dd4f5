/- The contracts of entity.Unescape and entity.Escape, by hand: a builder of their own is written piece by piece. -/
import Derived.Test.YtimffmddegnkjaaDoorJ
import Derived.Test.YtimffmddegnkjaaDoorE2
import Derived.Test.YtimffmddegnkjaaDoorShelf
import Derived.Test.YtimffmddegnkjaaDoorShelf3
import Derived.Shelf.Unicode.DecodeSlow
import Derived.Lib.OthersKept
import Derived.LoopTactic
import Derived.Deep.LoopGhost
set_option linter.unusedVariables false
set_option linter.unusedSimpArgs false
namespace Go.Proofs.YtimffmddegnkjaaDoor.E
open Go Go.RowKit Go.Shelf Go.Lib Go.Proofs.YtimffmddegnkjaaDoorW.PrintWords Go.Proofs.YtimffmddegnkjaaDoorW.PrintLast Go.Proofs.YtimffmddegnkjaaDoorW.PrintMore Go.Proofs.YtimffmddegnkjaaDoor.I Go.Proofs.YtimffmddegnkjaaDoor.J

theorem ownsRowF_old {w w' : World} {base : Nat} {e : TypeId} {size n : Nat} {v : Value} {xs : List Value} (h : w.ownsRowF base e size v n xs) (hb : Below w.heap.size w w') : w'.ownsRowF base e size v n xs := by
  refine ⟨h.1, ?_⟩
  rcases h.2 with hn | ⟨g, cap, cur, fz, rfl, hg0, hgg, rest⟩
  · exact .inl hn
  · exact .inr ⟨g, cap, cur, fz, rfl, hg0, (hb.block g (Array.getElem?_eq_some_iff.1 hgg).1).trans hgg, rest⟩
theorem isBuilderF_old {T e : TypeId} {B b : Nat} {bs : List Value} {w w' : World} (h : Lib.IsBuilderF T e B b bs w) (hb : Below w.heap.size w w') : Lib.IsBuilderF T e B b bs w' := by
  have go : ∀ p, Lib.BuilderAtF T e B b p bs w → Lib.BuilderAtF T e B b p bs w' := by
    rintro p ⟨hB, v, h1, h2, h3⟩
    exact ⟨hB, v, (hb.block b (Array.getElem?_eq_some_iff.1 h1).1).trans h1, ownsRowF_old h2 hb, h3⟩
  exact h.elim (fun x => .inl (go _ x)) (fun x => .inr (go _ x))
theorem LeO.ite' {α : Type} {c : Prop} [Decidable c] {a b a' b' : Option α} (h1 : LeO a a') (h2 : LeO b b') : LeO (if c then a else b) (if c then a' else b') := by
  split <;> assumption

def ampT : ByteArray := ⟨#[38]⟩
/-- What Unescape's loop makes of the rest of a text, what is written already at hand: none: it can't be told (or the rounds are out); some none: it can't be turned. -/
def unescF (k : Nat) : Nat → ByteArray → List UInt8 → Option (Option (List UInt8))
  | 0, _, _ => none
  | m + 1, rest, acc => (strings_Cut.f rest ampT).bind fun c =>
      if acc.length + c.1.size ≤ 140737488355328 then
        (if c.2.2 = true then
          (if Lib.indexByte c.2.1.data.toList 59 < 0 then some none else
            (if Lib.indexByte c.2.1.data.toList 59 + 1 ≤ (c.2.1.size : Int) then
              (if c.2.1.size ≤ 9223372036854775806 then
                ((entity_named.f k (c.2.1.extract 0 (Lib.indexByte c.2.1.data.toList 59).toNat)).bind fun r =>
                  (if r.2 = true then
                    (if (acc ++ c.1.data.toList).length + r.1.size ≤ 140737488355328 then unescF k m (c.2.1.extract (Lib.indexByte c.2.1.data.toList 59 + 1).toNat c.2.1.size) (acc ++ c.1.data.toList ++ r.1.data.toList) else none)
                  else some none)) else none) else none))
        else some (some (acc ++ c.1.data.toList)))
      else none
theorem unescF_mono (k : Nat) : ∀ m rest acc, LeO (unescF k m rest acc) (unescF (k + 1) m rest acc)
  | 0, rest, acc => LeO.refl _
  | m + 1, rest, acc => by
    unfold unescF
    refine LeO.bind (LeO.refl _) (fun c => ?_)
    refine LeO.ite' (LeO.ite' (LeO.ite' (LeO.refl _) (LeO.ite' (LeO.ite' (LeO.bind (entity_named.mono _ k) (fun r => LeO.ite' (LeO.ite' (unescF_mono k m _ _) (LeO.refl _)) (LeO.refl _))) (LeO.refl _)) (LeO.refl _))) (LeO.refl _)) (LeO.refl _)
def unescSays : Option (List UInt8) → ByteArray × Int
  | none => (⟨#[]⟩, 5)
  | some l => (⟨l.toArray⟩, 0)
def entity_Unescape.f (k : Nat) (s : ByteArray) : Option (ByteArray × Int) := (text_Check.f s).bind fun e => if e = 0 then (unescF k (s.size + 1) s []).bind fun o => some (unescSays o) else some (⟨#[]⟩, 5)
theorem entity_Unescape.mono : ∀ a0 k, LeO (entity_Unescape.f k a0) (entity_Unescape.f (k + 1) a0) := by
  intro a0 k
  unfold entity_Unescape.f
  exact LeO.bind (LeO.refl _) (fun e => LeO.ite' (LeO.bind (unescF_mono k _ _ _) (fun _ => LeO.refl _)) (LeO.refl _))
set_option maxHeartbeats 8000000 in
set_option maxRecDepth 100000 in
theorem entity_Unescape.calls (k : Nat) (a0 : ByteArray) (r1 : ByteArray) (r2 : Int) (w : World) (hLW : LW w) (h : entity_Unescape.f k a0 = some (r1, r2)) :
    Calls Tryd.prog 8 #[.string a0] w fun e w' => e = .returned (.tuple #[.string r1, .int .i64 r2]) ∧ Below w.heap.size w w' := by
  obtain ⟨e, he, hr⟩ := Option.bind_eq_some_iff.mp h
  clear h
  have HLW := Aside0.mk hLW
  have HE := Aside0.mk he
  clear hLW he
  by_cases c1 : e = 0
  · subst c1
    rw [if_pos rfl] at hr
    obtain ⟨o, ho, hr⟩ := Option.bind_eq_some_iff.mp hr
    have hrr := Option.some.inj hr
    clear hr
    have HO := Aside0.mk ho
    have HR := Aside0.mk hrr
    clear ho hrr
    go_enter Tryd.func8, Tryd.ntmps8
    go_wp2_with (go_at_call 18; refine (text_Check.calls a0 0 _ HLW.out HE.out).mono ?_; rintro e w1 ⟨rfl, hb1⟩)
    have HB1 := Aside0.mk hb1
    clear hb1
    have HF := Aside0.mk (Lib.IsBuilderF.of (Lib.fresh_isBuilder 37 5 w1))
    have HB2 := Aside0.mk (below_alloc HB1.out (.cells #[.pointer none, .slice none 0 0] 37))
    generalize hb0 : w1.heap.size = b0 at *
    have HW0 := Aside0.mk (show w.heap.size ≤ b0 by rw [← hb0]; exact HB1.out.size)
    go_loopg [0] (a0.size + 1) (fun kq v0 w' => ∃ (rest : ByteArray) (acc : List UInt8), v0 = .string rest ∧ Aside0 (unescF k kq rest acc = some o) ∧ Aside0 (Lib.IsBuilderF 37 5 b0 b0 (Lib.byteCells acc) w') ∧ Aside0 (Below w.heap.size w w') ∧ Aside0 (b0 ≤ w'.heap.size))
    case atStart => exact ⟨a0, [], rfl, HO, HF, HB2, ⟨by simp; omega⟩⟩
    case round =>
      obtain ⟨rest, acc, rfl, HU, HBUF, HB, HSZ⟩ := hrel
      cases gk with
      | zero => cases HU.out
      | succ k1 =>
        have hu := HU.out
        unfold unescF at hu
        obtain ⟨⟨hd, tl, mr⟩, hcut, hu⟩ := Option.bind_eq_some_iff.mp hu
        dsimp only at hu
        have HCUT := Aside0.mk hcut
        clear hcut HU
        by_cases l1 : acc.length + hd.size ≤ 140737488355328
        · rw [if_pos l1] at hu
          have L1 := Aside0.mk l1
          clear l1
          cases mr with
          | false =>
            rw [if_neg (by simp)] at hu
            obtain rfl := Option.some.inj hu
            clear hu
            go_wp2_with (first | (go_at_call 19; refine (strings_Cut.calls rest ampT hd tl false _ (LW.below HLW.out HB.out) HCUT.out).mono ?_; rintro e w3 ⟨rfl, hb3⟩) | (go_at_call 20; refine (Tryd.Builder_WriteString_k b0 b0 (Lib.byteCells acc) hd _ (isBuilderF_old HBUF.out hb3) (by rw [Lib.byteCells_length]; exact L1.out) (Nat.le_trans HSZ.out hb3.size)).mono ?_; rintro e w4 ⟨rfl, hB4, hb4, _⟩) | (go_at_call 21; refine (Tryd.Builder_String_any_k b0 b0 (acc ++ hd.data.toList) _ (by rw [Lib.byteCells_append]; exact Or.inr hB4) (Nat.le_trans HSZ.out (Nat.le_trans hb3.size hb4.size))).mono ?_; rintro e w5 ⟨rfl, _, hb5, _⟩))
            go_ret2
            have e1 := HR.out
            simp only [unescSays, Prod.mk.injEq] at e1
            obtain ⟨rfl, rfl⟩ := e1
            exact ⟨rfl, (below_step HB.out hb3).trans ((hb4.trans hb5).mono HW0.out)⟩
          | true =>
            rw [if_pos rfl] at hu
            by_cases c2 : Lib.indexByte tl.data.toList 59 < 0
            · rw [if_pos c2] at hu
              obtain rfl := Option.some.inj hu
              clear hu
              have d2 : decide (Lib.indexByte tl.data.toList 59 < 0) = true := decide_eq_true c2
              have hix := fun W hl => strings_IndexByte.calls tl 59 (Lib.indexByte tl.data.toList 59) W hl rfl
              generalize Lib.indexByte tl.data.toList 59 = ix at *
              go_wp2_with (first | (go_at_call 19; refine (strings_Cut.calls rest ampT hd tl true _ (LW.below HLW.out HB.out) HCUT.out).mono ?_; rintro e w3 ⟨rfl, hb3⟩) | (go_at_call 20; refine (Tryd.Builder_WriteString_k b0 b0 (Lib.byteCells acc) hd _ (isBuilderF_old HBUF.out hb3) (by rw [Lib.byteCells_length]; exact L1.out) (Nat.le_trans HSZ.out hb3.size)).mono ?_; rintro e w4 ⟨rfl, hB4, hb4, _⟩) | (go_at_call 22; refine (hix _ (LW.below HLW.out ((below_step HB.out hb3).trans (hb4.mono HW0.out)))).mono ?_; rintro e w5 ⟨rfl, hb5⟩))
              go_ret2
              have e1 := HR.out
              simp only [unescSays, Prod.mk.injEq] at e1
              obtain ⟨rfl, rfl⟩ := e1
              exact ⟨rfl, below_step ((below_step HB.out hb3).trans (hb4.mono HW0.out)) hb5⟩
            · rw [if_neg c2] at hu
              by_cases c3 : Lib.indexByte tl.data.toList 59 + 1 ≤ (tl.size : Int)
              · rw [if_pos c3] at hu
                by_cases c4 : tl.size ≤ 9223372036854775806
                · rw [if_pos c4] at hu
                  obtain ⟨⟨nm, ok⟩, hnm, hu⟩ := Option.bind_eq_some_iff.mp hu
                  dsimp only at hu
                  have HNM := Aside0.mk hnm
                  clear hnm
                  have hix := fun W hl => strings_IndexByte.calls tl 59 (Lib.indexByte tl.data.toList 59) W hl rfl
                  have d2 : decide (Lib.indexByte tl.data.toList 59 < 0) = false := decide_eq_false c2
                  generalize Lib.indexByte tl.data.toList 59 = ix at *
                  have i0 : 0 ≤ ix := by omega
                  have i1 : ix ≤ (tl.size : Int) := by omega
                  cases ok with
                  | false =>
                    rw [if_neg (by simp)] at hu
                    obtain rfl := Option.some.inj hu
                    clear hu
                    go_wp2_with (first | (go_at_call 19; refine (strings_Cut.calls rest ampT hd tl true _ (LW.below HLW.out HB.out) HCUT.out).mono ?_; rintro e w3 ⟨rfl, hb3⟩) | (go_at_call 20; refine (Tryd.Builder_WriteString_k b0 b0 (Lib.byteCells acc) hd _ (isBuilderF_old HBUF.out hb3) (by rw [Lib.byteCells_length]; exact L1.out) (Nat.le_trans HSZ.out hb3.size)).mono ?_; rintro e w4 ⟨rfl, hB4, hb4, _⟩) | (go_at_call 22; refine (hix _ (LW.below HLW.out ((below_step HB.out hb3).trans (hb4.mono HW0.out)))).mono ?_; rintro e w5 ⟨rfl, hb5⟩) | (go_at_call 23; refine (entity_named.calls k _ nm false _ (LW.below HLW.out (below_step ((below_step HB.out hb3).trans (hb4.mono HW0.out)) hb5)) HNM.out).mono ?_; rintro e w6 ⟨rfl, hb6⟩))
                    go_ret2
                    have e1 := HR.out
                    simp only [unescSays, Prod.mk.injEq] at e1
                    obtain ⟨rfl, rfl⟩ := e1
                    exact ⟨rfl, below_step (below_step ((below_step HB.out hb3).trans (hb4.mono HW0.out)) hb5) hb6⟩
                  | true =>
                    rw [if_pos rfl] at hu
                    by_cases l2 : (acc ++ hd.data.toList).length + nm.size ≤ 140737488355328
                    · rw [if_pos l2] at hu
                      have L2 := Aside0.mk l2
                      have HU2 := Aside0.mk hu
                      clear l2 hu
                      have hwr : wrap64 (ix + 1) = ix + 1 := by unfold wrap64; omega
                      go_wp2_with (first | (go_at_call 19; refine (strings_Cut.calls rest ampT hd tl true _ (LW.below HLW.out HB.out) HCUT.out).mono ?_; rintro e w3 ⟨rfl, hb3⟩) | (go_at_call 20; refine (Tryd.Builder_WriteString_k b0 b0 (Lib.byteCells (acc ++ hd.data.toList)) nm _ (isBuilderF_old (isBuilderF_old (by rw [Lib.byteCells_append]; exact Or.inr hB4) hb5) hb6) (by rw [Lib.byteCells_length]; exact L2.out) (Nat.le_trans (Nat.le_trans (Nat.le_trans (Nat.le_trans HSZ.out hb3.size) hb4.size) hb5.size) hb6.size)).mono ?_; rintro e w7 ⟨rfl, hB7, hb7, _⟩) | (go_at_call 20; refine (Tryd.Builder_WriteString_k b0 b0 (Lib.byteCells acc) hd _ (isBuilderF_old HBUF.out hb3) (by rw [Lib.byteCells_length]; exact L1.out) (Nat.le_trans HSZ.out hb3.size)).mono ?_; rintro e w4 ⟨rfl, hB4, hb4, _⟩) | (go_at_call 22; refine (hix _ (LW.below HLW.out ((below_step HB.out hb3).trans (hb4.mono HW0.out)))).mono ?_; rintro e w5 ⟨rfl, hb5⟩) | (go_at_call 23; refine (entity_named.calls k _ nm true _ (LW.below HLW.out (below_step ((below_step HB.out hb3).trans (hb4.mono HW0.out)) hb5)) HNM.out).mono ?_; rintro e w6 ⟨rfl, hb6⟩))
                      go_roundg k1
                      case rel =>
                        refine ⟨_, acc ++ hd.data.toList ++ nm.data.toList, rfl, HU2, ⟨?_⟩, ⟨(below_step (below_step ((below_step HB.out hb3).trans (hb4.mono HW0.out)) hb5) hb6).trans (hb7.mono HW0.out)⟩, ⟨?_⟩⟩
                        · rw [Lib.byteCells_append]
                          exact Or.inr hB7
                        · exact Nat.le_trans (Nat.le_trans (Nat.le_trans (Nat.le_trans (Nat.le_trans HSZ.out hb3.size) hb4.size) hb5.size) hb6.size) hb7.size
                      case measure => omega
                    · rw [if_neg l2] at hu
                      cases hu
                · rw [if_neg c4] at hu
                  cases hu
              · rw [if_neg c3] at hu
                cases hu
        · rw [if_neg l1] at hu
          cases hu
  · rw [if_neg c1] at hr
    have hrr := Option.some.inj hr
    clear hr
    simp only [Prod.mk.injEq] at hrr
    obtain ⟨rfl, rfl⟩ := hrr
    have d1 : (e != 0) = true := bne_iff_ne.mpr c1
    go_enter Tryd.func8, Tryd.ntmps8
    go_wp2_with (go_at_call 18; refine (text_Check.calls a0 e _ HLW.out HE.out).mono ?_; rintro e w1 ⟨rfl, hb1⟩)
    go_ret2
    exact ⟨rfl, hb1⟩
end Go.Proofs.YtimffmddegnkjaaDoor.E
