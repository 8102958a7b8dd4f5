/- The contracts of strconv.ParseUint (over the printed inner one) and of entity.number, by hand. -/
import Derived.Test.YtimffmddegnkjaaDoorI
import Derived.Test.YtimffmddegnkjaaDoorE
import Derived.Test.YtimffmddegnkjaaDoorShelf
import Derived.Laws.BytesString
import Derived.Deep.QuietTactic
import Derived.BigQuiet
set_option linter.unusedVariables false
set_option linter.unusedSimpArgs false
namespace Go.Proofs.YtimffmddegnkjaaDoor.E
open Go Go.RowKit Go.Shelf Go.Lib Go.Proofs.YtimffmddegnkjaaDoorW.PrintWords Go.Proofs.YtimffmddegnkjaaDoorW.PrintLast Go.Proofs.YtimffmddegnkjaaDoorW.PrintMore Go.Proofs.YtimffmddegnkjaaDoor.I

set_option maxHeartbeats 4000000 in
set_option maxRecDepth 100000 in
theorem pu_calls (k : Nat) (s : ByteArray) (base bits : Int) (r1 : Int) (r2 : Option Int) (w : World) (hLW : LW w) (hlim : s.size ≤ 281474976710656) (hr : r2 = none ∨ r2 = some 1 ∨ r2 = some 2) (h : strconv_ParseUint.f k s base bits = some (r1, r2)) :
    Calls Tryd.prog 49 #[.string s, .int .i64 base, .int .i64 bits] w fun e w' => (∃ v, e = .returned (.tuple #[.int .u64 r1, v]) ∧ (r2 = none → v = .nilIface) ∧ (r2 ≠ none → ∃ p, v = .iface 86 (.pointer (some ⟨p, 0, none⟩)))) ∧ Below w.heap.size w w' := by
  have HLW := Aside0.mk hLW
  obtain ⟨⟨ev1, he1, hf1⟩, ev2, he2, hf2⟩ := hLW.errs
  clear hLW
  rcases hr with rfl | rfl | rfl
  · have HC : ∀ W, LW W → Calls Tryd.prog 59 #[.string s, .int .i64 base, .int .i64 bits] W fun e w' => e = .returned (.tuple #[.int .u64 r1, .nilIface]) ∧ Below W.heap.size W w' := fun W hl => strconv_ParseUint.calls k s base bits r1 none W hl h
    clear h
    go_enter Tryd.func49, Tryd.ntmps49
    go_wp2_with (go_at_call 59; refine (HC _ HLW.out).mono ?_; rintro e w1 ⟨rfl, hb1⟩)
    go_ret2
    exact ⟨⟨_, rfl, fun _ => rfl, fun h => absurd rfl h⟩, hb1⟩
  · have HC : ∀ W, LW W → Calls Tryd.prog 59 #[.string s, .int .i64 base, .int .i64 bits] W fun e w' => e = .returned (.tuple #[.int .u64 r1, .iface 84 (.int .i64 1)]) ∧ Below W.heap.size W w' := fun W hl => strconv_ParseUint.calls k s base bits r1 (some 1) W hl h
    clear h
    go_enter Tryd.func49, Tryd.ntmps49
    go_wp2_with (first | (go_at_call 59; refine (HC _ HLW.out).mono ?_; rintro e w1 ⟨rfl, hb1⟩) | (go_at_call 60; refine (Tryd.strconv_toError_range _ s base bits ev2 _ hlim ((hb1.cell (World.block_lt_of_cell? w _ he2)).trans he2) hf2).mono ?_; rintro e w2 ⟨p, rfl, hp, _, hb2⟩))
    go_ret2
    exact ⟨⟨_, rfl, fun h => by simp at h, fun _ => ⟨p, rfl⟩⟩, below_step hb1 hb2⟩
  · have HC : ∀ W, LW W → Calls Tryd.prog 59 #[.string s, .int .i64 base, .int .i64 bits] W fun e w' => e = .returned (.tuple #[.int .u64 r1, .iface 84 (.int .i64 2)]) ∧ Below W.heap.size W w' := fun W hl => strconv_ParseUint.calls k s base bits r1 (some 2) W hl h
    clear h
    go_enter Tryd.func49, Tryd.ntmps49
    go_wp2_with (first | (go_at_call 59; refine (HC _ HLW.out).mono ?_; rintro e w1 ⟨rfl, hb1⟩) | (go_at_call 60; refine (Tryd.strconv_toError_syntax _ s base bits ev1 _ hlim ((hb1.cell (World.block_lt_of_cell? w _ he1)).trans he1) hf1).mono ?_; rintro e w2 ⟨p, rfl, hp, _, hb2⟩))
    go_ret2
    exact ⟨⟨_, rfl, fun h => by simp at h, fun _ => ⟨p, rfl⟩⟩, below_step hb1 hb2⟩

theorem bt_first (s : ByteArray) (h : 0 < s.size) : bt s 0 = ((s[0]'h).toNat : Int) := (bt_at s 0 h).symm
def puGood (s : ByteArray) (r : Int × Option Int) : Prop := (r.2 = none ∨ r.2 = some 1 ∨ r.2 = some 2) ∧ 0 ≤ r.1 ∧ r.1 ≤ 2147483647 ∧ (r.2 = none → 0 < s.size)
instance (s : ByteArray) (r : Int × Option Int) : Decidable (puGood s r) := by unfold puGood; exact inferInstance
def entity_number.f (k : Nat) (s : ByteArray) (base most : Int) : Option (Int × Bool) :=
  if s.size ≤ 281474976710656 then (strconv_ParseUint.f k s base 31).bind fun r => if puGood s r then some (r.1, if r.2 = none then (if (s.size : Int) ≤ most then (bt s 0 != 43) else false) else false) else none else none
theorem entity_number.mono : ∀ a0 a1 a2 k, LeO (entity_number.f k a0 a1 a2) (entity_number.f (k + 1) a0 a1 a2) := by
  intro a0 a1 a2 k
  unfold entity_number.f
  split
  · exact LeO.bind (strconv_ParseUint.mono a0 a1 31 k) (fun _ => LeO.refl _)
  · exact LeO.refl _
set_option maxHeartbeats 4000000 in
set_option maxRecDepth 100000 in
theorem entity_number.calls (k : Nat) (a0 : ByteArray) (a1 a2 : Int) (r1 : Int) (r2 : Bool) (w : World) (hLW : LW w) (h : entity_number.f k a0 a1 a2 = some (r1, r2)) :
    Calls Tryd.prog 37 #[.string a0, .int .i64 a1, .int .i64 a2] w fun e w' => e = .returned (.tuple #[.int .i32 r1, .bool r2]) ∧ Below w.heap.size w w' := by
  unfold entity_number.f at h
  have HLW := Aside0.mk hLW
  clear hLW
  by_cases hs : a0.size ≤ 281474976710656
  · rw [if_pos hs] at h
    obtain ⟨⟨n, er⟩, hp, h⟩ := Option.bind_eq_some_iff.mp h
    by_cases hg : puGood a0 (n, er)
    · rw [if_pos hg] at h
      simp only [Option.some.injEq, Prod.mk.injEq] at h
      obtain ⟨rfl, hr⟩ := h
      obtain ⟨g1, g2, g3, g4⟩ := hg
      dsimp only at g1 g2 g3 g4
      have hw : IntKind.i32.wrap n = n := by
        rw [IntKind.wrap_i32]
        omega
      have HC := Aside0.mk (fun W hl => pu_calls k a0 a1 31 n er W hl hs g1 hp)
      clear hp g1
      cases er with
      | none =>
        have h0 := g4 rfl
        rw [if_pos rfl] at hr
        by_cases c1 : (a0.size : Int) ≤ a2
        · rw [if_pos c1] at hr
          subst hr
          have d1 : decide ((a0.size : Int) ≤ a2) = true := decide_eq_true c1
          go_enter Tryd.func37, Tryd.ntmps37
          go_wp2_with (go_at_call 49; refine (HC.out _ HLW.out).mono ?_; rintro e w1 ⟨⟨v, rfl, hv, _⟩, hb1⟩; obtain rfl := hv rfl; clear hv)
          go_quiet (fail)
          go_wp2
          go_ret2
          exact ⟨by rw [bt_first a0 h0]; rfl, pw_below_drewN hb1 nq⟩
        · rw [if_neg c1] at hr
          subst hr
          have d1 : decide ((a0.size : Int) ≤ a2) = false := decide_eq_false c1
          go_enter Tryd.func37, Tryd.ntmps37
          go_wp2_with (go_at_call 49; refine (HC.out _ HLW.out).mono ?_; rintro e w1 ⟨⟨v, rfl, hv, _⟩, hb1⟩; obtain rfl := hv rfl; clear hv)
          go_quiet (fail)
          go_wp2
          go_ret2
          exact ⟨rfl, pw_below_drewN hb1 nq⟩
      | some c =>
        rw [if_neg (by simp)] at hr
        subst hr
        go_enter Tryd.func37, Tryd.ntmps37
        go_wp2_with (go_at_call 49; refine (HC.out _ HLW.out).mono ?_; rintro e w1 ⟨⟨v, rfl, _, hv⟩, hb1⟩; obtain ⟨p, rfl⟩ := hv (by simp))
        go_quiet (fail)
        go_wp2
        go_ret2
        exact ⟨rfl, pw_below_drewN hb1 nq⟩
    · rw [if_neg hg] at h
      cases h
  · rw [if_neg hs] at h
    cases h
end Go.Proofs.YtimffmddegnkjaaDoor.E
