/- The law DateZones returns true, and its arguments read as they did, for every whole number of its kind, whole number of its kind, whole number of its kind. Conditions: none but those of the row (entered from a started program; the listed variables read as the program's text lays them, which the card ties to that text). (Written by a program of this session, wip/gen/mkrow.py; Lean checks it.) -/
import Derived.Test.YtlbgphddhjnlcaaGreatDoorR0
import Derived.Test.YtlbgphddhjnlcaaGreatDoorRows
import Derived.Test.YtlbgphddhjnlcaaGreatDoorQ
import Derived.Test.YtlbgphddhjnlcaaGreatDoorA7
import Derived.WalkKit
import Derived.ProofKit
import Derived.OpenShut
import Derived.ShutString
import Derived.ChangeOld
import Derived.Below
import Derived.SizedLaws
import Derived.JoinedOf
import Derived.Test.YtlbgphddhjnlcaaGreatDoorCards
import Derived.Test.YtlbgphddhjnlcaaGreatDoorTie
import Derived.SevenTiedAt
namespace Go.Proofs.YtlbgphddhjnlcaaGreatDoor.R
open Go Go.ChangeShapes Go.WideShapes Go.ChangeAt Go.RowKit Go.Proofs.YtlbgphddhjnlcaaGreatDoor.E Go.Proofs.YtlbgphddhjnlcaaGreatDoorW.PrintWords Go.Proofs.YtlbgphddhjnlcaaGreatDoorW.PrintLast
open Go.ChangeMaps (open_string shut_string)
set_option linter.unusedVariables false
set_option maxRecDepth 100000
theorem dateZones_lifted (os : Os) (started : os.Started) (H : Type) (enc : TypeId × Value → H) :
    ReturnsInHanded {} Go.Proofs.Tryz.checked os 6 .any (fun w args => (Rows.dateZonesSpec.pre enc Go.Proofs.Tryz.prog Go.Proofs.Tryz.f6 Rows.dateZonesRow.domain false w args ∧ laidMetH Go.Proofs.Tryz.prog listed w) ∧ sizedMet enc Go.Proofs.Tryz.prog Go.Proofs.Tryz.f6 (OpenSpec.ofChange Rows.dateZonesSpec) false w args)
      (Rows.dateZonesSpec.post enc Go.Proofs.Tryz.prog Go.Proofs.Tryz.f6 false true false false) := by
  refine handed_and (C := Go.Proofs.Tryz.checked) (X := fun w _ => laidMetH Go.Proofs.Tryz.prog listed w) (fun _ _ _ hh h => h.of_heap hh) own started (by kernel_rfl) Go.Proofs.Tryz.func6
    (ChangeSpec.witness_at (enc := enc) (C := Go.Proofs.Tryz.checked) (os := os) (X := fun w _ => laidMetH Go.Proofs.Tryz.prog listed w) false (laidWorld os) #[.int .i64 0, .int .u32 0, .int .u16 0] 8 rfl (by kernel_rfl) (by kernel_rfl) (by kernel_rfl) (by kernel_rfl) (by kernel_rfl) (laidH_iff.2 (laid_met os _))) ?_
  intro W base args ds gs before hval0 hW _ hsz0 hL hsh _
  have hT : LW W := lw_of_laid (laidH_iff.1 hL) hsh
  have hval : ∀ (j : Nat) t v, Go.Proofs.Tryz.f6.params[j]? = some t → args[j]? = some v → Value.okWide Go.Proofs.Tryz.prog W .any base t v := hval0
  have hW' := hW
  obtain ⟨p, q, hA0, hV0, rfl, hfz, hnd⟩ := hW
  have hA : DataW.TrodAll enc Go.Proofs.Tryz.prog W 0 (fun _ => true) true Go.Proofs.Tryz.f6.params.toList args.toList ds p := hA0
  rw [Go.Proofs.Tryz.params6] at hA hval
  obtain ⟨v0, vs0, d0, ds0, p0, q0, hargs, rfl, rfl, h0, r0⟩ := trodAll_cons hA
  obtain ⟨v1, vs1, d1, ds1, p1, q1, rfl, rfl, rfl, h1, r1⟩ := trodAll_cons r0
  obtain ⟨v2, vs2, d2, ds2, p2, q2, rfl, rfl, rfl, h2, r2⟩ := trodAll_cons r1
  obtain ⟨rfl, rfl, rfl⟩ := trodAll_nil r2
  obtain rfl : args = #[v0, v1, v2] := by cases args; simp_all
  obtain ⟨rfl, rfl⟩ := trodVars_none hV0
  obtain ⟨a0, rfl, rfl, rfl, w0⟩ := open_int Go.Proofs.Tryz.underlying3 (hval 0 3 v0 rfl rfl) h0
  obtain ⟨a1, rfl, rfl, rfl, w1⟩ := open_int Go.Proofs.Tryz.underlying39 (hval 1 39 v1 rfl rfl) h1
  obtain ⟨a2, rfl, rfl, rfl, w2⟩ := open_int Go.Proofs.Tryz.underlying40 (hval 2 40 v2 rfl rfl) h2
  clear hA0 hV0 hval0
  obtain ⟨k, hk⟩ := Q.DateZones a0 a1 a2 w0 w1 w2
  refine (Q.lanternlaw14_DateZones.calls k a0 a1 a2 true W hT hk).mono fun e W' ⟨he, bel⟩ => ?_
  subst he
  exact ⟨_, rfl, _, _, _, [], _, [], hW', trodAll_mk1 (shut_bool Go.Proofs.Tryz.underlying4 _), (trodAll_cons_mk (shut_int Go.Proofs.Tryz.underlying3 w0) (trodAll_cons_mk (shut_int Go.Proofs.Tryz.underlying39 w1) (trodAll_cons_mk (shut_int Go.Proofs.Tryz.underlying40 w2) trodAll_mk0))), rfl, bel.frame _, fun h => by cases h⟩
theorem dateZones_holds : Rows.DateZonesSaid :=
  OpenClaim.holds_of_wide 6 Go.Proofs.Tryz.f6 rfl rfl rfl rfl rfl rfl rfl ⟨rfl, rfl, rfl, rfl, rfl⟩ rfl rfl rfl rfl rfl (by kernel_rfl) Go.Proofs.Tryz.func6 (by kernel_rfl)
    (of_decide_eq_true (by kernel_rfl)) (by unfold Func.isWrapper; first | (rw [if_pos (by decide +kernel)]; kernel_rfl) | (rw [if_neg (by decide +kernel)]; exact ⟨rfl, rfl⟩))
    (fun os started H enc _ => dateZones_lifted os started H enc)
/-- The tied card. -/
theorem dateZones_card : Rows.DateZonesCardSaid :=
  Claim7.holds_tied_plain_at .later [] [.data, .data, .data, .data, .sentinel, .sentinel, .pinned] true (true, "aac02c423a891430811324f2006df53f28fdcc6cfabd70ba9a9ea5f867430494") true
    dateZones_holds (fun _ h => by cases h) (by kernel_rfl) (fun _ h => by cases h) dateZones_row_tie rfl ⟨rfl, rfl⟩ (by kernel_rfl) rfl
    (fun f fn hf hfn => by
      obtain rfl : f = 6 := Option.some.inj ((show Go.Proofs.Tryz.prog.funcNamed "lantern/lanternlaw14.DateZones" = some 6 by kernel_rfl).symm.trans hf) |>.symm
      obtain rfl : fn = Go.Proofs.Tryz.f6 := (Option.some.inj (Go.Proofs.Tryz.func6.symm.trans hfn)).symm
      exact ⟨by kernel_rfl, fun j t ht => by
        rw [Go.Proofs.Tryz.params6] at ht
        have hm : t ∈ [3, 39, 40] := by simpa using Array.mem_of_getElem? ht
        have hall : ([3, 39, 40].all fun u => !Go.Proofs.Tryz.prog.wantsStandIn u) = true := by kernel_rfl
        exact (show Go.Proofs.Tryz.prog.wantsStandIn t = false by simpa using List.all_eq_true.1 hall t hm)⟩)
    (by kernel_rfl)
#print axioms dateZones_card
end Go.Proofs.YtlbgphddhjnlcaaGreatDoor.R
