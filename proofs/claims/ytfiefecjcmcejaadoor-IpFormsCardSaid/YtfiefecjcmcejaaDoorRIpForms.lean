/- The law IpForms returns true, and its arguments read as they did, for every whole number of its kind, array of whole numbers, whole number of its kind. Conditions: none but those of the row (entered from a started program; the listed variables read as the program's text lays them, which the card ties to that text). (Written by a program of this session, wip/gen/mkrow.py; Lean checks it.) -/
import Derived.Test.YtfiefecjcmcejaaDoorR0
import Derived.Test.YtfiefecjcmcejaaDoorRows
import Derived.Test.YtfiefecjcmcejaaDoorP15
import Derived.Test.YtfiefecjcmcejaaDoorI9
import Derived.WalkKit
import Derived.ProofKit
import Derived.OpenShut
import Derived.ShutString
import Derived.ChangeOld
import Derived.Below
import Derived.SizedLaws
import Derived.JoinedOf
import Derived.Test.YtfiefecjcmcejaaDoorCards
import Derived.Test.YtfiefecjcmcejaaDoorTie
import Derived.SevenTiedAt
namespace Go.Proofs.YtfiefecjcmcejaaDoor.R
open Go Go.ChangeShapes Go.WideShapes Go.ChangeAt Go.RowKit Go.Proofs.YtfiefecjcmcejaaDoor.E Go.Proofs.YtfiefecjcmcejaaDoorW.PrintWords Go.Proofs.YtfiefecjcmcejaaDoorW.PrintLast
open Go.ChangeMaps (open_string shut_string)
set_option linter.unusedVariables false
set_option maxRecDepth 100000
theorem ipForms_lifted (os : Os) (started : os.Started) (H : Type) (enc : TypeId × Value → H) :
    ReturnsInHanded {} Go.Proofs.Tryd.checked os 5 .any (fun w args => (Rows.ipFormsSpec.pre enc Go.Proofs.Tryd.prog Go.Proofs.Tryd.f5 Rows.ipFormsRow.domain false w args ∧ laidMetH Go.Proofs.Tryd.prog listed w) ∧ sizedMet enc Go.Proofs.Tryd.prog Go.Proofs.Tryd.f5 (OpenSpec.ofChange Rows.ipFormsSpec) false w args)
      (Rows.ipFormsSpec.post enc Go.Proofs.Tryd.prog Go.Proofs.Tryd.f5 false true false false) := by
  refine handed_and (C := Go.Proofs.Tryd.checked) (X := fun w _ => laidMetH Go.Proofs.Tryd.prog listed w) (fun _ _ _ hh h => h.of_heap hh) own started (by kernel_rfl) Go.Proofs.Tryd.func5
    (ChangeSpec.witness_at (enc := enc) (C := Go.Proofs.Tryd.checked) (os := os) (X := fun w _ => laidMetH Go.Proofs.Tryd.prog listed w) false (laidWorld os) #[.int .u32 0, .agg #[.int .u8 0, .int .u8 0, .int .u8 0, .int .u8 0], .int .u8 0] 8 rfl (by kernel_rfl) (by kernel_rfl) (by kernel_rfl) (by kernel_rfl) (by kernel_rfl) (laidH_iff.2 (laid_met os _))) ?_
  intro W base args ds gs before hval0 hW _ hsz0 hL hsh _
  have hT : LW W := lw_of_laid (laidH_iff.1 hL) hsh
  have hval : ∀ (j : Nat) t v, Go.Proofs.Tryd.f5.params[j]? = some t → args[j]? = some v → Value.okWide Go.Proofs.Tryd.prog W .any base t v := hval0
  have hW' := hW
  obtain ⟨p, q, hA0, hV0, rfl, hfz, hnd⟩ := hW
  have hA : DataW.TrodAll enc Go.Proofs.Tryd.prog W 0 (fun _ => true) true Go.Proofs.Tryd.f5.params.toList args.toList ds p := hA0
  rw [Go.Proofs.Tryd.params5] at hA hval
  obtain ⟨v0, vs0, d0, ds0, p0, q0, hargs, rfl, rfl, h0, r0⟩ := trodAll_cons hA
  obtain ⟨v1, vs1, d1, ds1, p1, q1, rfl, rfl, rfl, h1, r1⟩ := trodAll_cons r0
  obtain ⟨v2, vs2, d2, ds2, p2, q2, rfl, rfl, rfl, h2, r2⟩ := trodAll_cons r1
  obtain ⟨rfl, rfl, rfl⟩ := trodAll_nil r2
  obtain rfl : args = #[v0, v1, v2] := by cases args; simp_all
  obtain ⟨rfl, rfl⟩ := trodVars_none hV0
  obtain ⟨a0, rfl, rfl, rfl, w0⟩ := open_int Go.Proofs.Tryd.underlying37 (hval 0 37 v0 rfl rfl) h0
  obtain ⟨a1_0, a1_1, a1_2, a1_3, rfl, rfl, rfl, w1_0, w1_1, w1_2, w1_3⟩ := open_arr4 Go.Proofs.Tryd.underlying38 Go.Proofs.Tryd.underlying5 (show Go.Proofs.Tryd.prog.cellsOf 5 = 1 by kernel_rfl) (show Go.Proofs.Tryd.prog.cellsOf 38 = 4 by kernel_rfl) (hval 1 38 v1 rfl rfl) h1
  obtain ⟨a2, rfl, rfl, rfl, w2⟩ := open_int Go.Proofs.Tryd.underlying5 (hval 2 5 v2 rfl rfl) h2
  clear hA0 hV0 hval0
  obtain ⟨k, hk⟩ := Q.IpForms_wf a0 a1_0 a1_1 a1_2 a1_3 a2 w0 w1_0 w1_1 w1_2 w1_3 w2
  refine (P.lanternlaw05_IpForms.calls k a0 a1_0 a1_1 a1_2 a1_3 a2 true W hT hk).mono fun e W' ⟨he, bel⟩ => ?_
  subst he
  exact ⟨_, rfl, _, _, _, [], _, [], hW', trodAll_mk1 (shut_bool Go.Proofs.Tryd.underlying4 _), (trodAll_cons_mk (shut_int Go.Proofs.Tryd.underlying37 w0) (trodAll_cons_mk (shut_arr4 Go.Proofs.Tryd.underlying38 Go.Proofs.Tryd.underlying5 (show Go.Proofs.Tryd.prog.cellsOf 5 = 1 by kernel_rfl) (show Go.Proofs.Tryd.prog.cellsOf 38 = 4 by kernel_rfl) w1_0 w1_1 w1_2 w1_3) (trodAll_cons_mk (shut_int Go.Proofs.Tryd.underlying5 w2) trodAll_mk0))), rfl, bel.frame _, fun h => by cases h⟩
theorem ipForms_holds : Rows.IpFormsSaid :=
  OpenClaim.holds_of_wide 5 Go.Proofs.Tryd.f5 rfl rfl rfl rfl rfl rfl rfl ⟨rfl, rfl, rfl, rfl, rfl⟩ rfl rfl rfl rfl rfl (by kernel_rfl) Go.Proofs.Tryd.func5 (by kernel_rfl)
    (of_decide_eq_true (by kernel_rfl)) (by unfold Func.isWrapper; first | (rw [if_pos (by decide +kernel)]; kernel_rfl) | (rw [if_neg (by decide +kernel)]; exact ⟨rfl, rfl⟩))
    (fun os started H enc _ => ipForms_lifted os started H enc)
/-- The tied card. -/
theorem ipForms_card : Rows.IpFormsCardSaid :=
  Claim7.holds_tied_plain_at .later [] [.data, .data, .data, .data, .pinned] true (true, "ff00d0983233b358f66320dd6a6fe7bea2020776972e671f694d713c618db98c") false
    ipForms_holds (fun _ h => by cases h) (by kernel_rfl) (fun _ h => by cases h) ipForms_row_tie rfl ⟨rfl, rfl⟩ (by kernel_rfl) rfl
    (fun f fn hf hfn => by
      obtain rfl : f = 5 := Option.some.inj ((show Go.Proofs.Tryd.prog.funcNamed "lantern/lanternlaw05.IpForms" = some 5 by kernel_rfl).symm.trans hf) |>.symm
      obtain rfl : fn = Go.Proofs.Tryd.f5 := (Option.some.inj (Go.Proofs.Tryd.func5.symm.trans hfn)).symm
      exact ⟨by kernel_rfl, fun j t ht => by
        rw [Go.Proofs.Tryd.params5] at ht
        have hm : t ∈ [37, 38, 5] := by simpa using Array.mem_of_getElem? ht
        have hall : ([37, 38, 5].all fun u => !Go.Proofs.Tryd.prog.wantsStandIn u) = true := by kernel_rfl
        exact (show Go.Proofs.Tryd.prog.wantsStandIn t = false by simpa using List.all_eq_true.1 hall t hm)⟩)
    (by kernel_rfl)
#print axioms ipForms_card
end Go.Proofs.YtfiefecjcmcejaaDoor.R
