/- The law HeaderPrints returns true, and its arguments read as they did, for every slice (nil too), slice of whole numbers (nil too). Conditions: none but those of the row (entered from a started program; the listed variables read as the program's text lays them, which the card ties to that text). (Written by a program of this session, wip/gen/mkrow.py; Lean checks it.) -/
import Derived.Test.YtfjfpgihgaiacaaDoorHR
import Derived.Test.YtfjfpgihgaiacaaDoorZ
import Derived.Test.YtfjfpgihgaiacaaDoorR2
import Derived.Test.YtfjfpgihgaiacaaDoorRows
import Derived.WalkKit
import Derived.ProofKit
import Derived.OpenShut
import Derived.ShutString
import Derived.ChangeOld
import Derived.Below
import Derived.SizedLaws
import Derived.JoinedOf
import Derived.Test.YtfjfpgihgaiacaaDoorCards
import Derived.Test.YtfjfpgihgaiacaaDoorTie
import Derived.SevenTiedAt
/- Headers printed and read back: the law HeaderPrints. -/
set_option linter.unusedSimpArgs false
set_option linter.unusedVariables false
namespace Go.Proofs.YtfjfpgihgaiacaaDoor.Q
open Go Go.RowKit Go.Lib Go.Proofs.YtfjfpgihgaiacaaDoorW.PrintWords Go.Proofs.YtfjfpgihgaiacaaDoorB Go.Proofs.YtfjfpgihgaiacaaDoor.E Go.Proofs.YtfjfpgihgaiacaaDoor.P Go.Proofs.YtfjfpgihgaiacaaDoor.U Go.Proofs.YtfjfpgihgaiacaaDoor.Z

theorem full_parse (l : List S39) (hm : l.all mayH = true) (hl : l.length ≤ 64) (h8 : (headsB l ++ [13, 10]).length ≤ 8192) (more : List UInt8) :
    ∀ (d f i : Nat), i + d = l.length → (headsB l ++ [13, 10] ++ more).length < (headsB (l.take i)).length + f →
      parseM (headsB l ++ [13, 10] ++ more) f (headsB (l.take i)).length (l.take i) = (l, ((headsB l ++ [13, 10]).length : Int), 0)
  | d, 0, i, hd, hf => by
    have e : headsB l = headsB (l.take i) ++ headsB (l.drop i) := by
      conv => lhs; rw [← List.take_append_drop i l]
      rw [headsB, headsB, headsB, List.flatMap_append]
    have := congrArg List.length e
    rw [List.length_append] at this
    simp only [List.length_append] at hf
    omega
  | d, f + 1, i, hd, hf => by
    have hdrop : (headsB l ++ [13, 10] ++ more).drop (headsB (l.take i)).length = headsB (l.drop i) ++ [13, 10] ++ more := by
      have e : headsB l = headsB (l.take i) ++ headsB (l.drop i) := by
        conv => lhs; rw [← List.take_append_drop i l]
        rw [headsB, headsB, headsB, List.flatMap_append]
      rw [e, List.append_assoc, List.append_assoc, List.drop_left, List.append_assoc]
    rw [parseM, hdrop]
    by_cases h : i < l.length
    · obtain ⟨d, rfl⟩ : ∃ j, d = j + 1 := ⟨d - 1, by omega⟩
      have hmi : mayH l[i] = true := List.all_eq_true.1 hm _ (List.getElem_mem h)
      have hst : headsB (l.drop i) = headB l[i] ++ headsB (l.drop (i + 1)) := by
        rw [List.drop_eq_getElem_cons h, headsB, headsB, List.flatMap_cons]
      have hst2 : headsB (l.take (i + 1)) = headsB (l.take i) ++ headB l[i] := by
        have := headsB_step l i h
        rw [rd39 l i h] at this
        exact this
      have hlen2 := congrArg List.length hst2
      rw [List.length_append] at hlen2
      have hhl : (headB l[i]).length = (lineB l[i] ++ [13]).length + 1 := by rw [headB_line, List.length_append]; rfl
      have hpl : (headsB (l.take (i + 1))).length ≤ (headsB l).length := by
        have e : headsB l = headsB (l.take (i + 1)) ++ headsB (l.drop (i + 1)) := by
          conv => lhs; rw [← List.take_append_drop (i + 1) l]
          rw [headsB, headsB, headsB, List.flatMap_append]
        have := congrArg List.length e
        rw [List.length_append] at this
        omega
      have hP : (headsB l ++ [13, 10]).length = (headsB l).length + 2 := by rw [List.length_append]; rfl
      have ht : headsB (l.drop i) ++ [13, 10] ++ more = (lineB l[i] ++ [13]) ++ 10 :: (headsB (l.drop (i + 1)) ++ [13, 10] ++ more) := by
        rw [hst, headB_line]
        simp
      rw [ht, splitC_of 10 _ _ (line_clean hmi)]
      simp only
      rw [if_neg (by omega), chomp_line, if_neg (by unfold lineB; simp), headL_line hmi]
      simp only
      have htl : (l.take i).length = i := by rw [List.length_take]; omega
      rw [if_neg (by omega)]
      have hp2 : (headsB (l.take i)).length + (lineB l[i] ++ [13]).length + 1 = (headsB (l.take (i + 1))).length := by omega
      rw [hp2, ← List.take_succ_eq_append_getElem h]
      exact full_parse l hm hl h8 more d f (i + 1) (by omega) (by omega)
    · obtain rfl : i = l.length := by omega
      rw [List.take_length, List.drop_length]
      have e0 : headsB ([] : List S39) ++ [13, 10] ++ more = [13] ++ 10 :: more := by simp [headsB]
      have hP : (headsB l ++ [13, 10]).length = (headsB l).length + 2 := by rw [List.length_append]; rfl
      rw [e0, splitC_of 10 [13] more (by decide)]
      simp only
      rw [if_neg (by simp; omega), if_pos (by decide), hP]
      rfl
theorem ref_print_loop (l : List S39) (hl : lightL l = true) : ∀ (d k i : Nat) (acc : List Int), i + d = l.length → d < k → acc.length + (headsB (l.drop i)).length ≤ 1000000 →
    lanternref09_Print.l0 k l acc i = some (acc ++ nums (headsB (l.drop i) ++ [13, 10]))
  | d, k, i, acc, hd, hk, ha => by
    obtain ⟨p1, p2, p3⟩ := light_parts hl
    obtain ⟨k, rfl⟩ : ∃ m, k = m + 1 := ⟨k - 1, by omega⟩
    rw [lanternref09_Print.l0]
    by_cases h : i < l.length
    · obtain ⟨d, rfl⟩ : ∃ m, d = m + 1 := ⟨d - 1, by omega⟩
      have hst : headsB (l.drop i) = headB l[i] ++ headsB (l.drop (i + 1)) := by
        rw [List.drop_eq_getElem_cons h, headsB, headsB, List.flatMap_cons]
      have hhl : (headB l[i]).length = l[i].f0.size + 2 + l[i].f1.size + 2 := headB_length l[i]
      rw [hst, List.length_append, hhl] at ha
      have z0 : (Go.Proofs.YtfjfpgihgaiacaaDoorW.PrintWords.bytesOf l[i].f0).length = l[i].f0.size := bytesOf_length _
      have z1 : (Go.Proofs.YtfjfpgihgaiacaaDoorW.PrintWords.bytesOf l[i].f1).length = l[i].f1.size := bytesOf_length _
      rw [if_pos (by omega), if_pos (by omega), rd39 l i h, if_pos (by omega)]
      simp only [Option.bind_some]
      rw [if_pos (by simp only [List.length_append, z0, List.length_cons, List.length_nil]; omega), if_pos (by simp only [List.length_append, z0, List.length_cons, List.length_nil]; omega), if_pos (by simp only [List.length_append, z0, z1, List.length_cons, List.length_nil]; omega), wrap_nat (x := (i : Int) + 1) (i + 1) rfl (by omega)]
      rw [ref_print_loop l hl d k (i + 1) _ (by omega) (by omega) (by simp only [List.length_append, z0, z1, List.length_cons, List.length_nil]; omega), hst]
      have en : nums (headB l[i]) = Go.Proofs.YtfjfpgihgaiacaaDoorW.PrintWords.bytesOf l[i].f0 ++ [58, 32] ++ Go.Proofs.YtfjfpgihgaiacaaDoorW.PrintWords.bytesOf l[i].f1 ++ [13, 10] := by
        unfold nums headB Go.Proofs.YtfjfpgihgaiacaaDoorW.PrintWords.bytesOf
        simp
      have e2 : nums (headB l[i] ++ headsB (List.drop (i + 1) l) ++ [13, 10]) = nums (headB l[i]) ++ nums (headsB (List.drop (i + 1) l) ++ [13, 10]) := by simp [nums]
      rw [e2, en]
      simp [List.append_assoc]
    · rw [List.drop_eq_nil_of_le (by omega)] at ha ⊢
      rw [if_neg (by omega)]
      simp only [Option.bind_some]
      rw [if_pos (by simp only [List.length_cons, List.length_nil]; omega)]
      rfl
theorem HeaderPrints (l : List S39) (hf : Fits l) (more : List Int) (hm : ∀ n ∈ more, 0 ≤ n ∧ n < 256) : ∃ k, lanternlaw09_HeaderPrints.f k l more = some true := by
  refine ⟨100002, ?_⟩
  unfold lanternlaw09_HeaderPrints.f
  rw [light_f l hf _ (by omega)]
  simp only [Option.bind_some]
  by_cases hl : lightL l = true
  · rw [if_pos hl, lanternlaw09_HeaderPrints.j0]
    by_cases hmore : (more.length : Int) > 2000
    · rw [if_pos (decide_eq_true hmore), awake_f _ (by omega)]
      rfl
    · rw [if_neg (by simpa using hmore), ref_check l hl hf _ (by omega), prog_check l hl _ (by omega)]
      simp only [Option.bind_some]
      by_cases hc : checkV l = 0
      · rw [print_f l hl _ (by omega) hc]
        simp only [Option.bind_some, if_true]
        obtain ⟨c1, c2, c3⟩ := check_zero hc
        have hlen : (headsB l ++ [13, 10]).length = sizeL l := by rw [List.length_append, headsB_length]; unfold sizeL; simp; omega
        have hnl : (nums (headsB l ++ [13, 10])).length = sizeL l := by rw [nums_length, hlen]
        rw [hc, lanternlaw09_HeaderPrints.j1, if_neg (by decide), if_pos rfl]
        simp only [Option.bind_some, List.nil_append, List.length_nil, Nat.zero_add]
        rw [if_pos (by omega), if_pos (by omega)]
        obtain ⟨bs, rfl⟩ : ∃ bs, more = nums bs := ⟨Lib.bytesOf more, (nums_of hm).symm⟩
        rw [nums_length] at hmore
        have ea : nums (headsB l ++ [13, 10]) ++ nums bs = nums (headsB l ++ [13, 10] ++ bs) := by simp [nums]
        have hal : (headsB l ++ [13, 10] ++ bs).length = sizeL l + bs.length := by rw [List.length_append, hlen]
        rw [ea, parse_f _ (by omega) _ (by omega)]
        have hp := full_parse l c1 c2 (by omega) bs l.length ((headsB l ++ [13, 10] ++ bs).length + 1) 0 (by omega) (by omega)
        rw [List.take_zero] at hp
        rw [show (headsB ([] : List S39)).length = 0 from rfl] at hp
        rw [hp]
        have hr : lanternref09_Print.f 100000 l = some (nums (headsB l ++ [13, 10])) := by
          unfold lanternref09_Print.f
          have hz : (headsB l).length + 2 = sizeL l := by rw [← hlen, List.length_append]; rfl
          have := ref_print_loop l hl l.length 100000 0 [] (by omega) (by omega) (by rw [List.drop_zero]; simp; omega)
          rw [List.drop_zero] at this
          exact this
        rw [hr]
        simp only [Option.bind_some, if_true]
        rw [nums_length, if_pos rfl, same_f l (by omega) _ (by omega)]
        simp only [Option.bind_some, if_true]
        rw [awake_f _ (by omega)]
        rfl
      · have hpf : header_Print.f 100001 l = some ([], checkV l) := by
          unfold header_Print.f
          rw [prog_check l hl _ (by omega)]
          simp only [Option.bind_some]
          rw [if_neg hc]
        rw [hpf]
        simp only [Option.bind_some, if_true]
        rw [lanternlaw09_HeaderPrints.j1, if_neg (by simp), if_neg hc, if_pos (show (((([] : List Int)).length : Nat) : Int) = 0 from rfl), awake_f _ (by omega)]
        rfl
  · rw [if_neg hl, lanternlaw09_HeaderPrints.j0, if_pos rfl, awake_f _ (by omega)]
    rfl
end Go.Proofs.YtfjfpgihgaiacaaDoor.Q
namespace Go.Proofs.YtfjfpgihgaiacaaDoor.R
open Go Go.ChangeShapes Go.WideShapes Go.ChangeAt Go.RowKit Go.Proofs.YtfjfpgihgaiacaaDoor.E Go.Proofs.YtfjfpgihgaiacaaDoorW.PrintWords Go.Proofs.YtfjfpgihgaiacaaDoorW.PrintLast
open Go.ChangeMaps (open_string shut_string)
set_option linter.unusedVariables false
set_option maxRecDepth 100000
theorem headerPrints_lifted (os : Os) (started : os.Started) (H : Type) (enc : TypeId × Value → H) :
    ReturnsInHanded {} Go.Proofs.Tryd.checked os 5 .any (fun w args => (Rows.headerPrintsSpec.pre enc Go.Proofs.Tryd.prog Go.Proofs.Tryd.f5 Rows.headerPrintsRow.domain false w args ∧ laidMetH Go.Proofs.Tryd.prog listed w) ∧ sizedMet enc Go.Proofs.Tryd.prog Go.Proofs.Tryd.f5 (OpenSpec.ofChange Rows.headerPrintsSpec) false w args)
      (Rows.headerPrintsSpec.post enc Go.Proofs.Tryd.prog Go.Proofs.Tryd.f5 false true false false) := by
  refine handed_and (C := Go.Proofs.Tryd.checked) (X := fun w _ => laidMetH Go.Proofs.Tryd.prog listed w) (fun _ _ _ hh h => h.of_heap hh) own started (by kernel_rfl) Go.Proofs.Tryd.func5
    (ChangeSpec.witness_at (enc := enc) (C := Go.Proofs.Tryd.checked) (os := os) (X := fun w _ => laidMetH Go.Proofs.Tryd.prog listed w) false (laidWorld os) #[.slice none 0 0, .slice none 0 0] 8 rfl (by kernel_rfl) (by kernel_rfl) (by kernel_rfl) (by kernel_rfl) (by kernel_rfl) (laidH_iff.2 (laid_met os _))) ?_
  intro W base args ds gs before hval0 hW _ hsz0 hL hsh _
  have hT : LW W := lw_of_laid (laidH_iff.1 hL) hsh
  have hval : ∀ (j : Nat) t v, Go.Proofs.Tryd.f5.params[j]? = some t → args[j]? = some v → Value.okWide Go.Proofs.Tryd.prog W .any base t v := hval0
  have hW' := hW
  obtain ⟨p, q, hA0, hV0, rfl, hfz, hnd⟩ := hW
  have hA : DataW.TrodAll enc Go.Proofs.Tryd.prog W 0 (fun _ => true) true Go.Proofs.Tryd.f5.params.toList args.toList ds p := hA0
  have hsz : (DataW.weightsEach Go.Proofs.Tryd.prog (Go.Proofs.Tryd.f5.params.toList ++ Rows.headerPrintsSpec.plain.varTypes Go.Proofs.Tryd.prog) (ds ++ gs)).all (· ≤ reachBytes) = true := hsz0
  rw [Go.Proofs.Tryd.params5] at hA hval hsz
  obtain ⟨v0, vs0, d0, ds0, p0, q0, hargs, rfl, rfl, h0, r0⟩ := trodAll_cons hA
  obtain ⟨v1, vs1, d1, ds1, p1, q1, rfl, rfl, rfl, h1, r1⟩ := trodAll_cons r0
  obtain ⟨rfl, rfl, rfl⟩ := trodAll_nil r1
  obtain rfl : args = #[v0, v1] := by cases args; simp_all
  obtain ⟨rfl, rfl⟩ := trodVars_none hV0
  obtain ⟨a0, len0, cap0, rfl⟩ := okWide_slice Go.Proofs.Tryd.underlying24 (hval 0 24 v0 rfl rfl)
  have k0 := h0
  have lt0 : ∀ x ∈ p0, x.block < W.heap.size := by obtain ⟨m, hm⟩ := k0; exact DataW.trod_lt m _ _ _ hm
  obtain ⟨l0, rfl, hC0, hc0, hw0⟩ := Q.open_heads h0 hsz (j := 0) rfl rfl
  obtain ⟨a1, len1, cap1, rfl⟩ := okWide_slice Go.Proofs.Tryd.underlying22 (hval 1 22 v1 rfl rfl)
  have k1 := h1
  have lt1 : ∀ x ∈ p1, x.block < W.heap.size := by obtain ⟨m, hm⟩ := k1; exact DataW.trod_lt m _ _ _ hm
  obtain ⟨z1, w1⟩ : ∃ zs, IsRow .u8 W a1 len1 cap1 zs := by
    obtain ⟨fuel, hf⟩ := h1
    rcases open_ints Go.Proofs.Tryd.underlying22 Go.Proofs.Tryd.underlying5 (by kernel_rfl) hf with ⟨hcs, _⟩ | ⟨x, l, c, zs, hcs, _, hl, hm, hz, _, hcell, hwz⟩
    · simp [Value.cells] at hcs
      obtain ⟨rfl, rfl, rfl⟩ := hcs
      exact ⟨[], .inl ⟨rfl, rfl, rfl, rfl⟩⟩
    · simp [Value.cells] at hcs
      obtain ⟨rfl, rfl, rfl⟩ := hcs
      exact ⟨zs, .inr ⟨_, rfl, hl, hm, by simpa using hz, hcell, hwz⟩⟩
  obtain ⟨l1, rfl, hr1, hm1, hw1, hc1⟩ := ReadsInt.ofRowC w1
  clear hA0 hV0 hval0
  obtain ⟨k, hk⟩ := Q.HeaderPrints l0 (id hw0) l1 (range_u8 hw1)
  refine (Z.lanternlaw09_HeaderPrints.calls k _ _ l0 _ _ l1 true W hT hC0 hc0 (Kd.C_of_reads (d := (0 : Int)) (h1 := fun _ => rfl) hr1) hc1 hk).mono fun e W' ⟨he, bel⟩ => ?_
  subst he
  exact ⟨_, rfl, _, _, _, [], _, [], hW', trodAll_mk1 (shut_bool Go.Proofs.Tryd.underlying4 _), (trodAll_cons_mk (Below.trod laidOut (by kernel_rfl) (of_decide_eq_true (by kernel_rfl)) k0 bel lt0) (trodAll_cons_mk (Below.trod laidOut (by kernel_rfl) (of_decide_eq_true (by kernel_rfl)) k1 bel lt1) trodAll_mk0)), rfl, bel.frame _, fun h => by cases h⟩
theorem headerPrints_holds : Rows.HeaderPrintsSaid :=
  OpenClaim.holds_of_wide 5 Go.Proofs.Tryd.f5 rfl rfl rfl rfl rfl rfl rfl ⟨rfl, rfl, rfl, rfl, rfl⟩ rfl rfl rfl rfl rfl (by kernel_rfl) Go.Proofs.Tryd.func5 (by kernel_rfl)
    (of_decide_eq_true (by kernel_rfl)) (by unfold Func.isWrapper; first | (rw [if_pos (by decide +kernel)]; kernel_rfl) | (rw [if_neg (by decide +kernel)]; exact ⟨rfl, rfl⟩))
    (fun os started H enc _ => headerPrints_lifted os started H enc)
/-- The tied card. -/
theorem headerPrints_card : Rows.HeaderPrintsCardSaid :=
  Claim7.holds_tied_plain_at .later [] [.data, .sentinel, .pinned] true (true, "0d8f8c56d4c9748e5b8e1a59c13b474463a1a5098ea59bee18ca0244da976c12") false
    headerPrints_holds (fun _ h => by cases h) (by kernel_rfl) (fun _ h => by cases h) headerPrints_row_tie rfl ⟨rfl, rfl⟩ (by kernel_rfl) rfl
    (fun f fn hf hfn => by
      obtain rfl : f = 5 := Option.some.inj ((show Go.Proofs.Tryd.prog.funcNamed "lantern/lanternlaw09.HeaderPrints" = some 5 by kernel_rfl).symm.trans hf) |>.symm
      obtain rfl : fn = Go.Proofs.Tryd.f5 := (Option.some.inj (Go.Proofs.Tryd.func5.symm.trans hfn)).symm
      exact ⟨by kernel_rfl, fun j t ht => by
        rw [Go.Proofs.Tryd.params5] at ht
        have hm : t ∈ [24, 22] := by simpa using Array.mem_of_getElem? ht
        have hall : ([24, 22].all fun u => !Go.Proofs.Tryd.prog.wantsStandIn u) = true := by kernel_rfl
        exact (show Go.Proofs.Tryd.prog.wantsStandIn t = false by simpa using List.all_eq_true.1 hall t hm)⟩)
    (by kernel_rfl)
#print axioms headerPrints_card
end Go.Proofs.YtfjfpgihgaiacaaDoor.R
