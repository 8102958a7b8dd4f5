import Derived.Test.YtipleegkonhfcaaGreatDoorP7
namespace Go.Proofs.YtipleegkonhfcaaGreatDoor.P
open Go.Proofs.YtipleegkonhfcaaGreatDoorZ
open Go.Proofs.YtipleegkonhfcaaGreatDoor.E Go.Proofs.YtipleegkonhfcaaGreatDoorV
open Go.Proofs.YtipleegkonhfcaaGreatDoor.U
open Go.Proofs.YtipleegkonhfcaaGreatDoor.KF
open Go.RowKit Go.Proofs.YtipleegkonhfcaaGreatDoorW.PrintWords Go.Proofs.YtipleegkonhfcaaGreatDoorW.PrintLast Go.Proofs.YtipleegkonhfcaaGreatDoorW.PrintMore
attribute [local go_sem] max2_int min2_int max_two min_two max_three min_three max_four min_four   -- for this text's walks alone
set_option linter.unusedVariables false
set_option linter.unusedSimpArgs false

mutual
def lanternref09_one.j1 : Nat → ByteArray → Int → Option (ByteArray × ByteArray × Bool)
 | 0, _, _ => none
 | k + 1, x0, x4 => if x4 = (x0.size : Int) then (some ((⟨#[]⟩ : ByteArray), (⟨#[]⟩ : ByteArray), false)) else (lanternref09_one.l1 k x0 x4 (wrap64 (x4 + 1)) (x0.size : Int))
def lanternref09_one.j3 : Nat → ByteArray → Int → Int → Int → Option (ByteArray × ByteArray × Bool)
 | 0, _, _, _, _ => none
 | k + 1, x0, x4, x5, x6 => lanternref09_one.l2 k x0 x4 x5 x6
def lanternref09_one.l2 : Nat → ByteArray → Int → Int → Int → Option (ByteArray × ByteArray × Bool)
 | 0, _, _, _, _ => none
 | k + 1, x0, x4, x5, x6 => if x6 > x5 then (if 0 ≤ (wrap64 (x6 - 1)) then (if (wrap64 (x6 - 1)) < (x0.size : Int) then ((lanternref09_blank.f (bt x0 (wrap64 (x6 - 1)))).bind fun t253 => (if t253 = true then (lanternref09_one.l2 k x0 x4 x5 (wrap64 (x6 - 1))) else (if 0 ≤ x4 then (if x4 ≤ (x0.size : Int) then (if 0 ≤ x5 then (if x5 ≤ x6 then (if x6 ≤ (x0.size : Int) then ((lanternref09_May.f k (x0.extract 0 (x4 : Int).toNat) (x0.extract (x5 : Int).toNat (x6 : Int).toNat)).bind fun t255 => (some (x0.extract 0 (x4 : Int).toNat, x0.extract (x5 : Int).toNat (x6 : Int).toNat, t255))) else (none)) else (none)) else (none)) else (none)) else (none)))) else (none)) else (none)) else (if 0 ≤ x4 then (if x4 ≤ (x0.size : Int) then (if 0 ≤ x5 then (if x5 ≤ x6 then (if x6 ≤ (x0.size : Int) then ((lanternref09_May.f k (x0.extract 0 (x4 : Int).toNat) (x0.extract (x5 : Int).toNat (x6 : Int).toNat)).bind fun t257 => (some (x0.extract 0 (x4 : Int).toNat, x0.extract (x5 : Int).toNat (x6 : Int).toNat, t257))) else (none)) else (none)) else (none)) else (none)) else (none))
def lanternref09_one.l1 : Nat → ByteArray → Int → Int → Int → Option (ByteArray × ByteArray × Bool)
 | 0, _, _, _, _ => none
 | k + 1, x0, x4, x5, x6 => if x5 < x6 then (if 0 ≤ x5 then (if x5 < (x0.size : Int) then ((lanternref09_blank.f (bt x0 x5)).bind fun t252 => (if t252 = true then (lanternref09_one.l1 k x0 x4 (wrap64 (x5 + 1)) x6) else (lanternref09_one.j3 k x0 x4 x5 x6))) else (none)) else (none)) else (lanternref09_one.j3 k x0 x4 x5 x6)
def lanternref09_one.l0 : Nat → ByteArray → Int → Option (ByteArray × ByteArray × Bool)
 | 0, _, _ => none
 | k + 1, x0, x4 => if x4 < (x0.size : Int) then (if 0 ≤ x4 then (if (bt x0 x4) = 58 then (lanternref09_one.j1 k x0 x4) else (lanternref09_one.l0 k x0 (wrap64 (x4 + 1)))) else (none)) else (lanternref09_one.j1 k x0 x4)
end
def lanternref09_one.f (k : Nat) (a0 : ByteArray) : Option (ByteArray × ByteArray × Bool) := lanternref09_one.l0 k a0 0
theorem lanternref09_one.mono_l : ∀ k, (∀ y0 y1, LeO (lanternref09_one.j1 k y0 y1) (lanternref09_one.j1 (k + 1) y0 y1)) ∧ (∀ y0 y1 y2 y3, LeO (lanternref09_one.j3 k y0 y1 y2 y3) (lanternref09_one.j3 (k + 1) y0 y1 y2 y3)) ∧ (∀ y0 y1 y2 y3, LeO (lanternref09_one.l2 k y0 y1 y2 y3) (lanternref09_one.l2 (k + 1) y0 y1 y2 y3)) ∧ (∀ y0 y1 y2 y3, LeO (lanternref09_one.l1 k y0 y1 y2 y3) (lanternref09_one.l1 (k + 1) y0 y1 y2 y3)) ∧ (∀ y0 y1, LeO (lanternref09_one.l0 k y0 y1) (lanternref09_one.l0 (k + 1) y0 y1))
 | 0 => ⟨fun _ _ r h => by simp [lanternref09_one.j1] at h, fun _ _ _ _ r h => by simp [lanternref09_one.j3] at h, fun _ _ _ _ r h => by simp [lanternref09_one.l2] at h, fun _ _ _ _ r h => by simp [lanternref09_one.l1] at h, fun _ _ r h => by simp [lanternref09_one.l0] at h⟩
 | k + 1 => by
  obtain ⟨ih0, ih1, ih2, ih3, ih4⟩ := lanternref09_one.mono_l k
  refine ⟨?_, ?_, ?_, ?_, ?_⟩
  ·intro y0 y1
   unfold lanternref09_one.j1
   repeat' first
   | (with_reducible exact ih0 _ _)
   | (with_reducible exact ih1 _ _ _ _)
   | (with_reducible exact ih2 _ _ _ _)
   | (with_reducible exact ih3 _ _ _ _)
   | (with_reducible exact ih4 _ _)
   | (with_reducible exact lanternref09_May.mono _ _ _)
   | (with_reducible exact LeO.refl _)
   | (with_reducible exact LeO.none _)
   | (with_reducible refine LeO.ite ?_ ?_)
   | (with_reducible refine LeO.bind ?_ (fun _ => ?_))
   | exact ih0 _ _
   | exact ih1 _ _ _ _
   | exact ih2 _ _ _ _
   | exact ih3 _ _ _ _
   | exact ih4 _ _
   | exact lanternref09_May.mono _ _ _
   | exact LeO.none _
   | refine LeO.ite ?_ ?_
   | refine LeO.bind ?_ (fun _ => ?_)
  ·intro y0 y1 y2 y3
   unfold lanternref09_one.j3
   repeat' first
   | (with_reducible exact ih0 _ _)
   | (with_reducible exact ih1 _ _ _ _)
   | (with_reducible exact ih2 _ _ _ _)
   | (with_reducible exact ih3 _ _ _ _)
   | (with_reducible exact ih4 _ _)
   | (with_reducible exact lanternref09_May.mono _ _ _)
   | (with_reducible exact LeO.refl _)
   | (with_reducible exact LeO.none _)
   | (with_reducible refine LeO.ite ?_ ?_)
   | (with_reducible refine LeO.bind ?_ (fun _ => ?_))
   | exact ih0 _ _
   | exact ih1 _ _ _ _
   | exact ih2 _ _ _ _
   | exact ih3 _ _ _ _
   | exact ih4 _ _
   | exact lanternref09_May.mono _ _ _
   | exact LeO.none _
   | refine LeO.ite ?_ ?_
   | refine LeO.bind ?_ (fun _ => ?_)
  ·intro y0 y1 y2 y3
   unfold lanternref09_one.l2
   repeat' first
   | (with_reducible exact ih0 _ _)
   | (with_reducible exact ih1 _ _ _ _)
   | (with_reducible exact ih2 _ _ _ _)
   | (with_reducible exact ih3 _ _ _ _)
   | (with_reducible exact ih4 _ _)
   | (with_reducible exact lanternref09_May.mono _ _ _)
   | (with_reducible exact LeO.refl _)
   | (with_reducible exact LeO.none _)
   | (with_reducible refine LeO.ite ?_ ?_)
   | (with_reducible refine LeO.bind ?_ (fun _ => ?_))
   | exact ih0 _ _
   | exact ih1 _ _ _ _
   | exact ih2 _ _ _ _
   | exact ih3 _ _ _ _
   | exact ih4 _ _
   | exact lanternref09_May.mono _ _ _
   | exact LeO.none _
   | refine LeO.ite ?_ ?_
   | refine LeO.bind ?_ (fun _ => ?_)
  ·intro y0 y1 y2 y3
   unfold lanternref09_one.l1
   repeat' first
   | (with_reducible exact ih0 _ _)
   | (with_reducible exact ih1 _ _ _ _)
   | (with_reducible exact ih2 _ _ _ _)
   | (with_reducible exact ih3 _ _ _ _)
   | (with_reducible exact ih4 _ _)
   | (with_reducible exact lanternref09_May.mono _ _ _)
   | (with_reducible exact LeO.refl _)
   | (with_reducible exact LeO.none _)
   | (with_reducible refine LeO.ite ?_ ?_)
   | (with_reducible refine LeO.bind ?_ (fun _ => ?_))
   | exact ih0 _ _
   | exact ih1 _ _ _ _
   | exact ih2 _ _ _ _
   | exact ih3 _ _ _ _
   | exact ih4 _ _
   | exact lanternref09_May.mono _ _ _
   | exact LeO.none _
   | refine LeO.ite ?_ ?_
   | refine LeO.bind ?_ (fun _ => ?_)
  ·intro y0 y1
   unfold lanternref09_one.l0
   repeat' first
   | (with_reducible exact ih0 _ _)
   | (with_reducible exact ih1 _ _ _ _)
   | (with_reducible exact ih2 _ _ _ _)
   | (with_reducible exact ih3 _ _ _ _)
   | (with_reducible exact ih4 _ _)
   | (with_reducible exact lanternref09_May.mono _ _ _)
   | (with_reducible exact LeO.refl _)
   | (with_reducible exact LeO.none _)
   | (with_reducible refine LeO.ite ?_ ?_)
   | (with_reducible refine LeO.bind ?_ (fun _ => ?_))
   | exact ih0 _ _
   | exact ih1 _ _ _ _
   | exact ih2 _ _ _ _
   | exact ih3 _ _ _ _
   | exact ih4 _ _
   | exact lanternref09_May.mono _ _ _
   | exact LeO.none _
   | refine LeO.ite ?_ ?_
   | refine LeO.bind ?_ (fun _ => ?_)
theorem lanternref09_one.mono : ∀ a0 k, LeO (lanternref09_one.f k a0) (lanternref09_one.f (k + 1) a0) := by
 intro a0 k
 obtain ⟨ih0, ih1, ih2, ih3, ih4⟩ := lanternref09_one.mono_l k
 unfold lanternref09_one.f
 repeat' first
   | (with_reducible exact ih0 _ _)
   | (with_reducible exact ih1 _ _ _ _)
   | (with_reducible exact ih2 _ _ _ _)
   | (with_reducible exact ih3 _ _ _ _)
   | (with_reducible exact ih4 _ _)
   | (with_reducible exact lanternref09_May.mono _ _ _)
   | (with_reducible exact LeO.refl _)
   | (with_reducible exact LeO.none _)
   | (with_reducible refine LeO.ite ?_ ?_)
   | (with_reducible refine LeO.bind ?_ (fun _ => ?_))
   | exact ih0 _ _
   | exact ih1 _ _ _ _
   | exact ih2 _ _ _ _
   | exact ih3 _ _ _ _
   | exact ih4 _ _
   | exact lanternref09_May.mono _ _ _
   | exact LeO.none _
   | refine LeO.ite ?_ ?_
   | refine LeO.bind ?_ (fun _ => ?_)
def lanternref09_one.T11 : Bool × List (List Nat × List Nat) := (true, [([], []), ([], []), ([0, 1], [0, 1]), ([], []), ([], []), ([], []), ([3, 4, 5], [3, 4, 5]), ([2, 6], [2, 6]), ([], []), ([8, 7, 0, 1, 2, 3, 4, 5, 6, 7, 8], [7, 8])])
def lanternref09_one.B11 : List Nat := [0, 0, 3, 0, 0, 0, 56, 127, 0, 511]
theorem lanternref09_one.tab11 : rtab .any (opsOf Tryz.f58 11) = lanternref09_one.T11 := by kernel_rfl
theorem lanternref09_one.bits11 : waitsOk lanternref09_one.T11.2 lanternref09_one.B11 = true := by kernel_rfl
set_option maxHeartbeats 8000000 in
set_option maxRecDepth 100000 in
theorem lanternref09_one.calls (k : Nat) (a0 : ByteArray) (r1 : ByteArray) (r2 : ByteArray) (r3 : Bool) (w : World) (hLW : LW w) (h : lanternref09_one.f k a0 = some (r1, r2, r3)) :
  Calls Tryz.prog 58 #[.string a0] w fun e w' => e = .returned (.tuple #[.agg #[.string r1, .string r2], .bool r3]) ∧ Below w.heap.size w w' := by
 have hu67 := Tryz.underlying67
 have HLW := Aside0.mk hLW
 clear hLW
 have HB := Aside0.mk (Below.refl w.heap.size w)
 have H := h
 unfold lanternref09_one.f at H
 clear h
 have HC2 := Aside0.mk H
 clear H
 go_enter Tryz.func58, Tryz.ntmps58
 go_upto_block 0 with (first | ((with_reducible refine gate_dst (N := 2) rfl ?_); refine bx_ 2 #[.string (⟨#[]⟩ : ByteArray), .string (⟨#[]⟩ : ByteArray)] 67 ?_; intro gb251 hg w3 hbox hb; have BK251 := Aside0.mk (hbox); have GW251 := Aside0.mk (ge_ (w := w) hg); have GE251 := Aside0.mk (ge_ (w := w) hg); replace HB := Aside0.mk (below_step bq_ hb); clear hb hbox hg))
 (try simp only [Act.put, List.setIfInBounds_toArray, List.set_cons_zero, List.set_cons_succ])
 go_cut [4] (fun v4 wc => ∃ (kq : Nat) (x4_1 : Int), v4 = .int .i64 x4_1 ∧ Aside0 (lanternref09_one.j1 kq a0 x4_1 = some (r1, r2, r3)) ∧ Aside0 (kq ≤ k) ∧ Aside0 (wc.heap[gb251]? = some (.cells #[.string (⟨#[]⟩ : ByteArray), .string (⟨#[]⟩ : ByteArray)] 67 (0, 0))) ∧ Aside0 (Below w.heap.size w wc))
 case first =>
  have H := HC2.out
  clear HC2
  have H' := Aside0.mk H
  clear H
  go_wp2
  go_loopg [4] k (fun kq v4 w' => ∃ (x4_1 : Int), v4 = .int .i64 x4_1 ∧ Aside0 (lanternref09_one.l0 kq a0 x4_1 = some (r1, r2, r3)) ∧ Aside0 (kq ≤ k) ∧ Aside0 (w'.heap[gb251]? = some (.cells #[.string (⟨#[]⟩ : ByteArray), .string (⟨#[]⟩ : ByteArray)] 67 (0, 0))) ∧ Aside0 (Below w.heap.size w w'))
  case atStart => exact ⟨(0), sq_, H', ⟨Nat.le_refl _⟩, ⟨bk_⟩, ⟨bg_⟩⟩
  case round =>
   clear H'
   obtain ⟨x4_1, rfl, HA, HK1, BK251, HB⟩ := hrel
   cases gk with
   | zero => exact absurd HA.out (by simp [lanternref09_one.l0])
   | succ k1 =>
    have H := HA.out
    clear HA
    simp only [lanternref09_one.l0] at H
    by_cases c4 : x4_1 < (a0.size : Int)
    ·rw [if_pos c4] at H
     have c4b0 := decide_eq_true c4
     clear c4
     (first | rw [c4b0] | (simp only [i64_w, i32_w]; rw [c4b0]) | skip)
     by_cases c5 : 0 ≤ x4_1
     ·rw [if_pos c5] at H
      have c5b0 := decide_eq_true c5
      clear c5
      by_cases c7 : (bt a0 x4_1) = 58
      ·rw [if_pos c7] at H
       have c7b0 := beq_iff_eq.mpr c7
       have c7b1 := bne_eq_false_iff_eq.mpr c7
       clear c7
       have H' := Aside0.mk H
       clear H
       have p6 : 0 ≤ (x4_1 : Int) := of_decide_eq_true as_
       have q6 : x4_1 < (a0.size : Int) := of_decide_eq_true as_
       have hx6 := bt_at a0 x4_1
       replace p6 := eq_true p6
       replace q6 := eq_true q6
       go_wp2
       go_meet
       case rel => exact ⟨_, (x4_1), sq_, H', ⟨by have := HK1.out; first | omega | exact Nat.le_refl _⟩, ⟨bk_⟩, ⟨bg_⟩⟩
      ·rw [if_neg c7] at H
       have c7b0 := beq_eq_false_iff_ne.mpr c7
       have c7b1 := bne_iff_ne.mpr c7
       have H' := Aside0.mk H
       clear H
       have p6 : 0 ≤ (x4_1 : Int) := of_decide_eq_true as_
       have q6 : x4_1 < (a0.size : Int) := of_decide_eq_true as_
       have hx6 := bt_at a0 x4_1
       replace p6 := eq_true p6
       replace q6 := eq_true q6
       go_wp2
       go_roundg k1
       case measure => have := HK1.out; omega
       case rel => exact ⟨(wrap64 (x4_1 + 1)), sq_, H', ⟨by have := HK1.out; omega⟩, ⟨bk_⟩, ⟨bg_⟩⟩
     ·rw [if_neg c5] at H
      exact absurd H (by simp)
    ·rw [if_neg c4] at H
     have c4b0 := decide_eq_false c4
     clear c4
     (first | rw [c4b0] | (simp only [i64_w, i32_w]; rw [c4b0]) | skip)
     have H' := Aside0.mk H
     clear H
     go_wp2
     go_meet
     case rel => exact ⟨_, (x4_1), sq_, H', ⟨by have := HK1.out; first | omega | exact Nat.le_refl _⟩, ⟨bk_⟩, ⟨bg_⟩⟩
 case rest =>
  clear HC2
  obtain ⟨kq, x4_1, rfl, HA, HJ1, BK251, HB⟩ := hcut
  cases kq with
  | zero => exact absurd HA.out (by simp [lanternref09_one.j1])
  | succ kj1 =>
   have H := HA.out
   clear HA
   simp only [lanternref09_one.j1] at H
   by_cases c8 : x4_1 = (a0.size : Int)
   ·rw [if_pos c8] at H
    have c8b0 := beq_iff_eq.mpr c8
    have c8b1 := bne_eq_false_iff_eq.mpr c8
    clear c8
    simp only [Option.some.injEq, Prod.mk.injEq] at H
    obtain ⟨rfl, rfl, rfl⟩ := H
    have hcz9_0 := cz_ BK251 0 (.string (⟨#[]⟩ : ByteArray))
    have hcz9_1 := cz_ BK251 1 (.string (⟨#[]⟩ : ByteArray))
    have hfz9_0 := bf_ BK251 0
    have hfz9_1 := bf_ BK251 1
    go_wp2
    refine bodyPost_ret (results_ct rfl _ _ gb251 67 #[.string (⟨#[]⟩ : ByteArray), .string (⟨#[]⟩ : ByteArray)] (0, 0) _ rfl (by (with_reducible repeat (first | refine blk_drewN ?_ _ | refine blk_drew ?_ | refine blk_alloc ?_ _)); refine blk_put (cs := #[.string (⟨#[]⟩ : ByteArray), .string (⟨#[]⟩ : ByteArray)]) ?_ 1 _ rfl; (with_reducible repeat (first | refine blk_drewN ?_ _ | refine blk_drew ?_ | refine blk_alloc ?_ _)); refine blk_put (cs := #[.string (⟨#[]⟩ : ByteArray), .string (⟨#[]⟩ : ByteArray)]) ?_ 0 _ rfl; (with_reducible repeat (first | refine blk_drewN ?_ _ | refine blk_drew ?_ | refine blk_alloc ?_ _)); exact BK251.out) Tryz.underlying67 rfl (by kernel_rfl)) rfl ?_
    exact ⟨rq_, bg_⟩
   ·rw [if_neg c8] at H
    have c8b0 := beq_eq_false_iff_ne.mpr c8
    have c8b1 := bne_iff_ne.mpr c8
    have HC10 := Aside0.mk H
    clear H
    go_upto_block 2 with (fail)
    go_cut [5] (fun v5 wc => ∃ (kq : Nat) (x5_9 : Int), v5 = .int .i64 x5_9 ∧ Aside0 (lanternref09_one.j3 kq a0 x4_1 x5_9 (a0.size : Int) = some (r1, r2, r3)) ∧ Aside0 (kq ≤ kj1) ∧ Aside0 (wc.heap[gb251]? = some (.cells #[.string (⟨#[]⟩ : ByteArray), .string (⟨#[]⟩ : ByteArray)] 67 (0, 0))) ∧ Aside0 (Below w.heap.size w wc))
    case first =>
     have H := HC10.out
     clear HC10
     have H' := Aside0.mk H
     clear H
     go_wp2
     go_loopg [5] kj1 (fun kq v5 w' => ∃ (x5_2 : Int), v5 = .int .i64 x5_2 ∧ Aside0 (lanternref09_one.l1 kq a0 x4_1 x5_2 (a0.size : Int) = some (r1, r2, r3)) ∧ Aside0 (kq ≤ kj1) ∧ Aside0 (w'.heap[gb251]? = some (.cells #[.string (⟨#[]⟩ : ByteArray), .string (⟨#[]⟩ : ByteArray)] 67 (0, 0))) ∧ Aside0 (Below w.heap.size w w'))
     case atStart => exact ⟨(wrap64 (x4_1 + 1)), sq_, H', ⟨Nat.le_refl _⟩, ⟨bk_⟩, ⟨bg_⟩⟩
     case round =>
      clear H'
      obtain ⟨x5_2, rfl, HA, HK2, BK251, HB⟩ := hrel
      cases gk with
      | zero => exact absurd HA.out (by simp [lanternref09_one.l1])
      | succ k2 =>
       have H := HA.out
       clear HA
       simp only [lanternref09_one.l1] at H
       by_cases c11 : x5_2 < (a0.size : Int)
       ·rw [if_pos c11] at H
        have c11b0 := decide_eq_true c11
        clear c11
        (first | rw [c11b0] | (simp only [i64_w, i32_w]; rw [c11b0]) | skip)
        by_cases c12 : 0 ≤ x5_2
        ·rw [if_pos c12] at H
         have c12b0 := decide_eq_true c12
         clear c12
         by_cases c13 : x5_2 < (a0.size : Int)
         ·rw [if_pos c13] at H
          have c13b0 := decide_eq_true c13
          clear c13
          replace H := Option.bind_eq_some_iff.mp H
          obtain ⟨t252, A150, H⟩ := H
          (try dsimp only at H)
          have A15 := Aside0.mk A150
          clear A150
          by_cases c16 : t252 = true
          ·subst c16
           replace H := ifT_ H
           have H' := Aside0.mk H
           clear H
           have p14 : 0 ≤ (x5_2 : Int) := of_decide_eq_true as_
           have q14 : x5_2 < (a0.size : Int) := of_decide_eq_true as_
           have hx14 := bt_at a0 x5_2
           replace p14 := eq_true p14
           replace q14 := eq_true q14
           go_wp2_with (first | (go_at_call 91; (with_reducible refine (lanternref09_blank.calls (bt a0 x5_2) true _ ?side1 A15.out).mono ?_); (case side1 => exact lg_); rintro e w' ⟨rfl, ⟨nd, rfl⟩⟩))
           go_roundg k2
           case measure => have := HJ1.out; have := HK2.out; omega
           case rel => exact ⟨(wrap64 (x5_2 + 1)), sq_, H', ⟨by have := HJ1.out; have := HK2.out; omega⟩, ⟨bk_⟩, ⟨bg_⟩⟩
          ·replace c16 := Bool.eq_false_iff.mpr c16
           subst c16
           replace H := ifF_ H
           have H' := Aside0.mk H
           clear H
           have p14 : 0 ≤ (x5_2 : Int) := of_decide_eq_true as_
           have q14 : x5_2 < (a0.size : Int) := of_decide_eq_true as_
           have hx14 := bt_at a0 x5_2
           replace p14 := eq_true p14
           replace q14 := eq_true q14
           go_wp2_with (first | (go_at_call 91; (with_reducible refine (lanternref09_blank.calls (bt a0 x5_2) false _ ?side1 A15.out).mono ?_); (case side1 => exact lg_); rintro e w' ⟨rfl, ⟨nd, rfl⟩⟩))
           go_meet
           case rel => exact ⟨_, (x5_2), sq_, H', ⟨by have := HJ1.out; have := HK2.out; first | omega | exact Nat.le_refl _⟩, ⟨bk_⟩, ⟨bg_⟩⟩
         ·rw [if_neg c13] at H
          exact absurd H (by simp)
        ·rw [if_neg c12] at H
         exact absurd H (by simp)
       ·rw [if_neg c11] at H
        have c11b0 := decide_eq_false c11
        clear c11
        (first | rw [c11b0] | (simp only [i64_w, i32_w]; rw [c11b0]) | skip)
        have H' := Aside0.mk H
        clear H
        go_wp2
        go_meet
        case rel => exact ⟨_, (x5_2), sq_, H', ⟨by have := HJ1.out; have := HK2.out; first | omega | exact Nat.le_refl _⟩, ⟨bk_⟩, ⟨bg_⟩⟩
    case rest =>
     clear HC10
     obtain ⟨kq, x5_9, rfl, HA, HJ9, BK251, HB⟩ := hcut
     cases kq with
     | zero => exact absurd HA.out (by simp [lanternref09_one.j3])
     | succ kj9 =>
      have H := HA.out
      clear HA
      simp only [lanternref09_one.j3] at H
      have H' := Aside0.mk H
      clear H
      go_wp2
      go_loopg [6] kj9 (fun kq v6 w' => ∃ (x6_3 : Int), v6 = .int .i64 x6_3 ∧ Aside0 (lanternref09_one.l2 kq a0 x4_1 x5_9 x6_3 = some (r1, r2, r3)) ∧ Aside0 (kq ≤ kj9) ∧ Aside0 (w'.heap[gb251]? = some (.cells #[.string (⟨#[]⟩ : ByteArray), .string (⟨#[]⟩ : ByteArray)] 67 (0, 0))) ∧ Aside0 (Below w.heap.size w w'))
      case atStart => exact ⟨((a0.size : Int)), sq_, H', ⟨Nat.le_refl _⟩, ⟨bk_⟩, ⟨bg_⟩⟩
      case round =>
       clear H'
       obtain ⟨x6_3, rfl, HA, HK3, BK251, HB⟩ := hrel
       cases gk with
       | zero => exact absurd HA.out (by simp [lanternref09_one.l2])
       | succ k3 =>
        have H := HA.out
        clear HA
        simp only [lanternref09_one.l2] at H
        by_cases c17 : x6_3 > x5_9
        ·rw [if_pos c17] at H
         have c17b0 := decide_eq_true c17
         clear c17
         obtain ⟨ji18, hji18⟩ : ∃ j_ : Int, (wrap64 (x6_3 - 1)) = j_ := ⟨_, rfl⟩
         replace H : (if 0 ≤ (ji18) then (if (ji18) < (a0.size : Int) then ((lanternref09_blank.f (bt a0 (ji18))).bind fun t253 => (if t253 = true then (lanternref09_one.l2 k3 a0 x4_1 x5_9 ji18) else (if 0 ≤ x4_1 then (if x4_1 ≤ (a0.size : Int) then (if 0 ≤ x5_9 then (if x5_9 ≤ x6_3 then (if x6_3 ≤ (a0.size : Int) then ((lanternref09_May.f k3 (a0.extract 0 (x4_1 : Int).toNat) (a0.extract (x5_9 : Int).toNat (x6_3 : Int).toNat)).bind fun t255 => (some (a0.extract 0 (x4_1 : Int).toNat, a0.extract (x5_9 : Int).toNat (x6_3 : Int).toNat, t255))) else (none)) else (none)) else (none)) else (none)) else (none)))) else (none)) else (none)) = some (r1, r2, r3) := by first | (rw [hji18] at H; exact H) | (simp only [hji18] at H ⊢; exact H)
         have hji18w : (IntKind.i64.wrap (x6_3 - 1)) = ji18 := (i64_w _).trans hji18
         by_cases c19 : 0 ≤ (ji18)
         ·rw [if_pos c19] at H
          have c19b0 := decide_eq_true c19
          clear c19
          by_cases c20 : (ji18) < (a0.size : Int)
          ·rw [if_pos c20] at H
           have c20b0 := decide_eq_true c20
           clear c20
           replace H := Option.bind_eq_some_iff.mp H
           obtain ⟨t253, A220, H⟩ := H
           (try dsimp only at H)
           have A22 := Aside0.mk A220
           clear A220
           by_cases c23 : t253 = true
           ·subst c23
            replace H := ifT_ H
            have H' := Aside0.mk H
            clear H
            have p21 : 0 ≤ ((ji18) : Int) := of_decide_eq_true as_
            have q21 : (ji18) < (a0.size : Int) := of_decide_eq_true as_
            have hx21 := bt_at a0 (ji18)
            replace p21 := eq_true p21
            replace q21 := eq_true q21
            go_wp2_with (first | (go_at_call 91; (with_reducible refine (lanternref09_blank.calls (bt a0 (ji18)) true _ ?side1 A22.out).mono ?_); (case side1 => exact lg_); rintro e w' ⟨rfl, ⟨nd, rfl⟩⟩))
            go_roundg k3
            case measure => have := HJ1.out; have := HJ9.out; have := HK3.out; omega
            case rel => exact ⟨(ji18), (by first | rfl | (simp; done) | (simp only [← hji18] <;> (first | rfl | simp)) | (simp [*]; done)), H', ⟨by have := HJ1.out; have := HJ9.out; have := HK3.out; omega⟩, ⟨bk_⟩, ⟨bg_⟩⟩
           ·replace c23 := Bool.eq_false_iff.mpr c23
            subst c23
            replace H := ifF_ H
            by_cases c24 : 0 ≤ x4_1
            ·rw [if_pos c24] at H
             have c24b0 := eq_true c24
             have c24b1 := decide_eq_true c24
             clear c24
             by_cases c25 : x4_1 ≤ (a0.size : Int)
             ·rw [if_pos c25] at H
              have c25b0 := eq_true c25
              have c25b1 := decide_eq_true c25
              clear c25
              by_cases c26 : 0 ≤ x5_9
              ·rw [if_pos c26] at H
               have c26b0 := eq_true c26
               have c26b1 := decide_eq_true c26
               clear c26
               by_cases c27 : x5_9 ≤ x6_3
               ·rw [if_pos c27] at H
                have c27b0 := eq_true c27
                have c27b1 := decide_eq_true c27
                clear c27
                by_cases c28 : x6_3 ≤ (a0.size : Int)
                ·rw [if_pos c28] at H
                 have c28b0 := eq_true c28
                 have c28b1 := decide_eq_true c28
                 clear c28
                 replace H := Option.bind_eq_some_iff.mp H
                 obtain ⟨t255, A290, H⟩ := H
                 (try dsimp only at H)
                 have A29 := Aside0.mk A290
                 clear A290
                 simp only [Option.some.injEq, Prod.mk.injEq] at H
                 obtain ⟨rfl, rfl, rfl⟩ := H
                 have p21 : 0 ≤ ((ji18) : Int) := of_decide_eq_true as_
                 have q21 : (ji18) < (a0.size : Int) := of_decide_eq_true as_
                 have hx21 := bt_at a0 (ji18)
                 replace p21 := eq_true p21
                 replace q21 := eq_true q21
                 try go_wp2_with (first | (go_at_call 91; (with_reducible refine (lanternref09_blank.calls (bt a0 (ji18)) false _ ?side1 A22.out).mono ?_); (case side1 => exact lg_); rintro e w' ⟨rfl, ⟨nd, rfl⟩⟩; (try (rw [drewN_self wr]; generalize hq_ : World.drewN wr _ = wr; have n0_ : Aside0 (wr.heap[gb251]? = some (.cells #[.string (⟨#[]⟩ : ByteArray), .string (⟨#[]⟩ : ByteArray)] 67 (0, 0))) := ⟨by rw [← hq_]; exact bk_⟩; have n1_ : Aside0 (Below w.heap.size w wr) := ⟨by rw [← hq_]; exact bg_⟩; clear BK251 HB hq_; have BK251 := n0_; have HB := n1_; clear n0_ n1_))))
                 replace BK251 := Aside0.mk (blk_drew BK251.out)
                 replace HB := Aside0.mk (below_drew1 HB.out)
                 refine start_ (n := 10) (S := fun w' => True) (ds := []) (bv_ 0 10) (by kernel_rfl) rfl rfl trivial (fun hHeld => ?_); refine with_tabW lanternref09_one.tab11 lanternref09_one.bits11 (fun HT_ HW_ => ?_)
                 generalize wr.drew = w30 at BK251 HB hHeld ⊢
                 iterate 8 refine p1_ HT_ ?_
                 refine one_ (i := 8) (N := some 7) (bv_ 9 1) rfl rfl (one_of HT_.out (by kernel_rfl)) (by decide) (fun K hK => ?_)
                 refine box_step ?hg (N := 7) ?hd (cs := #[.string (⟨#[]⟩ : ByteArray), .string (⟨#[]⟩ : ByteArray)]) (t := 67) ?hr ?_; (case hd => rfl); (case hg => rfl); (case hr => first | (go_simp; done) | (go_simp; rfl))
                 intro gb254 hg w31 hbox hb
                 have NB251_254 := Aside0.mk ((by rw [hg]; exact Nat.ne_of_lt (blk_lt (g := gb251) (o := .cells #[.string (⟨#[]⟩ : ByteArray), .string (⟨#[]⟩ : ByteArray)] 67 (0, 0)) bk_) : gb251 ≠ gb254))
                 have NB254_251 := Aside0.mk ((by rw [hg]; exact Nat.ne_of_gt (blk_lt (g := gb251) (o := .cells #[.string (⟨#[]⟩ : ByteArray), .string (⟨#[]⟩ : ByteArray)] 67 (0, 0)) bk_) : gb254 ≠ gb251))
                 replace BK251 := Aside0.mk (blk_below (g := gb251) (o := .cells #[.string (⟨#[]⟩ : ByteArray), .string (⟨#[]⟩ : ByteArray)] 67 (0, 0)) bk_ hb)
                 have BK254 := Aside0.mk (hbox)
                 have GW254 := Aside0.mk (gg_ (w := w) hg)
                 have GE254 := Aside0.mk (gg_ (w := w) hg)
                 replace HB := Aside0.mk (below_step bg_ hb)
                 clear hb hbox hg
                 refine hK.out _ _ trivial (fun hHeld => ?_)
                 clear hK K
                 refine norm_ (a' := ?_) ?_ ?_
                 rotate_left
                 ·show Act.put _ (some 7) _ = _
                  simp only [Act.put, sa_, s0_, s1_, i64_w, i32_w]
                  rfl
                 refine one_ (i := 9) (N := none) (bv_ 10 0) rfl rfl (one_of HT_.out (by kernel_rfl)) (by decide) (fun K hK => ?_)
                 have hs32 : w31.cell? ⟨gb254, 0, none⟩ = some (.string (⟨#[]⟩ : ByteArray)) := (blk_cell BK254.out 0).trans rfl
                 have hfs32 := bf_ BK254 0
                 have hns32_0 := NB251_254.out
                 have hms32_0 := NB254_251.out
                 have hs33 : w31.cell? ⟨gb254, 1, none⟩ = some (.string (⟨#[]⟩ : ByteArray)) := (blk_cell BK254.out 1).trans rfl
                 have hfs33 := bf_ BK254 1
                 have hns33_0 := NB251_254.out
                 have hms33_0 := NB254_251.out
                 refine skip_ (w1 := ?_) (by rfl) rfl ?_ ?_
                 rotate_left
                 ·go_simp
                  rfl
                 refine hK.out _ _ trivial (fun hHeld => ?_)
                 clear hK K
                 refine done_ (done_of HT_.out (by kernel_rfl)) ?_
                 try go_wp2
                 have n0_ : Aside0 (((w31.setCell ⟨gb254, 0, none⟩ (.string (a0.extract 0 (x4_1 : Int).toNat))).setCell ⟨gb254, 1, none⟩ (.string (a0.extract (x5_9 : Int).toNat (x6_3 : Int).toNat))).heap[gb251]? = some (.cells #[.string (⟨#[]⟩ : ByteArray), .string (⟨#[]⟩ : ByteArray)] 67 (0, 0))) := ⟨by (with_reducible repeat (first | refine blk_drewN ?_ _ | refine blk_drew ?_ | refine blk_alloc ?_ _)); refine blk_far ?_ NB251_254.out _; (with_reducible repeat (first | refine blk_drewN ?_ _ | refine blk_drew ?_ | refine blk_alloc ?_ _)); refine blk_far ?_ NB251_254.out _; (with_reducible repeat (first | refine blk_drewN ?_ _ | refine blk_drew ?_ | refine blk_alloc ?_ _)); exact BK251.out⟩
                 have n1_ : Aside0 (((w31.setCell ⟨gb254, 0, none⟩ (.string (a0.extract 0 (x4_1 : Int).toNat))).setCell ⟨gb254, 1, none⟩ (.string (a0.extract (x5_9 : Int).toNat (x6_3 : Int).toNat))).heap[gb254]? = some (.cells #[.string (a0.extract 0 (x4_1 : Int).toNat), .string (a0.extract (x5_9 : Int).toNat (x6_3 : Int).toNat)] 67 (0, 0))) := ⟨by (with_reducible repeat (first | refine blk_drewN ?_ _ | refine blk_drew ?_ | refine blk_alloc ?_ _)); refine blk_put (cs := #[.string (a0.extract 0 (x4_1 : Int).toNat), .string (⟨#[]⟩ : ByteArray)]) ?_ 1 _ rfl; (with_reducible repeat (first | refine blk_drewN ?_ _ | refine blk_drew ?_ | refine blk_alloc ?_ _)); refine blk_put (cs := #[.string (⟨#[]⟩ : ByteArray), .string (⟨#[]⟩ : ByteArray)]) ?_ 0 _ rfl; (with_reducible repeat (first | refine blk_drewN ?_ _ | refine blk_drew ?_ | refine blk_alloc ?_ _)); exact BK254.out⟩
                 have n2_ : Aside0 (Below w.heap.size w ((w31.setCell ⟨gb254, 0, none⟩ (.string (a0.extract 0 (x4_1 : Int).toNat))).setCell ⟨gb254, 1, none⟩ (.string (a0.extract (x5_9 : Int).toNat (x6_3 : Int).toNat)))) := ⟨bg_⟩
                 generalize ((w31.setCell ⟨gb254, 0, none⟩ (.string (a0.extract 0 (x4_1 : Int).toNat))).setCell ⟨gb254, 1, none⟩ (.string (a0.extract (x5_9 : Int).toNat (x6_3 : Int).toNat))) = w34 at n0_ n1_ n2_ ⊢
                 have BK251 := n0_
                 have BK254 := n1_
                 have HB := n2_
                 clear n0_ n1_ n2_
                 replace BK251 := Aside0.mk (blk_drew BK251.out)
                 replace BK254 := Aside0.mk (blk_drew BK254.out)
                 replace HB := Aside0.mk (below_drew1 HB.out)
                 refine start_ (n := 5) (S := fun w' => w'.cell? ⟨gb254, 0, none⟩ = some (.string (a0.extract 0 (x4_1 : Int).toNat)) ∧ w'.cell? ⟨gb254, 1, none⟩ = some (.string (a0.extract (x5_9 : Int).toNat (x6_3 : Int).toNat))) (ds := []) (bv_ 0 5) (by kernel_rfl) rfl rfl ⟨(blk_cell BK254.out 0).trans rfl, (blk_cell BK254.out 1).trans rfl⟩ (fun hHeld => ?_)
                 generalize w34.drew = w35 at BK251 BK254 HB hHeld ⊢
                 refine take_ (i := 0) (N := some 60) (v := ?_) (a' := ?_) (bv_ 1 4) rfl rfl (by kernel_rfl) (fun _ _ _ h => h) (Or.inl ⟨by rfl, ?_⟩) hHeld ?_ ?_
                 rotate_left
                 ·rintro w' ⟨s0, s1⟩
                  go_simp
                  with_reducible rfl
                 rotate_left
                 ·simp only [Act.put, sa_, s0_, s1_, i64_w, i32_w]
                  rfl
                 refine take_ (i := 1) (N := some 61) (v := ?_) (a' := ?_) (bv_ 2 3) rfl rfl (by kernel_rfl) (fun _ _ _ h => h) (Or.inl ⟨by rfl, ?_⟩) hHeld ?_ ?_
                 rotate_left
                 ·rintro w' ⟨s0, s1⟩
                  go_simp
                  with_reducible rfl
                 rotate_left
                 ·simp only [Act.put, sa_, s0_, s1_, i64_w, i32_w]
                  rfl
                 refine one_ (i := 2) (N := some 62) (bv_ 3 2) rfl rfl (by kernel_rfl) (by decide) (fun K hK => ?_)
                 refine goes_ Tryz.func92 (by kernel_rfl) rfl #[.agg #[.string (a0.extract 0 (x4_1 : Int).toNat), .string (a0.extract (x5_9 : Int).toNat (x6_3 : Int).toNat)]] (by rfl) rfl rfl lq_ ?_
                 with_reducible refine (lanternref09_May.calls k3 (a0.extract 0 (x4_1 : Int).toNat) (a0.extract (x5_9 : Int).toNat (x6_3 : Int).toNat) t255 _ ?side1 A29.out).mono ?_
                 (case side1 => exact lg_)
                 rintro e w36 ⟨rfl, hb⟩
                 refine ⟨_, rfl, ?_⟩
                 replace BK251 := Aside0.mk (blk_below (g := gb251) (o := .cells #[.string (⟨#[]⟩ : ByteArray), .string (⟨#[]⟩ : ByteArray)] 67 (0, 0)) bk_ hb)
                 replace BK254 := Aside0.mk (bb_ BK254 hb)
                 replace HB := Aside0.mk (below_step bg_ hb)
                 refine hK.out _ _ ⟨(blk_cell BK254.out 0).trans rfl, (blk_cell BK254.out 1).trans rfl⟩ (fun hHeld => ?_)
                 clear hK K
                 refine norm_ (a' := ?_) ?_ ?_
                 rotate_left
                 ·show Act.put _ (some 62) _ = _
                  simp only [Act.put, sa_, s0_, s1_, i64_w, i32_w]
                  rfl
                 refine one_ (i := 3) (N := none) (bv_ 4 1) rfl rfl (by kernel_rfl) (by decide) (fun K hK => ?_)
                 have hs37 : w36.cell? ⟨gb251, 0, none⟩ = some (.string (⟨#[]⟩ : ByteArray)) := (blk_cell BK251.out 0).trans rfl
                 have hfs37 := bf_ BK251 0
                 have hns37_1 := NB254_251.out
                 have hms37_1 := NB251_254.out
                 have hs38 : w36.cell? ⟨gb251, 1, none⟩ = some (.string (⟨#[]⟩ : ByteArray)) := (blk_cell BK251.out 1).trans rfl
                 have hfs38 := bf_ BK251 1
                 have hns38_1 := NB254_251.out
                 have hms38_1 := NB251_254.out
                 refine skip_ (w1 := ?_) (by rfl) rfl ?_ ?_
                 rotate_left
                 ·go_simp
                  rfl
                 refine hK.out _ _ ⟨((cell_far (p := ⟨gb251, _, none⟩) NB254_251.out _).trans (((cell_far (p := ⟨gb251, _, none⟩) NB254_251.out _).trans (hHeld.1)))), ((cell_far (p := ⟨gb251, _, none⟩) NB254_251.out _).trans (((cell_far (p := ⟨gb251, _, none⟩) NB254_251.out _).trans (hHeld.2))))⟩ (fun hHeld => ?_)
                 clear hK K
                 refine pure_ (i := 4) (N := some 3) (v := ?_) (a' := ?_) (bv_ 5 0) rfl rfl (by kernel_rfl) (fun _ _ _ h => h) (Or.inl ⟨by rfl, ?_⟩) ?_ ?_
                 rotate_left
                 ·intro w'
                  go_simp
                  with_reducible rfl
                 rotate_left
                 ·simp only [Act.put, sa_, s0_, s1_, i64_w, i32_w]
                  rfl
                 refine done_ (by kernel_rfl) ?_
                 try go_wp2
                 refine bodyPost_ret (results_ct rfl _ _ gb251 67 #[.string (a0.extract 0 (x4_1 : Int).toNat), .string (a0.extract (x5_9 : Int).toNat (x6_3 : Int).toNat)] (0, 0) _ rfl (by (with_reducible repeat (first | refine blk_drewN ?_ _ | refine blk_drew ?_ | refine blk_alloc ?_ _)); refine blk_put (cs := #[.string (a0.extract 0 (x4_1 : Int).toNat), .string (⟨#[]⟩ : ByteArray)]) ?_ 1 _ rfl; (with_reducible repeat (first | refine blk_drewN ?_ _ | refine blk_drew ?_ | refine blk_alloc ?_ _)); refine blk_put (cs := #[.string (⟨#[]⟩ : ByteArray), .string (⟨#[]⟩ : ByteArray)]) ?_ 0 _ rfl; (with_reducible repeat (first | refine blk_drewN ?_ _ | refine blk_drew ?_ | refine blk_alloc ?_ _)); exact BK251.out) Tryz.underlying67 rfl (by kernel_rfl)) rfl ?_
                 exact ⟨by first | rfl | (simp [errW_none, errW_some] <;> rfl) | (simp only [← hji18]; first | rfl | (simp [errW_none, errW_some] <;> rfl)) | (simp [*, errW_none, errW_some] <;> rfl) | (simp [errW_none, errW_some]; first | exact isEmpty_bne _ | exact isEmpty_beq _ | exact (isEmpty_bne _).symm), bg_⟩
                ·rw [if_neg c28] at H
                 exact absurd H (by simp)
               ·rw [if_neg c27] at H
                exact absurd H (by simp)
              ·rw [if_neg c26] at H
               exact absurd H (by simp)
             ·rw [if_neg c25] at H
              exact absurd H (by simp)
            ·rw [if_neg c24] at H
             exact absurd H (by simp)
          ·rw [if_neg c20] at H
           exact absurd H (by simp)
         ·rw [if_neg c19] at H
          exact absurd H (by simp)
        ·rw [if_neg c17] at H
         have c17b0 := decide_eq_false c17
         clear c17
         by_cases c39 : 0 ≤ x4_1
         ·rw [if_pos c39] at H
          have c39b0 := eq_true c39
          have c39b1 := decide_eq_true c39
          clear c39
          by_cases c40 : x4_1 ≤ (a0.size : Int)
          ·rw [if_pos c40] at H
           have c40b0 := eq_true c40
           have c40b1 := decide_eq_true c40
           clear c40
           by_cases c41 : 0 ≤ x5_9
           ·rw [if_pos c41] at H
            have c41b0 := eq_true c41
            have c41b1 := decide_eq_true c41
            clear c41
            by_cases c42 : x5_9 ≤ x6_3
            ·rw [if_pos c42] at H
             have c42b0 := eq_true c42
             have c42b1 := decide_eq_true c42
             clear c42
             by_cases c43 : x6_3 ≤ (a0.size : Int)
             ·rw [if_pos c43] at H
              have c43b0 := eq_true c43
              have c43b1 := decide_eq_true c43
              clear c43
              replace H := Option.bind_eq_some_iff.mp H
              obtain ⟨t257, A440, H⟩ := H
              (try dsimp only at H)
              have A44 := Aside0.mk A440
              clear A440
              simp only [Option.some.injEq, Prod.mk.injEq] at H
              obtain ⟨rfl, rfl, rfl⟩ := H
              try go_wp2
              replace BK251 := Aside0.mk (blk_drew BK251.out)
              replace HB := Aside0.mk (below_drew1 HB.out)
              refine start_ (n := 10) (S := fun w' => True) (ds := []) (bv_ 0 10) (by kernel_rfl) rfl rfl trivial (fun hHeld => ?_); refine with_tabW lanternref09_one.tab11 lanternref09_one.bits11 (fun HT_ HW_ => ?_)
              generalize wr.drew = w45 at BK251 HB hHeld ⊢
              iterate 8 refine p1_ HT_ ?_
              refine one_ (i := 8) (N := some 7) (bv_ 9 1) rfl rfl (one_of HT_.out (by kernel_rfl)) (by decide) (fun K hK => ?_)
              refine box_step ?hg (N := 7) ?hd (cs := #[.string (⟨#[]⟩ : ByteArray), .string (⟨#[]⟩ : ByteArray)]) (t := 67) ?hr ?_; (case hd => rfl); (case hg => rfl); (case hr => first | (go_simp; done) | (go_simp; rfl))
              intro gb256 hg w46 hbox hb
              have NB251_256 := Aside0.mk ((by rw [hg]; exact Nat.ne_of_lt (blk_lt (g := gb251) (o := .cells #[.string (⟨#[]⟩ : ByteArray), .string (⟨#[]⟩ : ByteArray)] 67 (0, 0)) bk_) : gb251 ≠ gb256))
              have NB256_251 := Aside0.mk ((by rw [hg]; exact Nat.ne_of_gt (blk_lt (g := gb251) (o := .cells #[.string (⟨#[]⟩ : ByteArray), .string (⟨#[]⟩ : ByteArray)] 67 (0, 0)) bk_) : gb256 ≠ gb251))
              replace BK251 := Aside0.mk (blk_below (g := gb251) (o := .cells #[.string (⟨#[]⟩ : ByteArray), .string (⟨#[]⟩ : ByteArray)] 67 (0, 0)) bk_ hb)
              have BK256 := Aside0.mk (hbox)
              have GW256 := Aside0.mk (gg_ (w := w) hg)
              have GE256 := Aside0.mk (gg_ (w := w) hg)
              replace HB := Aside0.mk (below_step bg_ hb)
              clear hb hbox hg
              refine hK.out _ _ trivial (fun hHeld => ?_)
              clear hK K
              refine norm_ (a' := ?_) ?_ ?_
              rotate_left
              ·show Act.put _ (some 7) _ = _
               simp only [Act.put, sa_, s0_, s1_, i64_w, i32_w]
               rfl
              refine one_ (i := 9) (N := none) (bv_ 10 0) rfl rfl (one_of HT_.out (by kernel_rfl)) (by decide) (fun K hK => ?_)
              have hs47 : w46.cell? ⟨gb256, 0, none⟩ = some (.string (⟨#[]⟩ : ByteArray)) := (blk_cell BK256.out 0).trans rfl
              have hfs47 := bf_ BK256 0
              have hns47_0 := NB251_256.out
              have hms47_0 := NB256_251.out
              have hs48 : w46.cell? ⟨gb256, 1, none⟩ = some (.string (⟨#[]⟩ : ByteArray)) := (blk_cell BK256.out 1).trans rfl
              have hfs48 := bf_ BK256 1
              have hns48_0 := NB251_256.out
              have hms48_0 := NB256_251.out
              refine skip_ (w1 := ?_) (by rfl) rfl ?_ ?_
              rotate_left
              ·go_simp
               rfl
              refine hK.out _ _ trivial (fun hHeld => ?_)
              clear hK K
              refine done_ (done_of HT_.out (by kernel_rfl)) ?_
              try go_wp2
              have n0_ : Aside0 (((w46.setCell ⟨gb256, 0, none⟩ (.string (a0.extract 0 (x4_1 : Int).toNat))).setCell ⟨gb256, 1, none⟩ (.string (a0.extract (x5_9 : Int).toNat (x6_3 : Int).toNat))).heap[gb251]? = some (.cells #[.string (⟨#[]⟩ : ByteArray), .string (⟨#[]⟩ : ByteArray)] 67 (0, 0))) := ⟨by (with_reducible repeat (first | refine blk_drewN ?_ _ | refine blk_drew ?_ | refine blk_alloc ?_ _)); refine blk_far ?_ NB251_256.out _; (with_reducible repeat (first | refine blk_drewN ?_ _ | refine blk_drew ?_ | refine blk_alloc ?_ _)); refine blk_far ?_ NB251_256.out _; (with_reducible repeat (first | refine blk_drewN ?_ _ | refine blk_drew ?_ | refine blk_alloc ?_ _)); exact BK251.out⟩
              have n1_ : Aside0 (((w46.setCell ⟨gb256, 0, none⟩ (.string (a0.extract 0 (x4_1 : Int).toNat))).setCell ⟨gb256, 1, none⟩ (.string (a0.extract (x5_9 : Int).toNat (x6_3 : Int).toNat))).heap[gb256]? = some (.cells #[.string (a0.extract 0 (x4_1 : Int).toNat), .string (a0.extract (x5_9 : Int).toNat (x6_3 : Int).toNat)] 67 (0, 0))) := ⟨by (with_reducible repeat (first | refine blk_drewN ?_ _ | refine blk_drew ?_ | refine blk_alloc ?_ _)); refine blk_put (cs := #[.string (a0.extract 0 (x4_1 : Int).toNat), .string (⟨#[]⟩ : ByteArray)]) ?_ 1 _ rfl; (with_reducible repeat (first | refine blk_drewN ?_ _ | refine blk_drew ?_ | refine blk_alloc ?_ _)); refine blk_put (cs := #[.string (⟨#[]⟩ : ByteArray), .string (⟨#[]⟩ : ByteArray)]) ?_ 0 _ rfl; (with_reducible repeat (first | refine blk_drewN ?_ _ | refine blk_drew ?_ | refine blk_alloc ?_ _)); exact BK256.out⟩
              have n2_ : Aside0 (Below w.heap.size w ((w46.setCell ⟨gb256, 0, none⟩ (.string (a0.extract 0 (x4_1 : Int).toNat))).setCell ⟨gb256, 1, none⟩ (.string (a0.extract (x5_9 : Int).toNat (x6_3 : Int).toNat)))) := ⟨bg_⟩
              generalize ((w46.setCell ⟨gb256, 0, none⟩ (.string (a0.extract 0 (x4_1 : Int).toNat))).setCell ⟨gb256, 1, none⟩ (.string (a0.extract (x5_9 : Int).toNat (x6_3 : Int).toNat))) = w49 at n0_ n1_ n2_ ⊢
              have BK251 := n0_
              have BK256 := n1_
              have HB := n2_
              clear n0_ n1_ n2_
              replace BK251 := Aside0.mk (blk_drew BK251.out)
              replace BK256 := Aside0.mk (blk_drew BK256.out)
              replace HB := Aside0.mk (below_drew1 HB.out)
              refine start_ (n := 5) (S := fun w' => w'.cell? ⟨gb256, 0, none⟩ = some (.string (a0.extract 0 (x4_1 : Int).toNat)) ∧ w'.cell? ⟨gb256, 1, none⟩ = some (.string (a0.extract (x5_9 : Int).toNat (x6_3 : Int).toNat))) (ds := []) (bv_ 0 5) (by kernel_rfl) rfl rfl ⟨(blk_cell BK256.out 0).trans rfl, (blk_cell BK256.out 1).trans rfl⟩ (fun hHeld => ?_)
              generalize w49.drew = w50 at BK251 BK256 HB hHeld ⊢
              refine take_ (i := 0) (N := some 60) (v := ?_) (a' := ?_) (bv_ 1 4) rfl rfl (by kernel_rfl) (fun _ _ _ h => h) (Or.inl ⟨by rfl, ?_⟩) hHeld ?_ ?_
              rotate_left
              ·rintro w' ⟨s0, s1⟩
               go_simp
               with_reducible rfl
              rotate_left
              ·simp only [Act.put, sa_, s0_, s1_, i64_w, i32_w]
               rfl
              refine take_ (i := 1) (N := some 61) (v := ?_) (a' := ?_) (bv_ 2 3) rfl rfl (by kernel_rfl) (fun _ _ _ h => h) (Or.inl ⟨by rfl, ?_⟩) hHeld ?_ ?_
              rotate_left
              ·rintro w' ⟨s0, s1⟩
               go_simp
               with_reducible rfl
              rotate_left
              ·simp only [Act.put, sa_, s0_, s1_, i64_w, i32_w]
               rfl
              refine one_ (i := 2) (N := some 62) (bv_ 3 2) rfl rfl (by kernel_rfl) (by decide) (fun K hK => ?_)
              refine goes_ Tryz.func92 (by kernel_rfl) rfl #[.agg #[.string (a0.extract 0 (x4_1 : Int).toNat), .string (a0.extract (x5_9 : Int).toNat (x6_3 : Int).toNat)]] (by rfl) rfl rfl lq_ ?_
              with_reducible refine (lanternref09_May.calls k3 (a0.extract 0 (x4_1 : Int).toNat) (a0.extract (x5_9 : Int).toNat (x6_3 : Int).toNat) t257 _ ?side1 A44.out).mono ?_
              (case side1 => exact lg_)
              rintro e w51 ⟨rfl, hb⟩
              refine ⟨_, rfl, ?_⟩
              replace BK251 := Aside0.mk (blk_below (g := gb251) (o := .cells #[.string (⟨#[]⟩ : ByteArray), .string (⟨#[]⟩ : ByteArray)] 67 (0, 0)) bk_ hb)
              replace BK256 := Aside0.mk (bb_ BK256 hb)
              replace HB := Aside0.mk (below_step bg_ hb)
              refine hK.out _ _ ⟨(blk_cell BK256.out 0).trans rfl, (blk_cell BK256.out 1).trans rfl⟩ (fun hHeld => ?_)
              clear hK K
              refine norm_ (a' := ?_) ?_ ?_
              rotate_left
              ·show Act.put _ (some 62) _ = _
               simp only [Act.put, sa_, s0_, s1_, i64_w, i32_w]
               rfl
              refine one_ (i := 3) (N := none) (bv_ 4 1) rfl rfl (by kernel_rfl) (by decide) (fun K hK => ?_)
              have hs52 : w51.cell? ⟨gb251, 0, none⟩ = some (.string (⟨#[]⟩ : ByteArray)) := (blk_cell BK251.out 0).trans rfl
              have hfs52 := bf_ BK251 0
              have hns52_1 := NB256_251.out
              have hms52_1 := NB251_256.out
              have hs53 : w51.cell? ⟨gb251, 1, none⟩ = some (.string (⟨#[]⟩ : ByteArray)) := (blk_cell BK251.out 1).trans rfl
              have hfs53 := bf_ BK251 1
              have hns53_1 := NB256_251.out
              have hms53_1 := NB251_256.out
              refine skip_ (w1 := ?_) (by rfl) rfl ?_ ?_
              rotate_left
              ·go_simp
               rfl
              refine hK.out _ _ ⟨((cell_far (p := ⟨gb251, _, none⟩) NB256_251.out _).trans (((cell_far (p := ⟨gb251, _, none⟩) NB256_251.out _).trans (hHeld.1)))), ((cell_far (p := ⟨gb251, _, none⟩) NB256_251.out _).trans (((cell_far (p := ⟨gb251, _, none⟩) NB256_251.out _).trans (hHeld.2))))⟩ (fun hHeld => ?_)
              clear hK K
              refine pure_ (i := 4) (N := some 3) (v := ?_) (a' := ?_) (bv_ 5 0) rfl rfl (by kernel_rfl) (fun _ _ _ h => h) (Or.inl ⟨by rfl, ?_⟩) ?_ ?_
              rotate_left
              ·intro w'
               go_simp
               with_reducible rfl
              rotate_left
              ·simp only [Act.put, sa_, s0_, s1_, i64_w, i32_w]
               rfl
              refine done_ (by kernel_rfl) ?_
              try go_wp2
              refine bodyPost_ret (results_ct rfl _ _ gb251 67 #[.string (a0.extract 0 (x4_1 : Int).toNat), .string (a0.extract (x5_9 : Int).toNat (x6_3 : Int).toNat)] (0, 0) _ rfl (by (with_reducible repeat (first | refine blk_drewN ?_ _ | refine blk_drew ?_ | refine blk_alloc ?_ _)); refine blk_put (cs := #[.string (a0.extract 0 (x4_1 : Int).toNat), .string (⟨#[]⟩ : ByteArray)]) ?_ 1 _ rfl; (with_reducible repeat (first | refine blk_drewN ?_ _ | refine blk_drew ?_ | refine blk_alloc ?_ _)); refine blk_put (cs := #[.string (⟨#[]⟩ : ByteArray), .string (⟨#[]⟩ : ByteArray)]) ?_ 0 _ rfl; (with_reducible repeat (first | refine blk_drewN ?_ _ | refine blk_drew ?_ | refine blk_alloc ?_ _)); exact BK251.out) Tryz.underlying67 rfl (by kernel_rfl)) rfl ?_
              exact ⟨rq_, bg_⟩
             ·rw [if_neg c43] at H
              exact absurd H (by simp)
            ·rw [if_neg c42] at H
             exact absurd H (by simp)
           ·rw [if_neg c41] at H
            exact absurd H (by simp)
          ·rw [if_neg c40] at H
           exact absurd H (by simp)
         ·rw [if_neg c39] at H
          exact absurd H (by simp)

end Go.Proofs.YtipleegkonhfcaaGreatDoor.P
