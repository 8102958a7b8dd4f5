-- Written by a program of this session (wip/gen/lprint.py over the kit's print.py) out of the translation. Lean checks it.
import Derived.Test.YtdopafhppaalfaaDoorK0
import Derived.Test.YtdopafhppaalfaaDoorK5
import Derived.Test.YtdopafhppaalfaaDoorZ
namespace Go.Proofs.YtdopafhppaalfaaDoor.K
open Go.Proofs.YtdopafhppaalfaaDoorZ
open Go.Proofs.YtdopafhppaalfaaDoor.E Go.Proofs.YtdopafhppaalfaaDoorV
open Go.Proofs.YtdopafhppaalfaaDoor.P
open Go.Proofs.YtdopafhppaalfaaDoor.G
open Go.Proofs.YtdopafhppaalfaaDoor.L
open Go.RowKit Go.Proofs.YtdopafhppaalfaaDoorW.PrintWords Go.Proofs.YtdopafhppaalfaaDoorW.PrintLast Go.Proofs.YtdopafhppaalfaaDoorW.PrintMore
attribute [local go_sem] max2_int min2_int max_two min_two max_three min_three max_four min_four   -- for this text's walks alone
set_option linter.unusedVariables false
set_option linter.unusedSimpArgs false

def lanternref06_in.l0 : Nat → List (S34) → Int → Bool → Int → Int → Int → Int → Int → Int → Int → Int → Int → Int → Int → Int → Int → Int → Int → Int → Option (Bool)
 | 0, _, _, _, _, _, _, _, _, _, _, _, _, _, _, _, _, _, _, _ => none
 | k + 1, x0, x5, V0, V1, V2, V3, V4, V5, V6, V7, V8, V9, V10, V11, V12, V13, V14, V15, V16 => if x5 < (x0.length : Int) then (if 0 ≤ x5 then ((lanternref06_Has.f k ((rd_T34 x0 x5).f0.f0) ((rd_T34 x0 x5).f0.f1.f0) ((rd_T34 x0 x5).f0.f1.f1) ((rd_T34 x0 x5).f0.f1.f2) ((rd_T34 x0 x5).f0.f1.f3) ((rd_T34 x0 x5).f0.f1.f4) ((rd_T34 x0 x5).f0.f1.f5) ((rd_T34 x0 x5).f0.f1.f6) ((rd_T34 x0 x5).f0.f1.f7) ((rd_T34 x0 x5).f0.f1.f8) ((rd_T34 x0 x5).f0.f1.f9) ((rd_T34 x0 x5).f0.f1.f10) ((rd_T34 x0 x5).f0.f1.f11) ((rd_T34 x0 x5).f0.f1.f12) ((rd_T34 x0 x5).f0.f1.f13) ((rd_T34 x0 x5).f0.f1.f14) ((rd_T34 x0 x5).f0.f1.f15) ((rd_T34 x0 x5).f1) V0 V1 V2 V3 V4 V5 V6 V7 V8 V9 V10 V11 V12 V13 V14 V15 V16).bind fun t161 => (if t161 = true then (some true) else (lanternref06_in.l0 k x0 (wrap64 (x5 + 1)) V0 V1 V2 V3 V4 V5 V6 V7 V8 V9 V10 V11 V12 V13 V14 V15 V16))) else (none)) else (some false)
def lanternref06_in.f (k : Nat) (l0 : List (S34)) (Z0 : Bool) (Z1 : Int) (Z2 : Int) (Z3 : Int) (Z4 : Int) (Z5 : Int) (Z6 : Int) (Z7 : Int) (Z8 : Int) (Z9 : Int) (Za : Int) (Zb : Int) (Zc : Int) (Zd : Int) (Ze : Int) (Zf : Int) (Zg : Int) : Option (Bool) := lanternref06_in.l0 k l0 0 Z0 Z1 Z2 Z3 Z4 Z5 Z6 Z7 Z8 Z9 Za Zb Zc Zd Ze Zf Zg
theorem lanternref06_in.mono_l : ∀ k, (∀ y0 y1 y2 y3 y4 y5 y6 y7 y8 y9 y10 y11 y12 y13 y14 y15 y16 y17 y18, LeO (lanternref06_in.l0 k y0 y1 y2 y3 y4 y5 y6 y7 y8 y9 y10 y11 y12 y13 y14 y15 y16 y17 y18) (lanternref06_in.l0 (k + 1) y0 y1 y2 y3 y4 y5 y6 y7 y8 y9 y10 y11 y12 y13 y14 y15 y16 y17 y18))
 | 0 => fun _ _ _ _ _ _ _ _ _ _ _ _ _ _ _ _ _ _ _ r h => by simp [lanternref06_in.l0] at h
 | k + 1 => by
  have ih0 := lanternref06_in.mono_l k
  ·intro y0 y1 y2 y3 y4 y5 y6 y7 y8 y9 y10 y11 y12 y13 y14 y15 y16 y17 y18
   unfold lanternref06_in.l0
   repeat' first
   | (with_reducible exact ih0 _ _ _ _ _ _ _ _ _ _ _ _ _ _ _ _ _ _ _)
   | (with_reducible exact lanternref06_Has.mono _ _ _ _ _ _ _ _ _ _ _ _ _ _ _ _ _ _ _ _ _ _ _ _ _ _ _ _ _ _ _ _ _ _ _ _)
   | (with_reducible exact LeO.refl _)
   | (with_reducible exact LeO.none _)
   | (with_reducible refine LeO.ite ?_ ?_)
   | (with_reducible refine LeO.bind ?_ (fun _ => ?_))
   | exact ih0 _ _ _ _ _ _ _ _ _ _ _ _ _ _ _ _ _ _ _
   | exact lanternref06_Has.mono _ _ _ _ _ _ _ _ _ _ _ _ _ _ _ _ _ _ _ _ _ _ _ _ _ _ _ _ _ _ _ _ _ _ _ _
   | exact LeO.none _
   | refine LeO.ite ?_ ?_
   | refine LeO.bind ?_ (fun _ => ?_)
theorem lanternref06_in.mono : ∀ a0 a1 a2 a3 a4 a5 a6 a7 a8 a9 a10 a11 a12 a13 a14 a15 a16 a17 k, LeO (lanternref06_in.f k a0 a1 a2 a3 a4 a5 a6 a7 a8 a9 a10 a11 a12 a13 a14 a15 a16 a17) (lanternref06_in.f (k + 1) a0 a1 a2 a3 a4 a5 a6 a7 a8 a9 a10 a11 a12 a13 a14 a15 a16 a17) := by
 intro a0 a1 a2 a3 a4 a5 a6 a7 a8 a9 a10 a11 a12 a13 a14 a15 a16 a17 k
 have ih0 := lanternref06_in.mono_l k
 unfold lanternref06_in.f
 repeat' first
   | (with_reducible exact ih0 _ _ _ _ _ _ _ _ _ _ _ _ _ _ _ _ _ _ _)
   | (with_reducible exact lanternref06_Has.mono _ _ _ _ _ _ _ _ _ _ _ _ _ _ _ _ _ _ _ _ _ _ _ _ _ _ _ _ _ _ _ _ _ _ _ _)
   | (with_reducible exact LeO.refl _)
   | (with_reducible exact LeO.none _)
   | (with_reducible refine LeO.ite ?_ ?_)
   | (with_reducible refine LeO.bind ?_ (fun _ => ?_))
   | exact ih0 _ _ _ _ _ _ _ _ _ _ _ _ _ _ _ _ _ _ _
   | exact lanternref06_Has.mono _ _ _ _ _ _ _ _ _ _ _ _ _ _ _ _ _ _ _ _ _ _ _ _ _ _ _ _ _ _ _ _ _ _ _ _
   | exact LeO.none _
   | refine LeO.ite ?_ ?_
   | refine LeO.bind ?_ (fun _ => ?_)
set_option maxHeartbeats 8000000 in
set_option maxRecDepth 100000 in
theorem lanternref06_in.calls (k : Nat) (A0 : Option Addr) (c0 : Nat) (l0 : List (S34)) (Z0 : Bool) (Z1 : Int) (Z2 : Int) (Z3 : Int) (Z4 : Int) (Z5 : Int) (Z6 : Int) (Z7 : Int) (Z8 : Int) (Z9 : Int) (Za : Int) (Zb : Int) (Zc : Int) (Zd : Int) (Ze : Int) (Zf : Int) (Zg : Int) (r : Bool) (w : World) (hLW : LW w) (hr0 : Kd.C k34 w A0 l0.length l0) (hc0 : l0.length ≤ c0) (h : lanternref06_in.f k l0 Z0 Z1 Z2 Z3 Z4 Z5 Z6 Z7 Z8 Z9 Za Zb Zc Zd Ze Zf Zg = some r) :
  Calls Tryd.prog 28 #[.slice A0 l0.length c0, .agg (ag_ Z0 Z1 Z2 Z3 Z4 Z5 Z6 Z7 Z8 Z9 Za Zb Zc Zd Ze Zf Zg)] w fun e w' => e = .returned (.bool r) ∧ Below w.heap.size w w' := by
 have hu24 := Tryd.underlying24
 have hu34 := Tryd.underlying34
 have HLW := Aside0.mk hLW
 clear hLW
 have HR0 := Aside0.mk hr0
 have HC0 := Aside0.mk hc0
 clear hr0 hc0
 have HB := Aside0.mk (Below.refl w.heap.size w)
 have H := h
 unfold lanternref06_in.f at H
 clear h
 have H' := Aside0.mk H
 clear H
 go_enter Tryd.func28, Tryd.ntmps28
 go_wp2_with (first | ((with_reducible refine gate_dst (N := 3) rfl ?_); refine bx_ 3 (ag_ Z0 Z1 Z2 Z3 Z4 Z5 Z6 Z7 Z8 Z9 Za Zb Zc Zd Ze Zf Zg) 24 ?_; intro gb159 hg w3 hbox hb; have BK159 := Aside0.mk (hbox); have GW159 := Aside0.mk (ge_ (w := w) hg); have GE159 := Aside0.mk (ge_ (w := w) hg); replace HB := Aside0.mk (below_step bq_ hb); clear hb hbox hg))
 go_loopg [5] k (fun kq v5 w' => ∃ (x5_1 : Int), v5 = .int .i64 x5_1 ∧ Aside0 (lanternref06_in.l0 kq l0 x5_1 Z0 Z1 Z2 Z3 Z4 Z5 Z6 Z7 Z8 Z9 Za Zb Zc Zd Ze Zf Zg = some r) ∧ Aside0 (kq ≤ k) ∧ Aside0 (w'.heap[gb159]? = some (.cells (ag_ Z0 Z1 Z2 Z3 Z4 Z5 Z6 Z7 Z8 Z9 Za Zb Zc Zd Ze Zf Zg) 24 (0, 0))) ∧ Aside0 (Below w.heap.size w w'))
 case atStart => exact ⟨(0), sq_, H', ⟨Nat.le_refl _⟩, ⟨bk_⟩, ⟨bg_⟩⟩
 case round =>
  clear H'
  try clear c2
  try clear p2
  obtain ⟨x5_1, rfl, HA, HK1, BK159, HB⟩ := hrel
  cases gk with
  | zero => exact absurd HA.out (by simp [lanternref06_in.l0])
  | succ k1 =>
   have H := HA.out
   clear HA
   simp only [lanternref06_in.l0] at H
   by_cases c4 : x5_1 < (l0.length : Int)
   ·rw [if_pos c4] at H
    have c4b0 := decide_eq_true c4
    clear c4
    by_cases c5 : 0 ≤ x5_1
    ·rw [if_pos c5] at H
     have c5b0 := decide_eq_true c5
     clear c5
     replace H := Option.bind_eq_some_iff.mp H
     obtain ⟨t161, A60, H⟩ := H
     (try dsimp only at H)
     have A6 := Aside0.mk A60
     clear A60
     by_cases c7 : t161 = true
     ·subst c7
      replace H := ifT_ H
      obtain rfl := Option.some.inj H
      try go_wp2
      replace BK159 := Aside0.mk (blk_drew BK159.out)
      replace HB := Aside0.mk (below_drew1 HB.out)
      have p160 : 0 ≤ (x5_1 : Int) := of_decide_eq_true as_
      have q160 : x5_1 < (l0.length : Int) := of_decide_eq_true as_
      obtain ⟨ad160, e160, hx160_0, hx160_1, hx160_2, hx160_3, hx160_4, hx160_5, hx160_6, hx160_7, hx160_8, hx160_9, hx160_10, hx160_11, hx160_12, hx160_13, hx160_14, hx160_15, hx160_16, hx160_17⟩ := at_T34 HR0.out x5_1 p160 q160
      clear hx160_0 hx160_1 hx160_2 hx160_3 hx160_4 hx160_5 hx160_6 hx160_7 hx160_8 hx160_9 hx160_10 hx160_11 hx160_12 hx160_13 hx160_14 hx160_15 hx160_16 hx160_17
      cases e160
      replace p160 := eq_true p160
      replace q160 := eq_true q160
      refine start_ (n := 6) (S := fun w' => (Instr.loadAt 24 (.pointer (some ⟨gb159, 0, none⟩))).run Tryd.prog w' = .ok (.agg (ag_ Z0 Z1 Z2 Z3 Z4 Z5 Z6 Z7 Z8 Z9 Za Zb Zc Zd Ze Zf Zg)) w' ∧ (Instr.loadAt 34 (.pointer (some (ad160.add ((x5_1).toNat * 18))))).run Tryd.prog w' = .ok (.agg (nr_ ((rd_T34 l0 x5_1).f0.f0) ((rd_T34 l0 x5_1).f0.f1.f0) ((rd_T34 l0 x5_1).f0.f1.f1) ((rd_T34 l0 x5_1).f0.f1.f2) ((rd_T34 l0 x5_1).f0.f1.f3) ((rd_T34 l0 x5_1).f0.f1.f4) ((rd_T34 l0 x5_1).f0.f1.f5) ((rd_T34 l0 x5_1).f0.f1.f6) ((rd_T34 l0 x5_1).f0.f1.f7) ((rd_T34 l0 x5_1).f0.f1.f8) ((rd_T34 l0 x5_1).f0.f1.f9) ((rd_T34 l0 x5_1).f0.f1.f10) ((rd_T34 l0 x5_1).f0.f1.f11) ((rd_T34 l0 x5_1).f0.f1.f12) ((rd_T34 l0 x5_1).f0.f1.f13) ((rd_T34 l0 x5_1).f0.f1.f14) ((rd_T34 l0 x5_1).f0.f1.f15) ((rd_T34 l0 x5_1).f1))) w') (ds := []) (bv_ 0 6) (by kernel_rfl) rfl rfl ⟨(run_load_box BK159.out 24 [] (al_ Z0 Z1 Z2 Z3 Z4 Z5 Z6 Z7 Z8 Z9 Za Zb Zc Zd Ze Zf Zg) [] rfl 0 rfl Tryd.underlying24 rfl (by kernel_rfl)), (row_T34 (Kd.C_below HR0.out HB.out) x5_1 p160 q160)⟩ (fun hHeld => ?_)
      generalize wr.drew = w8 at BK159 HB hHeld ⊢
      refine pure_ (i := 0) (N := some 12) (v := ?_) (a' := ?_) (bv_ 1 5) rfl rfl (by kernel_rfl) (fun _ _ _ h => h) (Or.inl ⟨by rfl, ?_⟩) ?_ ?_
      rotate_left
      ·intro w'
       go_simp
       with_reducible rfl
      rotate_left
      ·simp only [Act.put, sa_, s0_, s1_, i64_w, i32_w]
       rfl
      refine pure_ (i := 1) (N := some 13) (v := ?_) (a' := ?_) (bv_ 2 4) rfl rfl (by kernel_rfl) (fun _ _ _ h => h) (Or.inl ⟨by rfl, ?_⟩) ?_ ?_
      rotate_left
      ·intro w'
       go_simp
       with_reducible rfl
      rotate_left
      ·simp only [Act.put, sa_, s0_, s1_, i64_w, i32_w]
       rfl
      refine pure_ (i := 2) (N := some 14) (v := ?_) (a' := ?_) (bv_ 3 3) rfl rfl (by kernel_rfl) (fun _ _ _ h => h) (Or.inl ⟨by rfl, ?_⟩) ?_ ?_
      rotate_left
      ·intro w'
       go_simp
       with_reducible rfl
      rotate_left
      ·simp only [Act.put, sa_, s0_, s1_, i64_w, i32_w]
       rfl
      refine take_ (i := 3) (N := some 15) (v := ?_) (a' := ?_) (bv_ 4 2) rfl rfl (by kernel_rfl) (fun _ _ _ h => h) (Or.inl ⟨by rfl, ?_⟩) hHeld ?_ ?_
      rotate_left
      ·rintro w' ⟨s0, s1⟩
       refine (load_exec rfl rfl s1).trans ?_; with_reducible rfl
      rotate_left
      ·simp only [Act.put, sa_, s0_, s1_, i64_w, i32_w]
       rfl
      refine take_ (i := 4) (N := some 16) (v := ?_) (a' := ?_) (bv_ 5 1) rfl rfl (by kernel_rfl) (fun _ _ _ h => h) (Or.inl ⟨by rfl, ?_⟩) hHeld ?_ ?_
      rotate_left
      ·rintro w' ⟨s0, s1⟩
       refine (load_exec rfl rfl s0).trans ?_; with_reducible rfl
      rotate_left
      ·simp only [Act.put, sa_, s0_, s1_, i64_w, i32_w]
       rfl
      refine one_ (i := 5) (N := some 17) (bv_ 6 0) rfl rfl (by kernel_rfl) (by decide) (fun K hK => ?_)
      refine goes_ Tryd.func16 (by kernel_rfl) rfl #[.agg (nr_ ((rd_T34 l0 x5_1).f0.f0) ((rd_T34 l0 x5_1).f0.f1.f0) ((rd_T34 l0 x5_1).f0.f1.f1) ((rd_T34 l0 x5_1).f0.f1.f2) ((rd_T34 l0 x5_1).f0.f1.f3) ((rd_T34 l0 x5_1).f0.f1.f4) ((rd_T34 l0 x5_1).f0.f1.f5) ((rd_T34 l0 x5_1).f0.f1.f6) ((rd_T34 l0 x5_1).f0.f1.f7) ((rd_T34 l0 x5_1).f0.f1.f8) ((rd_T34 l0 x5_1).f0.f1.f9) ((rd_T34 l0 x5_1).f0.f1.f10) ((rd_T34 l0 x5_1).f0.f1.f11) ((rd_T34 l0 x5_1).f0.f1.f12) ((rd_T34 l0 x5_1).f0.f1.f13) ((rd_T34 l0 x5_1).f0.f1.f14) ((rd_T34 l0 x5_1).f0.f1.f15) ((rd_T34 l0 x5_1).f1)), .agg (ag_ Z0 Z1 Z2 Z3 Z4 Z5 Z6 Z7 Z8 Z9 Za Zb Zc Zd Ze Zf Zg)] (by rfl) rfl rfl lq_ ?_
      with_reducible refine (lanternref06_Has.calls k1 ((rd_T34 l0 x5_1).f0.f0) ((rd_T34 l0 x5_1).f0.f1.f0) ((rd_T34 l0 x5_1).f0.f1.f1) ((rd_T34 l0 x5_1).f0.f1.f2) ((rd_T34 l0 x5_1).f0.f1.f3) ((rd_T34 l0 x5_1).f0.f1.f4) ((rd_T34 l0 x5_1).f0.f1.f5) ((rd_T34 l0 x5_1).f0.f1.f6) ((rd_T34 l0 x5_1).f0.f1.f7) ((rd_T34 l0 x5_1).f0.f1.f8) ((rd_T34 l0 x5_1).f0.f1.f9) ((rd_T34 l0 x5_1).f0.f1.f10) ((rd_T34 l0 x5_1).f0.f1.f11) ((rd_T34 l0 x5_1).f0.f1.f12) ((rd_T34 l0 x5_1).f0.f1.f13) ((rd_T34 l0 x5_1).f0.f1.f14) ((rd_T34 l0 x5_1).f0.f1.f15) ((rd_T34 l0 x5_1).f1) Z0 Z1 Z2 Z3 Z4 Z5 Z6 Z7 Z8 Z9 Za Zb Zc Zd Ze Zf Zg true _ ?side1 A6.out).mono ?_
      (case side1 => exact lg_)
      rintro e w9 ⟨rfl, hb⟩
      refine ⟨_, rfl, ?_⟩
      replace BK159 := Aside0.mk (bb_ BK159 hb)
      replace HB := Aside0.mk (below_step bg_ hb)
      (try clear hb)
      (try clear hb2)
      (try clear hk)
      (try clear hi)
      refine hK.out _ _ ⟨(run_load_box BK159.out 24 [] (al_ Z0 Z1 Z2 Z3 Z4 Z5 Z6 Z7 Z8 Z9 Za Zb Zc Zd Ze Zf Zg) [] rfl 0 rfl Tryd.underlying24 rfl (by kernel_rfl)), (row_T34 (Kd.C_below HR0.out HB.out) x5_1 p160 q160)⟩ (fun hHeld => ?_)
      clear hK K
      refine norm_ (a' := ?_) ?_ ?_
      rotate_left
      ·show Act.put _ (some 17) _ = _
       simp only [Act.put, sa_, s0_, s1_, i64_w, i32_w]
       rfl
      refine done_ (by kernel_rfl) ?_
      try go_wp2
      go_ret
      exact ⟨rq_, bg_⟩
     ·replace c7 := Bool.eq_false_iff.mpr c7
      subst c7
      replace H := ifF_ H
      have H' := Aside0.mk H
      clear H
      try go_wp2
      replace BK159 := Aside0.mk (blk_drew BK159.out)
      replace HB := Aside0.mk (below_drew1 HB.out)
      have p160 : 0 ≤ (x5_1 : Int) := of_decide_eq_true as_
      have q160 : x5_1 < (l0.length : Int) := of_decide_eq_true as_
      obtain ⟨ad160, e160, hx160_0, hx160_1, hx160_2, hx160_3, hx160_4, hx160_5, hx160_6, hx160_7, hx160_8, hx160_9, hx160_10, hx160_11, hx160_12, hx160_13, hx160_14, hx160_15, hx160_16, hx160_17⟩ := at_T34 HR0.out x5_1 p160 q160
      clear hx160_0 hx160_1 hx160_2 hx160_3 hx160_4 hx160_5 hx160_6 hx160_7 hx160_8 hx160_9 hx160_10 hx160_11 hx160_12 hx160_13 hx160_14 hx160_15 hx160_16 hx160_17
      cases e160
      replace p160 := eq_true p160
      replace q160 := eq_true q160
      refine start_ (n := 6) (S := fun w' => (Instr.loadAt 24 (.pointer (some ⟨gb159, 0, none⟩))).run Tryd.prog w' = .ok (.agg (ag_ Z0 Z1 Z2 Z3 Z4 Z5 Z6 Z7 Z8 Z9 Za Zb Zc Zd Ze Zf Zg)) w' ∧ (Instr.loadAt 34 (.pointer (some (ad160.add ((x5_1).toNat * 18))))).run Tryd.prog w' = .ok (.agg (nr_ ((rd_T34 l0 x5_1).f0.f0) ((rd_T34 l0 x5_1).f0.f1.f0) ((rd_T34 l0 x5_1).f0.f1.f1) ((rd_T34 l0 x5_1).f0.f1.f2) ((rd_T34 l0 x5_1).f0.f1.f3) ((rd_T34 l0 x5_1).f0.f1.f4) ((rd_T34 l0 x5_1).f0.f1.f5) ((rd_T34 l0 x5_1).f0.f1.f6) ((rd_T34 l0 x5_1).f0.f1.f7) ((rd_T34 l0 x5_1).f0.f1.f8) ((rd_T34 l0 x5_1).f0.f1.f9) ((rd_T34 l0 x5_1).f0.f1.f10) ((rd_T34 l0 x5_1).f0.f1.f11) ((rd_T34 l0 x5_1).f0.f1.f12) ((rd_T34 l0 x5_1).f0.f1.f13) ((rd_T34 l0 x5_1).f0.f1.f14) ((rd_T34 l0 x5_1).f0.f1.f15) ((rd_T34 l0 x5_1).f1))) w') (ds := []) (bv_ 0 6) (by kernel_rfl) rfl rfl ⟨(run_load_box BK159.out 24 [] (al_ Z0 Z1 Z2 Z3 Z4 Z5 Z6 Z7 Z8 Z9 Za Zb Zc Zd Ze Zf Zg) [] rfl 0 rfl Tryd.underlying24 rfl (by kernel_rfl)), (row_T34 (Kd.C_below HR0.out HB.out) x5_1 p160 q160)⟩ (fun hHeld => ?_)
      generalize wr.drew = w10 at BK159 HB hHeld ⊢
      refine pure_ (i := 0) (N := some 12) (v := ?_) (a' := ?_) (bv_ 1 5) rfl rfl (by kernel_rfl) (fun _ _ _ h => h) (Or.inl ⟨by rfl, ?_⟩) ?_ ?_
      rotate_left
      ·intro w'
       go_simp
       with_reducible rfl
      rotate_left
      ·simp only [Act.put, sa_, s0_, s1_, i64_w, i32_w]
       rfl
      refine pure_ (i := 1) (N := some 13) (v := ?_) (a' := ?_) (bv_ 2 4) rfl rfl (by kernel_rfl) (fun _ _ _ h => h) (Or.inl ⟨by rfl, ?_⟩) ?_ ?_
      rotate_left
      ·intro w'
       go_simp
       with_reducible rfl
      rotate_left
      ·simp only [Act.put, sa_, s0_, s1_, i64_w, i32_w]
       rfl
      refine pure_ (i := 2) (N := some 14) (v := ?_) (a' := ?_) (bv_ 3 3) rfl rfl (by kernel_rfl) (fun _ _ _ h => h) (Or.inl ⟨by rfl, ?_⟩) ?_ ?_
      rotate_left
      ·intro w'
       go_simp
       with_reducible rfl
      rotate_left
      ·simp only [Act.put, sa_, s0_, s1_, i64_w, i32_w]
       rfl
      refine take_ (i := 3) (N := some 15) (v := ?_) (a' := ?_) (bv_ 4 2) rfl rfl (by kernel_rfl) (fun _ _ _ h => h) (Or.inl ⟨by rfl, ?_⟩) hHeld ?_ ?_
      rotate_left
      ·rintro w' ⟨s0, s1⟩
       refine (load_exec rfl rfl s1).trans ?_; with_reducible rfl
      rotate_left
      ·simp only [Act.put, sa_, s0_, s1_, i64_w, i32_w]
       rfl
      refine take_ (i := 4) (N := some 16) (v := ?_) (a' := ?_) (bv_ 5 1) rfl rfl (by kernel_rfl) (fun _ _ _ h => h) (Or.inl ⟨by rfl, ?_⟩) hHeld ?_ ?_
      rotate_left
      ·rintro w' ⟨s0, s1⟩
       refine (load_exec rfl rfl s0).trans ?_; with_reducible rfl
      rotate_left
      ·simp only [Act.put, sa_, s0_, s1_, i64_w, i32_w]
       rfl
      refine one_ (i := 5) (N := some 17) (bv_ 6 0) rfl rfl (by kernel_rfl) (by decide) (fun K hK => ?_)
      refine goes_ Tryd.func16 (by kernel_rfl) rfl #[.agg (nr_ ((rd_T34 l0 x5_1).f0.f0) ((rd_T34 l0 x5_1).f0.f1.f0) ((rd_T34 l0 x5_1).f0.f1.f1) ((rd_T34 l0 x5_1).f0.f1.f2) ((rd_T34 l0 x5_1).f0.f1.f3) ((rd_T34 l0 x5_1).f0.f1.f4) ((rd_T34 l0 x5_1).f0.f1.f5) ((rd_T34 l0 x5_1).f0.f1.f6) ((rd_T34 l0 x5_1).f0.f1.f7) ((rd_T34 l0 x5_1).f0.f1.f8) ((rd_T34 l0 x5_1).f0.f1.f9) ((rd_T34 l0 x5_1).f0.f1.f10) ((rd_T34 l0 x5_1).f0.f1.f11) ((rd_T34 l0 x5_1).f0.f1.f12) ((rd_T34 l0 x5_1).f0.f1.f13) ((rd_T34 l0 x5_1).f0.f1.f14) ((rd_T34 l0 x5_1).f0.f1.f15) ((rd_T34 l0 x5_1).f1)), .agg (ag_ Z0 Z1 Z2 Z3 Z4 Z5 Z6 Z7 Z8 Z9 Za Zb Zc Zd Ze Zf Zg)] (by rfl) rfl rfl lq_ ?_
      with_reducible refine (lanternref06_Has.calls k1 ((rd_T34 l0 x5_1).f0.f0) ((rd_T34 l0 x5_1).f0.f1.f0) ((rd_T34 l0 x5_1).f0.f1.f1) ((rd_T34 l0 x5_1).f0.f1.f2) ((rd_T34 l0 x5_1).f0.f1.f3) ((rd_T34 l0 x5_1).f0.f1.f4) ((rd_T34 l0 x5_1).f0.f1.f5) ((rd_T34 l0 x5_1).f0.f1.f6) ((rd_T34 l0 x5_1).f0.f1.f7) ((rd_T34 l0 x5_1).f0.f1.f8) ((rd_T34 l0 x5_1).f0.f1.f9) ((rd_T34 l0 x5_1).f0.f1.f10) ((rd_T34 l0 x5_1).f0.f1.f11) ((rd_T34 l0 x5_1).f0.f1.f12) ((rd_T34 l0 x5_1).f0.f1.f13) ((rd_T34 l0 x5_1).f0.f1.f14) ((rd_T34 l0 x5_1).f0.f1.f15) ((rd_T34 l0 x5_1).f1) Z0 Z1 Z2 Z3 Z4 Z5 Z6 Z7 Z8 Z9 Za Zb Zc Zd Ze Zf Zg false _ ?side1 A6.out).mono ?_
      (case side1 => exact lg_)
      rintro e w11 ⟨rfl, hb⟩
      refine ⟨_, rfl, ?_⟩
      replace BK159 := Aside0.mk (bb_ BK159 hb)
      replace HB := Aside0.mk (below_step bg_ hb)
      (try clear hb)
      (try clear hb2)
      (try clear hk)
      (try clear hi)
      refine hK.out _ _ ⟨(run_load_box BK159.out 24 [] (al_ Z0 Z1 Z2 Z3 Z4 Z5 Z6 Z7 Z8 Z9 Za Zb Zc Zd Ze Zf Zg) [] rfl 0 rfl Tryd.underlying24 rfl (by kernel_rfl)), (row_T34 (Kd.C_below HR0.out HB.out) x5_1 p160 q160)⟩ (fun hHeld => ?_)
      clear hK K
      refine norm_ (a' := ?_) ?_ ?_
      rotate_left
      ·show Act.put _ (some 17) _ = _
       simp only [Act.put, sa_, s0_, s1_, i64_w, i32_w]
       rfl
      refine done_ (by kernel_rfl) ?_
      try go_wp2
      go_roundg k1
      case measure => have := HK1.out; omega
      case rel => exact ⟨(wrap64 (x5_1 + 1)), sq_, H', ⟨by have := HK1.out; omega⟩, ⟨bk_⟩, ⟨bg_⟩⟩
    ·rw [if_neg c5] at H
     exact absurd H (by simp)
   ·rw [if_neg c4] at H
    have c4b0 := decide_eq_false c4
    clear c4
    obtain rfl := Option.some.inj H
    go_wp2
    go_ret
    exact ⟨rq_, bg_⟩

end Go.Proofs.YtdopafhppaalfaaDoor.K
