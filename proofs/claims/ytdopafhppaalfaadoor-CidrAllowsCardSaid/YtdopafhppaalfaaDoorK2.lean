-- Written by a program of this session (wip/gen/lprint.py over the kit's print.py) out of the translation. Lean checks it.
import Derived.Test.YtdopafhppaalfaaDoorK0
import Derived.Test.YtdopafhppaalfaaDoorZ
namespace Go.Proofs.YtdopafhppaalfaaDoor.K
open Go.Proofs.YtdopafhppaalfaaDoorZ
open Go.Proofs.YtdopafhppaalfaaDoor.E Go.Proofs.YtdopafhppaalfaaDoorV
open Go.Proofs.YtdopafhppaalfaaDoor.P
open Go.Proofs.YtdopafhppaalfaaDoor.G
open Go.Proofs.YtdopafhppaalfaaDoor.L
open Go.RowKit Go.Proofs.YtdopafhppaalfaaDoorW.PrintWords Go.Proofs.YtdopafhppaalfaaDoorW.PrintLast Go.Proofs.YtdopafhppaalfaaDoorW.PrintMore
attribute [local go_sem] max2_int min2_int max_two min_two max_three min_three max_four min_four   -- for this text's walks alone
set_option linter.unusedVariables false
set_option linter.unusedSimpArgs false

mutual
def lanternref06_Forbidden.l0 : Nat → List (S34) → List (S52) → Int → Option ((List (S34)))
 | 0, _, _, _ => none
 | k + 1, x1, x2, x3 => if x3 < (x2.length : Int) then (if 0 ≤ x3 then ((lanternref05_V4.f k (IntKind.u64.wrap ((rd_T52 x2 x3).f0))).bind fun bt108 => (if x1.length < 4398046511104 then (lanternref06_Forbidden.l0 k (x1 ++ [(⟨(⟨bt108.1, (⟨bt108.2.1, bt108.2.2.1, bt108.2.2.2.1, bt108.2.2.2.2.1, bt108.2.2.2.2.2.1, bt108.2.2.2.2.2.2.1, bt108.2.2.2.2.2.2.2.1, bt108.2.2.2.2.2.2.2.2.1, bt108.2.2.2.2.2.2.2.2.2.1, bt108.2.2.2.2.2.2.2.2.2.2.1, bt108.2.2.2.2.2.2.2.2.2.2.2.1, bt108.2.2.2.2.2.2.2.2.2.2.2.2.1, bt108.2.2.2.2.2.2.2.2.2.2.2.2.2.1, bt108.2.2.2.2.2.2.2.2.2.2.2.2.2.2.1, bt108.2.2.2.2.2.2.2.2.2.2.2.2.2.2.2.1, bt108.2.2.2.2.2.2.2.2.2.2.2.2.2.2.2.2⟩ : S22)⟩ : S24), (rd_T52 x2 x3).f1⟩ : S34)]) x2 (wrap64 (x3 + 1))) else (none))) else (none)) else (lanternref06_Forbidden.l1 k x1 (([(⟨0, 0, 0, 0, 128⟩ : S56), (⟨0, 0, 0, 1, 128⟩ : S56), (⟨100, 65435, 1, 0, 48⟩ : S56), (⟨256, 0, 0, 0, 64⟩ : S56), (⟨8193, 0, 0, 0, 23⟩ : S56), (⟨8193, 3512, 0, 0, 32⟩ : S56), (⟨16383, 0, 0, 0, 20⟩ : S56), (⟨24320, 0, 0, 0, 16⟩ : S56), (⟨64512, 0, 0, 0, 7⟩ : S56), (⟨65152, 0, 0, 0, 10⟩ : S56), (⟨65280, 0, 0, 0, 8⟩ : S56)] : List (S56))) 0)
def lanternref06_Forbidden.l1 : Nat → List (S34) → List (S56) → Int → Option ((List (S34)))
 | 0, _, _, _ => none
 | k + 1, x1, x4, x5 => if x5 < (x4.length : Int) then (if 0 ≤ x5 then (lanternref06_Forbidden.l2 k x1 x4 x5 0 true 0 0 0 0 0 0 0 0 0 0 0 0 0 0 0 0 ((rd_T56 x4 x5).f4)) else (none)) else (some x1)
def lanternref06_Forbidden.l2 : Nat → List (S34) → List (S56) → Int → Int → Bool → Int → Int → Int → Int → Int → Int → Int → Int → Int → Int → Int → Int → Int → Int → Int → Int → Int → Option ((List (S34)))
 | 0, _, _, _, _, _, _, _, _, _, _, _, _, _, _, _, _, _, _, _, _, _, _ => none
 | k + 1, x1, x4, x5, x7, x134000, x134001, x134002, x134003, x134004, x134005, x134006, x134007, x134008, x134009, x134010, x134011, x134012, x134013, x134014, x134015, x134016, x134017 => if x7 < 3 then (if 0 ≤ x5 then (if x5 < (x4.length : Int) then (if 0 ≤ x7 then (if x7 < 5 then (if 0 ≤ (wrap64 (2 * x7)) then (if (wrap64 (2 * x7)) < 16 then (if 0 ≤ (wrap64 ((wrap64 (2 * x7)) + 1)) then (if (wrap64 ((wrap64 (2 * x7)) + 1)) < 16 then (lanternref06_Forbidden.l2 k x1 x4 x5 (wrap64 (x7 + 1)) x134000 (upd (wrap64 ((wrap64 (2 * x7)) + 1)) 0 (lo_ x4 x5 x7) (upd (wrap64 (2 * x7)) 0 (hi_ x4 x5 x7) x134001)) (upd (wrap64 ((wrap64 (2 * x7)) + 1)) 1 (lo_ x4 x5 x7) (upd (wrap64 (2 * x7)) 1 (hi_ x4 x5 x7) x134002)) (upd (wrap64 ((wrap64 (2 * x7)) + 1)) 2 (lo_ x4 x5 x7) (upd (wrap64 (2 * x7)) 2 (hi_ x4 x5 x7) x134003)) (upd (wrap64 ((wrap64 (2 * x7)) + 1)) 3 (lo_ x4 x5 x7) (upd (wrap64 (2 * x7)) 3 (hi_ x4 x5 x7) x134004)) (upd (wrap64 ((wrap64 (2 * x7)) + 1)) 4 (lo_ x4 x5 x7) (upd (wrap64 (2 * x7)) 4 (hi_ x4 x5 x7) x134005)) (upd (wrap64 ((wrap64 (2 * x7)) + 1)) 5 (lo_ x4 x5 x7) (upd (wrap64 (2 * x7)) 5 (hi_ x4 x5 x7) x134006)) (upd (wrap64 ((wrap64 (2 * x7)) + 1)) 6 (lo_ x4 x5 x7) (upd (wrap64 (2 * x7)) 6 (hi_ x4 x5 x7) x134007)) (upd (wrap64 ((wrap64 (2 * x7)) + 1)) 7 (lo_ x4 x5 x7) (upd (wrap64 (2 * x7)) 7 (hi_ x4 x5 x7) x134008)) (upd (wrap64 ((wrap64 (2 * x7)) + 1)) 8 (lo_ x4 x5 x7) (upd (wrap64 (2 * x7)) 8 (hi_ x4 x5 x7) x134009)) (upd (wrap64 ((wrap64 (2 * x7)) + 1)) 9 (lo_ x4 x5 x7) (upd (wrap64 (2 * x7)) 9 (hi_ x4 x5 x7) x134010)) (upd (wrap64 ((wrap64 (2 * x7)) + 1)) 10 (lo_ x4 x5 x7) (upd (wrap64 (2 * x7)) 10 (hi_ x4 x5 x7) x134011)) (upd (wrap64 ((wrap64 (2 * x7)) + 1)) 11 (lo_ x4 x5 x7) (upd (wrap64 (2 * x7)) 11 (hi_ x4 x5 x7) x134012)) (upd (wrap64 ((wrap64 (2 * x7)) + 1)) 12 (lo_ x4 x5 x7) (upd (wrap64 (2 * x7)) 12 (hi_ x4 x5 x7) x134013)) (upd (wrap64 ((wrap64 (2 * x7)) + 1)) 13 (lo_ x4 x5 x7) (upd (wrap64 (2 * x7)) 13 (hi_ x4 x5 x7) x134014)) (upd (wrap64 ((wrap64 (2 * x7)) + 1)) 14 (lo_ x4 x5 x7) (upd (wrap64 (2 * x7)) 14 (hi_ x4 x5 x7) x134015)) (upd (wrap64 ((wrap64 (2 * x7)) + 1)) 15 (lo_ x4 x5 x7) (upd (wrap64 (2 * x7)) 15 (hi_ x4 x5 x7) x134016)) x134017) else (none)) else (none)) else (none)) else (none)) else (none)) else (none)) else (none)) else (none)) else (if 0 ≤ x5 then (if x5 < (x4.length : Int) then (if x1.length < 4398046511104 then (lanternref06_Forbidden.l1 k (x1 ++ [(⟨(⟨x134000, (⟨x134001, x134002, x134003, x134004, x134005, x134006, x134007, x134008, x134009, x134010, x134011, x134012, x134013, x134014, x134015, ((rd_T56 x4 x5).f3) % 256⟩ : S22)⟩ : S24), x134017⟩ : S34)]) x4 (wrap64 (x5 + 1))) else (none)) else (none)) else (none))
end
def lanternref06_Forbidden.f (k : Nat)  : Option ((List (S34))) := lanternref06_Forbidden.l0 k (([] : List (S34))) (([(⟨0, 8⟩ : S52), (⟨167772160, 8⟩ : S52), (⟨1681915904, 10⟩ : S52), (⟨2130706432, 8⟩ : S52), (⟨2851995648, 16⟩ : S52), (⟨2886729728, 12⟩ : S52), (⟨3221225472, 24⟩ : S52), (⟨3221225984, 24⟩ : S52), (⟨3227017984, 24⟩ : S52), (⟨3232235520, 16⟩ : S52), (⟨3323068416, 15⟩ : S52), (⟨3325256704, 24⟩ : S52), (⟨3405803776, 24⟩ : S52), (⟨3758096384, 4⟩ : S52), (⟨4026531840, 4⟩ : S52)] : List (S52))) 0
theorem lanternref06_Forbidden.mono_l : ∀ k, (∀ y0 y1 y2, LeO (lanternref06_Forbidden.l0 k y0 y1 y2) (lanternref06_Forbidden.l0 (k + 1) y0 y1 y2)) ∧ (∀ y0 y1 y2, LeO (lanternref06_Forbidden.l1 k y0 y1 y2) (lanternref06_Forbidden.l1 (k + 1) y0 y1 y2)) ∧ (∀ y0 y1 y2 y3 y4 y5 y6 y7 y8 y9 y10 y11 y12 y13 y14 y15 y16 y17 y18 y19 y20 y21, LeO (lanternref06_Forbidden.l2 k y0 y1 y2 y3 y4 y5 y6 y7 y8 y9 y10 y11 y12 y13 y14 y15 y16 y17 y18 y19 y20 y21) (lanternref06_Forbidden.l2 (k + 1) y0 y1 y2 y3 y4 y5 y6 y7 y8 y9 y10 y11 y12 y13 y14 y15 y16 y17 y18 y19 y20 y21))
 | 0 => ⟨fun _ _ _ r h => by simp [lanternref06_Forbidden.l0] at h, fun _ _ _ r h => by simp [lanternref06_Forbidden.l1] at h, fun _ _ _ _ _ _ _ _ _ _ _ _ _ _ _ _ _ _ _ _ _ _ r h => by simp [lanternref06_Forbidden.l2] at h⟩
 | k + 1 => by
  obtain ⟨ih0, ih1, ih2⟩ := lanternref06_Forbidden.mono_l k
  refine ⟨?_, ?_, ?_⟩
  ·intro y0 y1 y2
   unfold lanternref06_Forbidden.l0
   repeat' first
   | (with_reducible exact ih0 _ _ _)
   | (with_reducible exact ih1 _ _ _)
   | (with_reducible exact ih2 _ _ _ _ _ _ _ _ _ _ _ _ _ _ _ _ _ _ _ _ _ _)
   | (with_reducible exact lanternref05_V4.mono _ _)
   | (with_reducible exact LeO.refl _)
   | (with_reducible exact LeO.none _)
   | (with_reducible refine LeO.ite ?_ ?_)
   | (with_reducible refine LeO.bind ?_ (fun _ => ?_))
   | exact ih0 _ _ _
   | exact ih1 _ _ _
   | exact ih2 _ _ _ _ _ _ _ _ _ _ _ _ _ _ _ _ _ _ _ _ _ _
   | exact lanternref05_V4.mono _ _
   | exact LeO.none _
   | refine LeO.ite ?_ ?_
   | refine LeO.bind ?_ (fun _ => ?_)
  ·intro y0 y1 y2
   unfold lanternref06_Forbidden.l1
   repeat' first
   | (with_reducible exact ih0 _ _ _)
   | (with_reducible exact ih1 _ _ _)
   | (with_reducible exact ih2 _ _ _ _ _ _ _ _ _ _ _ _ _ _ _ _ _ _ _ _ _ _)
   | (with_reducible exact lanternref05_V4.mono _ _)
   | (with_reducible exact LeO.refl _)
   | (with_reducible exact LeO.none _)
   | (with_reducible refine LeO.ite ?_ ?_)
   | (with_reducible refine LeO.bind ?_ (fun _ => ?_))
   | exact ih0 _ _ _
   | exact ih1 _ _ _
   | exact ih2 _ _ _ _ _ _ _ _ _ _ _ _ _ _ _ _ _ _ _ _ _ _
   | exact lanternref05_V4.mono _ _
   | exact LeO.none _
   | refine LeO.ite ?_ ?_
   | refine LeO.bind ?_ (fun _ => ?_)
  ·intro y0 y1 y2 y3 y4 y5 y6 y7 y8 y9 y10 y11 y12 y13 y14 y15 y16 y17 y18 y19 y20 y21
   unfold lanternref06_Forbidden.l2
   repeat' first
   | (with_reducible exact ih0 _ _ _)
   | (with_reducible exact ih1 _ _ _)
   | (with_reducible exact ih2 _ _ _ _ _ _ _ _ _ _ _ _ _ _ _ _ _ _ _ _ _ _)
   | (with_reducible exact lanternref05_V4.mono _ _)
   | (with_reducible exact LeO.refl _)
   | (with_reducible exact LeO.none _)
   | (with_reducible refine LeO.ite ?_ ?_)
   | (with_reducible refine LeO.bind ?_ (fun _ => ?_))
   | exact ih0 _ _ _
   | exact ih1 _ _ _
   | exact ih2 _ _ _ _ _ _ _ _ _ _ _ _ _ _ _ _ _ _ _ _ _ _
   | exact lanternref05_V4.mono _ _
   | exact LeO.none _
   | refine LeO.ite ?_ ?_
   | refine LeO.bind ?_ (fun _ => ?_)
theorem lanternref06_Forbidden.mono : ∀ k, LeO (lanternref06_Forbidden.f k ) (lanternref06_Forbidden.f (k + 1) ) := by
 intro  k
 obtain ⟨ih0, ih1, ih2⟩ := lanternref06_Forbidden.mono_l k
 unfold lanternref06_Forbidden.f
 repeat' first
   | (with_reducible exact ih0 _ _ _)
   | (with_reducible exact ih1 _ _ _)
   | (with_reducible exact ih2 _ _ _ _ _ _ _ _ _ _ _ _ _ _ _ _ _ _ _ _ _ _)
   | (with_reducible exact lanternref05_V4.mono _ _)
   | (with_reducible exact LeO.refl _)
   | (with_reducible exact LeO.none _)
   | (with_reducible refine LeO.ite ?_ ?_)
   | (with_reducible refine LeO.bind ?_ (fun _ => ?_))
   | exact ih0 _ _ _
   | exact ih1 _ _ _
   | exact ih2 _ _ _ _ _ _ _ _ _ _ _ _ _ _ _ _ _ _ _ _ _ _
   | exact lanternref05_V4.mono _ _
   | exact LeO.none _
   | refine LeO.ite ?_ ?_
   | refine LeO.bind ?_ (fun _ => ?_)
def lanternref06_Forbidden.T6 : Bool × List (List Nat × List Nat) := (true, [([], []), ([], []), ([], []), ([1, 2], [1, 2]), ([3], [3]), ([4], [4]), ([5], [5]), ([6], [6]), ([], []), ([], []), ([8, 9], [8, 9]), ([10], [10]), ([11], [11]), ([7, 12], [7, 12]), ([13], [13]), ([0, 14, 7], [0, 14]), ([15, 15, 0, 1, 2, 3, 4, 5, 6, 7, 8, 9, 10, 11, 12, 13, 14, 15], [0, 15])])
def lanternref06_Forbidden.B6 : List Nat := [0, 0, 0, 6, 14, 30, 62, 126, 0, 0, 768, 1792, 3840, 8190, 16382, 32767, 65535]
theorem lanternref06_Forbidden.tab6 : rtab .any (opsOf Tryd.f11 6) = lanternref06_Forbidden.T6 := by kernel_rfl
theorem lanternref06_Forbidden.bits6 : waitsOk lanternref06_Forbidden.T6.2 lanternref06_Forbidden.B6 = true := by kernel_rfl
set_option maxHeartbeats 8000000 in
set_option maxRecDepth 100000 in
theorem lanternref06_Forbidden.calls (k : Nat)  (r : List (S34)) (w : World) (hLW : LW w) (h : lanternref06_Forbidden.f k  = some r) :
  Calls Tryd.prog 11 #[] w fun e w' => ∃ v0_ : Value, e = .returned (v0_) ∧ Kd.R k34 34 w' w.heap.size (fun _ => True) v0_ r ∧ Below w.heap.size w w' := by
 have hu52 := Tryd.underlying52
 have hu34 := Tryd.underlying34
 have hu56 := Tryd.underlying56
 have hu24 := Tryd.underlying24
 have HLW := Aside0.mk hLW
 clear hLW
 have HB := Aside0.mk (Below.refl w.heap.size w)
 have H := h
 unfold lanternref06_Forbidden.f at H
 clear h
 obtain ⟨y101, hy101⟩ : ∃ y_ : List (S34), y_ = (([] : List (S34))) := ⟨_, rfl⟩
 replace H : (lanternref06_Forbidden.l0 k y101 (([(⟨0, 8⟩ : S52), (⟨167772160, 8⟩ : S52), (⟨1681915904, 10⟩ : S52), (⟨2130706432, 8⟩ : S52), (⟨2851995648, 16⟩ : S52), (⟨2886729728, 12⟩ : S52), (⟨3221225472, 24⟩ : S52), (⟨3221225984, 24⟩ : S52), (⟨3227017984, 24⟩ : S52), (⟨3232235520, 16⟩ : S52), (⟨3323068416, 15⟩ : S52), (⟨3325256704, 24⟩ : S52), (⟨3405803776, 24⟩ : S52), (⟨3758096384, 4⟩ : S52), (⟨4026531840, 4⟩ : S52)] : List (S52))) 0) = some r := by first | (rw [hy101]; with_reducible exact H) | (have H2_ := (Option.bind_some _ _).symm.trans H; rw [hy101]; with_reducible exact H2_) | (have H2_ := (Option.bind_some _ _).symm.trans H; with_reducible exact H2_) | with_reducible exact H | (rw [hy101]; exact H) | exact H
 have Ny101 := Aside0.mk hy101
 clear hy101
 obtain ⟨y104, hy104⟩ : ∃ y_ : List (S52), y_ = (([(⟨0, 8⟩ : S52), (⟨167772160, 8⟩ : S52), (⟨1681915904, 10⟩ : S52), (⟨2130706432, 8⟩ : S52), (⟨2851995648, 16⟩ : S52), (⟨2886729728, 12⟩ : S52), (⟨3221225472, 24⟩ : S52), (⟨3221225984, 24⟩ : S52), (⟨3227017984, 24⟩ : S52), (⟨3232235520, 16⟩ : S52), (⟨3323068416, 15⟩ : S52), (⟨3325256704, 24⟩ : S52), (⟨3405803776, 24⟩ : S52), (⟨3758096384, 4⟩ : S52), (⟨4026531840, 4⟩ : S52)] : List (S52))) := ⟨_, rfl⟩
 replace H : (lanternref06_Forbidden.l0 k y101 y104 0) = some r := by first | (rw [hy104]; with_reducible exact H) | (have H2_ := (Option.bind_some _ _).symm.trans H; rw [hy104]; with_reducible exact H2_) | (have H2_ := (Option.bind_some _ _).symm.trans H; with_reducible exact H2_) | with_reducible exact H | (rw [hy104]; exact H) | exact H
 have Ny104 := Aside0.mk hy104
 clear hy104
 have H' := Aside0.mk H
 clear H
 go_enter Tryd.func11, Tryd.ntmps11
 go_wp2_with (first | ((with_reducible refine gate_dst (N := 8) rfl ?_); refine Kd.R_lit k34 _ 34 ?hg (N := 8) ?hd (xs := ([] : List (S34))) (inner := []) (ok := fun _ => True) (okp := fun _ => True) ?hr ?hp (fun _ hk => hk) trivial (Below.refl _ _) (Nat.le_refl _) (by simp) ?_; (case hd => rfl); (case hg => rfl); (case hr => first | (go_simp; done) | (go_simp; rfl)); (case hp => exact (Reps.none _ _)); intro v102 w1 ho2 hb hg_ hnew_; clear hg_ hnew_; (first | rw [← Ny101.out] at ho2 | (simp only [Int.reduceToNat] at ho2; rw [← Ny101.out] at ho2)); have HO103 := Aside0.mk (Kd.R_lower ho2 (below_size bq_)); replace HB := Aside0.mk (below_step bq_ hb); clear hb ho2) | ((with_reducible refine gate_dst (N := 24) rfl ?_); refine Kd.R_lit k52 _ 52 ?hg (N := 24) ?hd (xs := ([(⟨0, 8⟩ : S52), (⟨167772160, 8⟩ : S52), (⟨1681915904, 10⟩ : S52), (⟨2130706432, 8⟩ : S52), (⟨2851995648, 16⟩ : S52), (⟨2886729728, 12⟩ : S52), (⟨3221225472, 24⟩ : S52), (⟨3221225984, 24⟩ : S52), (⟨3227017984, 24⟩ : S52), (⟨3232235520, 16⟩ : S52), (⟨3323068416, 15⟩ : S52), (⟨3325256704, 24⟩ : S52), (⟨3405803776, 24⟩ : S52), (⟨3758096384, 4⟩ : S52), (⟨4026531840, 4⟩ : S52)] : List (S52))) (inner := [.int .i64 0, .int .i64 8, .int .i64 167772160, .int .i64 8, .int .i64 1681915904, .int .i64 10, .int .i64 2130706432, .int .i64 8, .int .i64 2851995648, .int .i64 16, .int .i64 2886729728, .int .i64 12, .int .i64 3221225472, .int .i64 24, .int .i64 3221225984, .int .i64 24, .int .i64 3227017984, .int .i64 24, .int .i64 3232235520, .int .i64 16, .int .i64 3323068416, .int .i64 15, .int .i64 3325256704, .int .i64 24, .int .i64 3405803776, .int .i64 24, .int .i64 3758096384, .int .i64 4, .int .i64 4026531840, .int .i64 4]) (ok := fun _ => True) (okp := fun _ => True) ?hr ?hp (fun _ hk => hk) trivial (Below.refl _ _) (Nat.le_refl _) (by simp) ?_; (case hd => rfl); (case hg => rfl); (case hr => first | (go_simp; done) | (go_simp; rfl)); (case hp => exact (Reps.c2 (show Kd.M k52 _ _ _ (⟨0, 8⟩ : S52) [.int .i64 0, .int .i64 8] from (k52_mkM _ _ _ (⟨0, 8⟩ : S52) )) (Reps.c2 (show Kd.M k52 _ _ _ (⟨167772160, 8⟩ : S52) [.int .i64 167772160, .int .i64 8] from (k52_mkM _ _ _ (⟨167772160, 8⟩ : S52) )) (Reps.c2 (show Kd.M k52 _ _ _ (⟨1681915904, 10⟩ : S52) [.int .i64 1681915904, .int .i64 10] from (k52_mkM _ _ _ (⟨1681915904, 10⟩ : S52) )) (Reps.c2 (show Kd.M k52 _ _ _ (⟨2130706432, 8⟩ : S52) [.int .i64 2130706432, .int .i64 8] from (k52_mkM _ _ _ (⟨2130706432, 8⟩ : S52) )) (Reps.c2 (show Kd.M k52 _ _ _ (⟨2851995648, 16⟩ : S52) [.int .i64 2851995648, .int .i64 16] from (k52_mkM _ _ _ (⟨2851995648, 16⟩ : S52) )) (Reps.c2 (show Kd.M k52 _ _ _ (⟨2886729728, 12⟩ : S52) [.int .i64 2886729728, .int .i64 12] from (k52_mkM _ _ _ (⟨2886729728, 12⟩ : S52) )) (Reps.c2 (show Kd.M k52 _ _ _ (⟨3221225472, 24⟩ : S52) [.int .i64 3221225472, .int .i64 24] from (k52_mkM _ _ _ (⟨3221225472, 24⟩ : S52) )) (Reps.c2 (show Kd.M k52 _ _ _ (⟨3221225984, 24⟩ : S52) [.int .i64 3221225984, .int .i64 24] from (k52_mkM _ _ _ (⟨3221225984, 24⟩ : S52) )) (Reps.c2 (show Kd.M k52 _ _ _ (⟨3227017984, 24⟩ : S52) [.int .i64 3227017984, .int .i64 24] from (k52_mkM _ _ _ (⟨3227017984, 24⟩ : S52) )) (Reps.c2 (show Kd.M k52 _ _ _ (⟨3232235520, 16⟩ : S52) [.int .i64 3232235520, .int .i64 16] from (k52_mkM _ _ _ (⟨3232235520, 16⟩ : S52) )) (Reps.c2 (show Kd.M k52 _ _ _ (⟨3323068416, 15⟩ : S52) [.int .i64 3323068416, .int .i64 15] from (k52_mkM _ _ _ (⟨3323068416, 15⟩ : S52) )) (Reps.c2 (show Kd.M k52 _ _ _ (⟨3325256704, 24⟩ : S52) [.int .i64 3325256704, .int .i64 24] from (k52_mkM _ _ _ (⟨3325256704, 24⟩ : S52) )) (Reps.c2 (show Kd.M k52 _ _ _ (⟨3405803776, 24⟩ : S52) [.int .i64 3405803776, .int .i64 24] from (k52_mkM _ _ _ (⟨3405803776, 24⟩ : S52) )) (Reps.c2 (show Kd.M k52 _ _ _ (⟨3758096384, 4⟩ : S52) [.int .i64 3758096384, .int .i64 4] from (k52_mkM _ _ _ (⟨3758096384, 4⟩ : S52) )) (Reps.c2 (show Kd.M k52 _ _ _ (⟨4026531840, 4⟩ : S52) [.int .i64 4026531840, .int .i64 4] from (k52_mkM _ _ _ (⟨4026531840, 4⟩ : S52) )) (Reps.none _ _))))))))))))))))); intro v105 w3 ho4 hb hg_ hnew_; clear hg_ hnew_; (first | rw [← Ny104.out] at ho4 | (simp only [Int.reduceToNat] at ho4; rw [← Ny104.out] at ho4)); replace HO103 := Aside0.mk (Kd.R_below (by (with_reducible repeat (first | apply Kd.R_alloc | apply Kd.R_drewN | apply Kd.R_drew)); exact HO103.out) hb); have HO106 := Aside0.mk (Kd.R_lower ho4 (below_size bq_)); replace HB := Aside0.mk (below_step bq_ hb); clear hb ho4))
 go_loopg [1, 3] k (fun kq v1 v3 w' => ∃ (x1_1 : List (S34)) (x3_1 : Int), v3 = .int .i64 x3_1 ∧ Aside0 (lanternref06_Forbidden.l0 kq x1_1 y104 x3_1 = some r) ∧ Aside0 (kq ≤ k) ∧ Aside0 (Kd.R k34 34 w' w.heap.size (fun _ => True) v1 x1_1) ∧ Aside0 (Kd.R k52 52 w' w.heap.size (fun _ => True) v105 y104) ∧ Aside0 (Below w.heap.size w w'))
 case atStart => exact ⟨(y101), (0), sq_, H', ⟨Nat.le_refl _⟩, ⟨by (with_reducible repeat (first | apply Kd.R_alloc | apply Kd.R_drewN | apply Kd.R_drew)); exact HO103.out⟩, ⟨by (with_reducible repeat (first | apply Kd.R_alloc | apply Kd.R_drewN | apply Kd.R_drew)); exact HO106.out⟩, ⟨bq_⟩⟩
 case round =>
  clear H'
  try clear c1
  try clear c2
  try clear p2
  obtain ⟨x1_1, x3_1, rfl, HA, HK1, HO_1, HO_2, HB⟩ := hrel
  cases gk with
  | zero => exact absurd HA.out (by simp [lanternref06_Forbidden.l0])
  | succ k1 =>
   have H := HA.out
   clear HA
   simp only [lanternref06_Forbidden.l0] at H
   by_cases c5 : x3_1 < (y104.length : Int)
   ·rw [if_pos c5] at H
    have c5b0 := decide_eq_true c5
    clear c5
    by_cases c6 : 0 ≤ x3_1
    ·rw [if_pos c6] at H
     have c6b0 := decide_eq_true c6
     clear c6
     replace H := Option.bind_eq_some_iff.mp H
     obtain ⟨⟨t108, t109, t110, t111, t112, t113, t114, t115, t116, t117, t118, t119, t120, t121, t122, t123, t124⟩, A70, H⟩ := H
     (try dsimp only at H)
     have A7 := Aside0.mk A70
     clear A70
     by_cases c8 : x1_1.length < 4398046511104
     ·rw [if_pos c8] at H
      have LMc8 := Aside0.mk c8
      clear c8
      obtain ⟨y126, hy126⟩ : ∃ y_ : List (S34), y_ = (x1_1 ++ [(⟨(⟨t108, (⟨t109, t110, t111, t112, t113, t114, t115, t116, t117, t118, t119, t120, t121, t122, t123, t124⟩ : S22)⟩ : S24), (rd_T52 y104 x3_1).f1⟩ : S34)]) := ⟨_, rfl⟩
      replace H : (lanternref06_Forbidden.l0 k1 y126 y104 (wrap64 (x3_1 + 1))) = some r := by first | (rw [hy126]; with_reducible exact H) | (have H2_ := (Option.bind_some _ _).symm.trans H; rw [hy126]; with_reducible exact H2_) | (have H2_ := (Option.bind_some _ _).symm.trans H; with_reducible exact H2_) | with_reducible exact H | (rw [hy126]; exact H) | exact H
      have Ny126 := Aside0.mk hy126
      clear hy126
      have H' := Aside0.mk H
      clear H
      obtain ⟨Ao9, co9, eo9⟩ := Kd.R_slice HO_2.out
      subst eo9
      try go_wp2
      replace HO_1 := Aside0.mk (Kd.R_drew HO_1.out)
      replace HO_2 := Aside0.mk (Kd.R_drew HO_2.out)
      replace HB := Aside0.mk (below_drew1 HB.out)
      have p107 : 0 ≤ (x3_1 : Int) := of_decide_eq_true as_
      have q107 : x3_1 < (y104.length : Int) := of_decide_eq_true as_
      obtain ⟨ad107, e107, hx107_0, hx107_1⟩ := at_T52 (Kd.R_reads' HO_2.out).2.2 x3_1 p107 q107
      cases e107
      replace p107 := eq_true p107
      replace q107 := eq_true q107
      have p125 : 0 ≤ (x3_1 : Int) := of_decide_eq_true as_
      have q125 : x3_1 < (y104.length : Int) := of_decide_eq_true as_
      obtain ⟨ad125, e125, hx125_0, hx125_1⟩ := at_T52 (Kd.R_reads' HO_2.out).2.2 x3_1 p125 q125
      obtain rfl : ad107 = ad125 := (by injection e125)
      replace p125 := eq_true p125
      replace q125 := eq_true q125
      refine start_ (n := 17) (S := fun w' => w'.cell? (ad107.add ((x3_1).toNat * 2)) = some (.int .i64 ((rd_T52 y104 x3_1).f0)) ∧ w'.cell? ⟨(ad107.add ((x3_1).toNat * 2)).block, (ad107.add ((x3_1).toNat * 2)).off + 1, none⟩ = some (.int .i64 ((rd_T52 y104 x3_1).f1)) ∧ w'.cell? (ad107.add ((x3_1).toNat * 2)) = some (.int .i64 ((rd_T52 y104 x3_1).f0)) ∧ w'.cell? ⟨(ad107.add ((x3_1).toNat * 2)).block, (ad107.add ((x3_1).toNat * 2)).off + 1, none⟩ = some (.int .i64 ((rd_T52 y104 x3_1).f1))) (ds := [14, 15]) (bv_ 0 17) (by kernel_rfl) rfl rfl ⟨hx107_0, hx107_1, hx125_0, hx125_1⟩ (fun hHeld => ?_); refine with_tabW lanternref06_Forbidden.tab6 lanternref06_Forbidden.bits6 (fun HT_ HW_ => ?_)
      generalize wr.drew = w10 at HO_1 HO_2 HB hx107_0 hx107_1 hx125_0 hx125_1 hHeld ⊢
      refine pl_ 0 31 ?_ 1 16 HT_ ?_ ?_ ?_ ?_
      rotate_left
      ·intro w'
       go_simp
       with_reducible rfl
      rotate_left
      ·simp only [Act.put, sa_, s0_, s1_, i64_w, i32_w]
       rfl
      refine pl_ 1 32 ?_ 2 15 HT_ ?_ ?_ ?_ ?_
      rotate_left
      ·intro w'
       go_simp
       with_reducible rfl
      rotate_left
      ·simp only [Act.put, sa_, s0_, s1_, i64_w, i32_w]
       rfl
      refine pl_ 2 33 ?_ 3 14 HT_ ?_ ?_ ?_ ?_
      rotate_left
      ·intro w'
       go_simp
       with_reducible rfl
      rotate_left
      ·simp only [Act.put, sa_, s0_, s1_, i64_w, i32_w]
       rfl
      refine pl_ 3 34 ?_ 4 13 HT_ ?_ ?_ ?_ ?_
      rotate_left
      ·intro w'
       go_simp
       with_reducible rfl
      rotate_left
      ·simp only [Act.put, sa_, s0_, s1_, i64_w, i32_w]
       rfl
      refine pl_ 4 35 ?_ 5 12 HT_ ?_ ?_ ?_ ?_
      rotate_left
      ·intro w'
       go_simp
       with_reducible rfl
      rotate_left
      ·simp only [Act.put, sa_, s0_, s1_, i64_w, i32_w]
       rfl
      refine pure_ (i := 8) (N := some 39) (v := ?_) (a' := ?_) #[true, true, true, true, true, false, false, false, true, false, false, false, false, false, false, false, false] rfl rfl (any_of HT_.out (by kernel_rfl)) (fun _ _ _ h => h) (Or.inl ⟨by rfl, ?_⟩) ?_ ?_
      rotate_left
      ·intro w'
       go_simp
       with_reducible rfl
      rotate_left
      ·simp only [Act.put, sa_, s0_, s1_, i64_w, i32_w]
       rfl
      refine pure_ (i := 9) (N := some 40) (v := ?_) (a' := ?_) #[true, true, true, true, true, false, false, false, true, true, false, false, false, false, false, false, false] rfl rfl (any_of HT_.out (by kernel_rfl)) (fun _ _ _ h => h) (Or.inl ⟨by rfl, ?_⟩) ?_ ?_
      rotate_left
      ·intro w'
       go_simp
       with_reducible rfl
      rotate_left
      ·simp only [Act.put, sa_, s0_, s1_, i64_w, i32_w]
       rfl
      refine pure_ (i := 10) (N := some 41) (v := ?_) (a' := ?_) #[true, true, true, true, true, false, false, false, true, true, true, false, false, false, false, false, false] rfl rfl (any_of HT_.out (by kernel_rfl)) (fun _ _ _ h => h) (Or.inl ⟨by rfl, ?_⟩) ?_ ?_
      rotate_left
      ·intro w'
       go_simp
       with_reducible rfl
      rotate_left
      ·simp only [Act.put, sa_, s0_, s1_, i64_w, i32_w]
       rfl
      refine pure_ (i := 11) (N := some 42) (v := ?_) (a' := ?_) #[true, true, true, true, true, false, false, false, true, true, true, true, false, false, false, false, false] rfl rfl (any_of HT_.out (by kernel_rfl)) (fun _ _ _ h => h) (Or.inl ⟨by rfl, ?_⟩) ?_ ?_
      rotate_left
      ·intro w'
       go_simp
       with_reducible rfl
      rotate_left
      ·simp only [Act.put, sa_, s0_, s1_, i64_w, i32_w]
       rfl
      refine take_ (i := 5) (N := some 36) (v := ?_) (a' := ?_) #[true, true, true, true, true, true, false, false, true, true, true, true, false, false, false, false, false] rfl rfl (take_ofW HT_.out HW_.out (by kernel_rfl)) (fun _ _ _ h => h) (Or.inl ⟨by rfl, ?_⟩) hHeld ?_ ?_
      rotate_left
      ·rintro w' ⟨s0, s1, s2, s3⟩
       go_simp
       with_reducible rfl
      rotate_left
      ·simp only [Act.put, sa_, s0_, s1_, i64_w, i32_w]
       rfl
      refine pure_ (i := 6) (N := some 37) (v := ?_) (a' := ?_) #[true, true, true, true, true, true, true, false, true, true, true, true, false, false, false, false, false] rfl rfl (any_of HT_.out (by kernel_rfl)) (fun _ _ _ h => h) (Or.inl ⟨by rfl, ?_⟩) ?_ ?_
      rotate_left
      ·intro w'
       go_simp
       with_reducible rfl
      rotate_left
      ·simp only [Act.put, sa_, s0_, s1_, i64_w, i32_w]
       rfl
      refine take_ (i := 12) (N := some 43) (v := ?_) (a' := ?_) #[true, true, true, true, true, true, true, false, true, true, true, true, true, false, false, false, false] rfl rfl (take_ofW HT_.out HW_.out (by kernel_rfl)) (fun _ _ _ h => h) (Or.inl ⟨by rfl, ?_⟩) hHeld ?_ ?_
      rotate_left
      ·rintro w' ⟨s0, s1, s2, s3⟩
       go_simp
       with_reducible rfl
      rotate_left
      ·simp only [Act.put, sa_, s0_, s1_, i64_w, i32_w]
       rfl
      refine one_ (i := 7) (N := some 38) (bv_ 13 4) rfl rfl (one_of HT_.out (by kernel_rfl)) (by decide) (fun K hK => ?_)
      refine goes_ Tryd.func31 (by kernel_rfl) rfl #[.int .u64 (IntKind.u64.wrap ((rd_T52 y104 x3_1).f0))] (by rfl) rfl rfl lq_ ?_
      with_reducible refine (lanternref05_V4.calls k1 (IntKind.u64.wrap ((rd_T52 y104 x3_1).f0)) t108 t109 t110 t111 t112 t113 t114 t115 t116 t117 t118 t119 t120 t121 t122 t123 t124 _ ?side1 A7.out).mono ?_
      (case side1 => exact lw_)
      rintro e w11 ⟨rfl, hb⟩
      have HS0_ := (hb.cell (World.block_lt_of_cell? _ _ (hHeld.1))).trans (hHeld.1)
      have HS1_ := (hb.cell (World.block_lt_of_cell? _ _ (hHeld.2.1))).trans (hHeld.2.1)
      have HS2_ := (hb.cell (World.block_lt_of_cell? _ _ (hHeld.2.2.1))).trans (hHeld.2.2.1)
      have HS3_ := (hb.cell (World.block_lt_of_cell? _ _ (hHeld.2.2.2))).trans (hHeld.2.2.2)
      refine ⟨_, rfl, ?_⟩
      replace HO_1 := Aside0.mk (Kd.R_below (by (with_reducible repeat (first | apply Kd.R_alloc | apply Kd.R_drewN | apply Kd.R_drew)); exact HO_1.out) hb)
      replace HO_2 := Aside0.mk (Kd.R_below (by (with_reducible repeat (first | apply Kd.R_alloc | apply Kd.R_drewN | apply Kd.R_drew)); exact HO_2.out) hb)
      replace HB := Aside0.mk (below_step bq_ hb)
      (try clear hb)
      (try clear hb2)
      (try clear hk)
      (try clear hi)
      refine hK.out _ _ ⟨HS0_, HS1_, HS2_, HS3_⟩ (fun hHeld => ?_)
      clear hK K
      refine norm_ (a' := ?_) ?_ ?_
      rotate_left
      ·show Act.put _ (some 38) _ = _
       simp only [Act.put, sa_, s0_, s1_, i64_w, i32_w]
       rfl
      refine pl_ 13 44 ?_ 14 3 HT_ ?_ ?_ ?_ ?_
      rotate_left
      ·intro w'
       go_simp
       with_reducible rfl
      rotate_left
      ·simp only [Act.put, sa_, s0_, s1_, i64_w, i32_w]
       rfl
      refine last_ (i := 14) (N := some 45) (bv_ 15 2) rfl rfl (one_of HT_.out (by kernel_rfl)) (by decide) (fun K hK => ?_)
      refine value_ (w1 := ?_) (v := ?_) (by rfl) rfl ?_ ?_
      rotate_left 2
      ·go_simp
       constructor
       ·rfl
       ·rfl
      refine hK.out _ _ ?_
      clear hK K
      refine norm_ (a' := ?_) ?_ ?_
      rotate_left
      ·show Act.put _ (some 45) _ = _
       simp only [Act.put, sa_, s0_, s1_, i64_w, i32_w]
       rfl
      refine last_ (i := 15) (N := some 46) (bv_ 16 1) rfl rfl (one_of HT_.out (by kernel_rfl)) (by decide) (fun K hK => ?_)
      refine Kd.R_append_step k34 (w0 := w) w.heap.size (by rfl) (.tmp 31) (.tmp 45) 25 34 (.agg #[(.bool false), (.int .u8 0), (.int .u8 0), (.int .u8 0), (.int .u8 0), (.int .u8 0), (.int .u8 0), (.int .u8 0), (.int .u8 0), (.int .u8 0), (.int .u8 0), (.int .u8 0), (.int .u8 0), (.int .u8 0), (.int .u8 0), (.int .u8 0), (.int .u8 0), (.int .i64 0)]) 32 rfl Tryd.underlying25 info34 rfl (by decide) (by omega) u1 x1_1 (⟨(⟨t108, (⟨t109, t110, t111, t112, t113, t114, t115, t116, t117, t118, t119, t120, t121, t122, t123, t124⟩ : S22)⟩ : S24), (rd_T52 y104 x3_1).f1⟩ : S34) (nt_ t108 t109 t110 t111 t112 t113 t114 t115 t116 t117 t118 t119 t120 t121 t122 t123 t124 ((rd_T52 y104 x3_1).f1)) (fun _ => True) (fun _ => False) rfl rfl ?aP (fun _ hk => hk.elim) ?aF ?aO ?aB ?aS ?aL ?_
      (case aP => exact k34_mkM _ _ _ (⟨(⟨t108, (⟨t109, t110, t111, t112, t113, t114, t115, t116, t117, t118, t119, t120, t121, t122, t123, t124⟩ : S22)⟩ : S24), (rd_T52 y104 x3_1).f1⟩ : S34))
      (case aB => exact bq_)
      (case aF => exact (fun _ _ => trivial))
      (case aO => exact (by (with_reducible repeat (first | apply Kd.R_alloc | apply Kd.R_drewN | apply Kd.R_drew)); exact HO_1.out))
      (case aS => exact (below_size bq_))
      (case aL => have := LMc8.out; omega)
      intro v127 w12 ho hb hg hat
      rw [← Ny126.out] at ho
      replace HO_2 := Aside0.mk (Kd.R_over' (by (with_reducible repeat (first | apply Kd.R_alloc | apply Kd.R_drewN | apply Kd.R_drew)); exact HO_2.out) (Kd.R_typed (by (with_reducible repeat (first | apply Kd.R_alloc | apply Kd.R_drewN | apply Kd.R_drew)); exact HO_1.out)) (by decide) hg)
      have HO128 := Aside0.mk (ho)
      replace HB := Aside0.mk (hb)
      clear HO_1 ho hb hg hat
      refine hK.out _ _ ?_
      clear hK K
      refine norm_ (a' := ?_) ?_ ?_
      rotate_left
      ·show Act.put _ (some 46) _ = _
       simp only [Act.put, sa_, s0_, s1_, i64_w, i32_w]
       rfl
      refine pl_ 16 1 ?_ 17 0 HT_ ?_ ?_ ?_ ?_
      rotate_left
      ·intro w'
       go_simp
       with_reducible rfl
      rotate_left
      ·simp only [Act.put, sa_, s0_, s1_, i64_w, i32_w]
       rfl
      refine done_ (done_of HT_.out (by kernel_rfl)) ?_
      try go_wp2
      go_roundg k1
      case measure => have := HK1.out; omega
      case rel => exact ⟨(y126), (wrap64 (x3_1 + 1)), sq_, H', ⟨by have := HK1.out; omega⟩, ⟨by (with_reducible repeat (first | apply Kd.R_alloc | apply Kd.R_drewN | apply Kd.R_drew)); exact HO128.out⟩, ⟨by (with_reducible repeat (first | apply Kd.R_alloc | apply Kd.R_drewN | apply Kd.R_drew)); exact HO_2.out⟩, ⟨bq_⟩⟩
     ·rw [if_neg c8] at H
      exact absurd H (by simp)
    ·rw [if_neg c6] at H
     exact absurd H (by simp)
   ·rw [if_neg c5] at H
    have c5b0 := decide_eq_false c5
    clear c5
    obtain ⟨y129, hy129⟩ : ∃ y_ : List (S56), y_ = (([(⟨0, 0, 0, 0, 128⟩ : S56), (⟨0, 0, 0, 1, 128⟩ : S56), (⟨100, 65435, 1, 0, 48⟩ : S56), (⟨256, 0, 0, 0, 64⟩ : S56), (⟨8193, 0, 0, 0, 23⟩ : S56), (⟨8193, 3512, 0, 0, 32⟩ : S56), (⟨16383, 0, 0, 0, 20⟩ : S56), (⟨24320, 0, 0, 0, 16⟩ : S56), (⟨64512, 0, 0, 0, 7⟩ : S56), (⟨65152, 0, 0, 0, 10⟩ : S56), (⟨65280, 0, 0, 0, 8⟩ : S56)] : List (S56))) := ⟨_, rfl⟩
    replace H : (lanternref06_Forbidden.l1 k1 x1_1 y129 0) = some r := by first | (rw [hy129]; with_reducible exact H) | (have H2_ := (Option.bind_some _ _).symm.trans H; rw [hy129]; with_reducible exact H2_) | (have H2_ := (Option.bind_some _ _).symm.trans H; with_reducible exact H2_) | with_reducible exact H | (rw [hy129]; exact H) | exact H
    have Ny129 := Aside0.mk hy129
    clear hy129
    have H' := Aside0.mk H
    clear H
    obtain ⟨Ao13, co13, eo13⟩ := Kd.R_slice HO_2.out
    subst eo13
    go_wp2_with (first | ((with_reducible refine gate_dst (N := 58) rfl ?_); refine Kd.R_lit k56 _ 56 ?hg (N := 58) ?hd (xs := ([(⟨0, 0, 0, 0, 128⟩ : S56), (⟨0, 0, 0, 1, 128⟩ : S56), (⟨100, 65435, 1, 0, 48⟩ : S56), (⟨256, 0, 0, 0, 64⟩ : S56), (⟨8193, 0, 0, 0, 23⟩ : S56), (⟨8193, 3512, 0, 0, 32⟩ : S56), (⟨16383, 0, 0, 0, 20⟩ : S56), (⟨24320, 0, 0, 0, 16⟩ : S56), (⟨64512, 0, 0, 0, 7⟩ : S56), (⟨65152, 0, 0, 0, 10⟩ : S56), (⟨65280, 0, 0, 0, 8⟩ : S56)] : List (S56))) (inner := [.int .i64 0, .int .i64 0, .int .i64 0, .int .i64 0, .int .i64 128, .int .i64 0, .int .i64 0, .int .i64 0, .int .i64 1, .int .i64 128, .int .i64 100, .int .i64 65435, .int .i64 1, .int .i64 0, .int .i64 48, .int .i64 256, .int .i64 0, .int .i64 0, .int .i64 0, .int .i64 64, .int .i64 8193, .int .i64 0, .int .i64 0, .int .i64 0, .int .i64 23, .int .i64 8193, .int .i64 3512, .int .i64 0, .int .i64 0, .int .i64 32, .int .i64 16383, .int .i64 0, .int .i64 0, .int .i64 0, .int .i64 20, .int .i64 24320, .int .i64 0, .int .i64 0, .int .i64 0, .int .i64 16, .int .i64 64512, .int .i64 0, .int .i64 0, .int .i64 0, .int .i64 7, .int .i64 65152, .int .i64 0, .int .i64 0, .int .i64 0, .int .i64 10, .int .i64 65280, .int .i64 0, .int .i64 0, .int .i64 0, .int .i64 8]) (ok := fun _ => True) (okp := fun _ => True) ?hr ?hp (fun _ hk => hk) trivial (Below.refl _ _) (Nat.le_refl _) (by simp) ?_; (case hd => rfl); (case hg => rfl); (case hr => first | (go_simp; done) | (go_simp; rfl)); (case hp => exact (Reps.c5 (show Kd.M k56 _ _ _ (⟨0, 0, 0, 0, 128⟩ : S56) [.int .i64 0, .int .i64 0, .int .i64 0, .int .i64 0, .int .i64 128] from (k56_mkM _ _ _ (⟨0, 0, 0, 0, 128⟩ : S56) )) (Reps.c5 (show Kd.M k56 _ _ _ (⟨0, 0, 0, 1, 128⟩ : S56) [.int .i64 0, .int .i64 0, .int .i64 0, .int .i64 1, .int .i64 128] from (k56_mkM _ _ _ (⟨0, 0, 0, 1, 128⟩ : S56) )) (Reps.c5 (show Kd.M k56 _ _ _ (⟨100, 65435, 1, 0, 48⟩ : S56) [.int .i64 100, .int .i64 65435, .int .i64 1, .int .i64 0, .int .i64 48] from (k56_mkM _ _ _ (⟨100, 65435, 1, 0, 48⟩ : S56) )) (Reps.c5 (show Kd.M k56 _ _ _ (⟨256, 0, 0, 0, 64⟩ : S56) [.int .i64 256, .int .i64 0, .int .i64 0, .int .i64 0, .int .i64 64] from (k56_mkM _ _ _ (⟨256, 0, 0, 0, 64⟩ : S56) )) (Reps.c5 (show Kd.M k56 _ _ _ (⟨8193, 0, 0, 0, 23⟩ : S56) [.int .i64 8193, .int .i64 0, .int .i64 0, .int .i64 0, .int .i64 23] from (k56_mkM _ _ _ (⟨8193, 0, 0, 0, 23⟩ : S56) )) (Reps.c5 (show Kd.M k56 _ _ _ (⟨8193, 3512, 0, 0, 32⟩ : S56) [.int .i64 8193, .int .i64 3512, .int .i64 0, .int .i64 0, .int .i64 32] from (k56_mkM _ _ _ (⟨8193, 3512, 0, 0, 32⟩ : S56) )) (Reps.c5 (show Kd.M k56 _ _ _ (⟨16383, 0, 0, 0, 20⟩ : S56) [.int .i64 16383, .int .i64 0, .int .i64 0, .int .i64 0, .int .i64 20] from (k56_mkM _ _ _ (⟨16383, 0, 0, 0, 20⟩ : S56) )) (Reps.c5 (show Kd.M k56 _ _ _ (⟨24320, 0, 0, 0, 16⟩ : S56) [.int .i64 24320, .int .i64 0, .int .i64 0, .int .i64 0, .int .i64 16] from (k56_mkM _ _ _ (⟨24320, 0, 0, 0, 16⟩ : S56) )) (Reps.c5 (show Kd.M k56 _ _ _ (⟨64512, 0, 0, 0, 7⟩ : S56) [.int .i64 64512, .int .i64 0, .int .i64 0, .int .i64 0, .int .i64 7] from (k56_mkM _ _ _ (⟨64512, 0, 0, 0, 7⟩ : S56) )) (Reps.c5 (show Kd.M k56 _ _ _ (⟨65152, 0, 0, 0, 10⟩ : S56) [.int .i64 65152, .int .i64 0, .int .i64 0, .int .i64 0, .int .i64 10] from (k56_mkM _ _ _ (⟨65152, 0, 0, 0, 10⟩ : S56) )) (Reps.c5 (show Kd.M k56 _ _ _ (⟨65280, 0, 0, 0, 8⟩ : S56) [.int .i64 65280, .int .i64 0, .int .i64 0, .int .i64 0, .int .i64 8] from (k56_mkM _ _ _ (⟨65280, 0, 0, 0, 8⟩ : S56) )) (Reps.none _ _))))))))))))); intro v130 w14 ho15 hb hg_ hnew_; clear hg_ hnew_; (first | rw [← Ny129.out] at ho15 | (simp only [Int.reduceToNat] at ho15; rw [← Ny129.out] at ho15)); replace HO_1 := Aside0.mk (Kd.R_below (by (with_reducible repeat (first | apply Kd.R_alloc | apply Kd.R_drewN | apply Kd.R_drew)); exact HO_1.out) hb); replace HO_2 := Aside0.mk (Kd.R_below (by (with_reducible repeat (first | apply Kd.R_alloc | apply Kd.R_drewN | apply Kd.R_drew)); exact HO_2.out) hb); have HO131 := Aside0.mk (Kd.R_lower ho15 (below_size bq_)); replace HB := Aside0.mk (below_step bq_ hb); clear hb ho15))
    go_loopg [1, 5] k1 (fun kq v1 v5 w' => ∃ (x1_2 : List (S34)) (x5_2 : Int), v5 = .int .i64 x5_2 ∧ Aside0 (lanternref06_Forbidden.l1 kq x1_2 y129 x5_2 = some r) ∧ Aside0 (kq ≤ k1) ∧ Aside0 (Kd.R k34 34 w' w.heap.size (fun _ => True) v1 x1_2) ∧ Aside0 (Kd.R k56 56 w' w.heap.size (fun _ => True) v130 y129) ∧ Aside0 (Below w.heap.size w w'))
    case atStart => exact ⟨(x1_1), (0), sq_, H', ⟨Nat.le_refl _⟩, ⟨by (with_reducible repeat (first | apply Kd.R_alloc | apply Kd.R_drewN | apply Kd.R_drew)); exact HO_1.out⟩, ⟨by (with_reducible repeat (first | apply Kd.R_alloc | apply Kd.R_drewN | apply Kd.R_drew)); exact HO131.out⟩, ⟨bq_⟩⟩
    case round =>
     clear H'
     try clear c1
     try clear p1
     try clear q1
     try clear hx1
     try clear c2
     try clear p2
     try clear c3
     try clear c5
     try clear c5b0
     try clear c6
     try clear c6b0
     try clear p6
     try clear c8
     try clear p10
     try clear q10
     try clear hx10
     try clear c11
     try clear p12
     try clear q12
     try clear hx12
     try clear hx107_0
     try clear hx107_1
     try clear hx125_0
     try clear hx125_1
     try clear p107
     try clear p125
     try clear p2
     try clear q107
     try clear q125
     obtain ⟨x1_2, x5_2, rfl, HA, HK2, HO_1, HO_4, HB⟩ := hrel
     cases gk with
     | zero => exact absurd HA.out (by simp [lanternref06_Forbidden.l1])
     | succ k2 =>
      have H := HA.out
      clear HA
      simp only [lanternref06_Forbidden.l1] at H
      by_cases c16 : x5_2 < (y129.length : Int)
      ·rw [if_pos c16] at H
       have c16b0 := decide_eq_true c16
       clear c16
       by_cases c17 : 0 ≤ x5_2
       ·rw [if_pos c17] at H
        have c17b0 := decide_eq_true c17
        clear c17
        have H' := Aside0.mk H
        clear H
        obtain ⟨Ao18, co18, eo18⟩ := Kd.R_slice HO_4.out
        subst eo18
        have p132 : 0 ≤ (x5_2 : Int) := of_decide_eq_true as_
        have q132 : x5_2 < (y129.length : Int) := of_decide_eq_true as_
        obtain ⟨ad132, e132, hx132_0, hx132_1, hx132_2, hx132_3, hx132_4⟩ := at_T56 (Kd.R_reads' HO_4.out).2.2 x5_2 p132 q132
        cases e132
        replace p132 := eq_true p132
        replace q132 := eq_true q132
        go_wp2_with (first | ((with_reducible refine gate_dst (N := 6) rfl ?_); refine bx_ 6 (nr_ false 0 0 0 0 0 0 0 0 0 0 0 0 0 0 0 0 0) 34 ?_; intro gb133 hg w19 hbox hb; replace HO_1 := Aside0.mk (Kd.R_below (Kd.R_elderB (by (with_reducible repeat (first | apply Kd.R_alloc | apply Kd.R_drewN | apply Kd.R_drew)); exact HO_1.out) gb133 (Nat.le_of_eq hg.symm)) hb); replace HO_4 := Aside0.mk (Kd.R_below (by (with_reducible repeat (first | apply Kd.R_alloc | apply Kd.R_drewN | apply Kd.R_drew)); exact HO_4.out) hb); have BK133 := Aside0.mk (hbox); have GW133 := Aside0.mk (ge_ (w := w) hg); have GE133 := Aside0.mk (ge_ (w := w) hg); replace HB := Aside0.mk (below_step bq_ hb); clear hb hbox hg; have hcz20_0 := cz_ BK133 0 (.bool false); have hcz20_1 := cz_ BK133 1 (.int .u8 0); have hcz20_2 := cz_ BK133 2 (.int .u8 0); have hcz20_3 := cz_ BK133 3 (.int .u8 0); have hcz20_4 := cz_ BK133 4 (.int .u8 0); have hcz20_5 := cz_ BK133 5 (.int .u8 0); have hcz20_6 := cz_ BK133 6 (.int .u8 0); have hcz20_7 := cz_ BK133 7 (.int .u8 0); have hcz20_8 := cz_ BK133 8 (.int .u8 0); have hcz20_9 := cz_ BK133 9 (.int .u8 0); have hcz20_10 := cz_ BK133 10 (.int .u8 0); have hcz20_11 := cz_ BK133 11 (.int .u8 0); have hcz20_12 := cz_ BK133 12 (.int .u8 0); have hcz20_13 := cz_ BK133 13 (.int .u8 0); have hcz20_14 := cz_ BK133 14 (.int .u8 0); have hcz20_15 := cz_ BK133 15 (.int .u8 0); have hcz20_16 := cz_ BK133 16 (.int .u8 0); have hcz20_17 := cz_ BK133 17 (.int .i64 0); have hfz20_0 := bf_ BK133 0; have hfz20_1 := bf_ BK133 1; have hfz20_2 := bf_ BK133 2; have hfz20_3 := bf_ BK133 3; have hfz20_4 := bf_ BK133 4; have hfz20_5 := bf_ BK133 5; have hfz20_6 := bf_ BK133 6; have hfz20_7 := bf_ BK133 7; have hfz20_8 := bf_ BK133 8; have hfz20_9 := bf_ BK133 9; have hfz20_10 := bf_ BK133 10; have hfz20_11 := bf_ BK133 11; have hfz20_12 := bf_ BK133 12; have hfz20_13 := bf_ BK133 13; have hfz20_14 := bf_ BK133 14; have hfz20_15 := bf_ BK133 15; have hfz20_16 := bf_ BK133 16; have hfz20_17 := bf_ BK133 17) | ((with_reducible refine gate_store (t := 34) (p := 6) rfl ?_); refine store_all ?hg 34 6 _ rfl rfl gb133 (nt_ false 0 0 0 0 0 0 0 0 0 0 0 0 0 0 0 0 0) (nt_ true 0 0 0 0 0 0 0 0 0 0 0 0 0 0 0 0 ((rd_T56 y129 x5_2).f4)) BK133.out rfl rfl rfl (by kernel_rfl) rfl ?_; (case hg => rfl); intro w21 hw; have n0_ : Aside0 (Kd.R k34 34 w21 w.heap.size (fun k_ => k_ ≠ gb133) u1 x1_2) := ⟨(by rw [hw]; exact (by (with_reducible repeat (first | apply Kd.R_alloc | apply Kd.R_drewN | apply Kd.R_drew)); exact Kd.R_mono (R_farC (g := gb133) (fun _ hk => hk.2) (Kd.R_mono HO_1.out (fun k_ hk => (⟨hk, hk.2⟩ : _ ∧ k_ ≠ gb133))) (nt_ true 0 0 0 0 0 0 0 0 0 0 0 0 0 0 0 0 ((rd_T56 y129 x5_2).f4)) 0) (fun _ hk => hk.1.2)))⟩; have n1_ : Aside0 (Kd.R k56 56 w21 w.heap.size (fun _ => True) (.slice (some ad132) y129.length co18) y129) := ⟨(by rw [hw]; exact (by (with_reducible repeat (first | apply Kd.R_alloc | apply Kd.R_drewN | apply Kd.R_drew)); exact Kd.R_mono (R_farC (g := gb133) (fun _ hk => hk.2) (Kd.R_types HO_4.out BK133.out (by decide)) (nt_ true 0 0 0 0 0 0 0 0 0 0 0 0 0 0 0 0 ((rd_T56 y129 x5_2).f4)) 0) (fun _ hk => trivial)))⟩; have n2_ := Aside0.mk (show w21.heap[gb133]? = some (.cells (nr_ true 0 0 0 0 0 0 0 0 0 0 0 0 0 0 0 0 ((rd_T56 y129 x5_2).f4)) 34 (0, 0)) from ss_ BK133 hw); have n3_ := Aside0.mk (sb_ hw); clear hw; clear HO_1; clear HO_4; clear BK133; clear HB; have HO_1 := n0_; have HO_4 := n1_; have BK133 := n2_; have HB := n3_; clear n0_ n1_ n2_ n3_))
        go_loopg [7] k2 (fun kq v7 w' => ∃ (x7_3 : Int) (x134001_3 : Int) (x134002_3 : Int) (x134003_3 : Int) (x134004_3 : Int) (x134005_3 : Int) (x134006_3 : Int) (x134007_3 : Int) (x134008_3 : Int) (x134009_3 : Int) (x134010_3 : Int) (x134011_3 : Int) (x134012_3 : Int) (x134013_3 : Int) (x134014_3 : Int) (x134015_3 : Int) (x134016_3 : Int), v7 = .int .i64 x7_3 ∧ Aside0 (lanternref06_Forbidden.l2 kq x1_2 y129 x5_2 x7_3 true x134001_3 x134002_3 x134003_3 x134004_3 x134005_3 x134006_3 x134007_3 x134008_3 x134009_3 x134010_3 x134011_3 x134012_3 x134013_3 x134014_3 x134015_3 x134016_3 ((rd_T56 y129 x5_2).f4) = some r) ∧ Aside0 (kq ≤ k2) ∧ Aside0 (Kd.R k34 34 w' w.heap.size (fun k_ => k_ ≠ gb133) u1 x1_2) ∧ Aside0 (Kd.R k56 56 w' w.heap.size (fun _ => True) (.slice (some ad132) y129.length co18) y129) ∧ Aside0 (w'.heap[gb133]? = some (.cells (nr_ true x134001_3 x134002_3 x134003_3 x134004_3 x134005_3 x134006_3 x134007_3 x134008_3 x134009_3 x134010_3 x134011_3 x134012_3 x134013_3 x134014_3 x134015_3 x134016_3 ((rd_T56 y129 x5_2).f4)) 34 (0, 0))) ∧ Aside0 (Below w.heap.size w w'))
        case atStart => exact ⟨(0), (0), (0), (0), (0), (0), (0), (0), (0), (0), (0), (0), (0), (0), (0), (0), (0), sq_, H', ⟨Nat.le_refl _⟩, ⟨by (with_reducible repeat (first | apply Kd.R_alloc | apply Kd.R_drewN | apply Kd.R_drew)); exact HO_1.out⟩, ⟨by (with_reducible repeat (first | apply Kd.R_alloc | apply Kd.R_drewN | apply Kd.R_drew)); exact HO_4.out⟩, ⟨bk_⟩, ⟨bg_⟩⟩
        case round =>
         clear H'
         try clear c1
         try clear p1
         try clear q1
         try clear hx1
         try clear c2
         try clear p2
         try clear c3
         try clear c5
         try clear c5b0
         try clear c6
         try clear c6b0
         try clear p6
         try clear c8
         try clear p10
         try clear q10
         try clear hx10
         try clear c11
         try clear p12
         try clear q12
         try clear hx12
         try clear p13
         try clear q13
         try clear hx13
         try clear c16
         try clear c16b0
         try clear c17
         try clear c17b0
         try clear hcz20_0
         try clear hcz20_1
         try clear hcz20_10
         try clear hcz20_11
         try clear hcz20_12
         try clear hcz20_13
         try clear hcz20_14
         try clear hcz20_15
         try clear hcz20_16
         try clear hcz20_17
         try clear hcz20_2
         try clear hcz20_3
         try clear hcz20_4
         try clear hcz20_5
         try clear hcz20_6
         try clear hcz20_7
         try clear hcz20_8
         try clear hcz20_9
         try clear hfz20_0
         try clear hfz20_1
         try clear hfz20_10
         try clear hfz20_11
         try clear hfz20_12
         try clear hfz20_13
         try clear hfz20_14
         try clear hfz20_15
         try clear hfz20_16
         try clear hfz20_17
         try clear hfz20_2
         try clear hfz20_3
         try clear hfz20_4
         try clear hfz20_5
         try clear hfz20_6
         try clear hfz20_7
         try clear hfz20_8
         try clear hfz20_9
         try clear hx107_0
         try clear hx107_1
         try clear hx125_0
         try clear hx125_1
         try clear hx132_0
         try clear hx132_1
         try clear hx132_2
         try clear hx132_3
         try clear hx132_4
         try clear p1
         try clear p10
         try clear p107
         try clear p12
         try clear p125
         try clear p132
         try clear p2
         try clear p6
         try clear q1
         try clear q10
         try clear q107
         try clear q12
         try clear q125
         try clear q132
         obtain ⟨x7_3, x134001_3, x134002_3, x134003_3, x134004_3, x134005_3, x134006_3, x134007_3, x134008_3, x134009_3, x134010_3, x134011_3, x134012_3, x134013_3, x134014_3, x134015_3, x134016_3, rfl, HA, HK3, HO_1, HO_4, BK133, HB⟩ := hrel
         cases gk with
         | zero => exact absurd HA.out (by simp [lanternref06_Forbidden.l2])
         | succ k3 =>
          have H := HA.out
          clear HA
          simp only [lanternref06_Forbidden.l2] at H
          by_cases c22 : x7_3 < 3
          ·rw [if_pos c22] at H
           have c22b0 := decide_eq_true c22
           clear c22
           by_cases c23 : 0 ≤ x5_2
           ·rw [if_pos c23] at H
            have c23b0 := decide_eq_true c23
            clear c23
            by_cases c24 : x5_2 < (y129.length : Int)
            ·rw [if_pos c24] at H
             have c24b0 := decide_eq_true c24
             clear c24
             by_cases c25 : 0 ≤ x7_3
             ·rw [if_pos c25] at H
              have c25b0 := decide_eq_true c25
              clear c25
              by_cases c26 : x7_3 < 5
              ·rw [if_pos c26] at H
               have c26b0 := decide_eq_true c26
               clear c26
               obtain ⟨ji27, hji27⟩ : ∃ j_ : Int, (wrap64 (2 * x7_3)) = j_ := ⟨_, rfl⟩
               replace H : (if 0 ≤ (ji27) then (if (ji27) < 16 then (if 0 ≤ (wrap64 ((ji27) + 1)) then (if (wrap64 ((ji27) + 1)) < 16 then (lanternref06_Forbidden.l2 k3 x1_2 y129 x5_2 (wrap64 (x7_3 + 1)) true (upd (wrap64 ((ji27) + 1)) 0 (lo_ y129 x5_2 x7_3) (upd (ji27) 0 (hi_ y129 x5_2 x7_3) x134001_3)) (upd (wrap64 ((ji27) + 1)) 1 (lo_ y129 x5_2 x7_3) (upd (ji27) 1 (hi_ y129 x5_2 x7_3) x134002_3)) (upd (wrap64 ((ji27) + 1)) 2 (lo_ y129 x5_2 x7_3) (upd (ji27) 2 (hi_ y129 x5_2 x7_3) x134003_3)) (upd (wrap64 ((ji27) + 1)) 3 (lo_ y129 x5_2 x7_3) (upd (ji27) 3 (hi_ y129 x5_2 x7_3) x134004_3)) (upd (wrap64 ((ji27) + 1)) 4 (lo_ y129 x5_2 x7_3) (upd (ji27) 4 (hi_ y129 x5_2 x7_3) x134005_3)) (upd (wrap64 ((ji27) + 1)) 5 (lo_ y129 x5_2 x7_3) (upd (ji27) 5 (hi_ y129 x5_2 x7_3) x134006_3)) (upd (wrap64 ((ji27) + 1)) 6 (lo_ y129 x5_2 x7_3) (upd (ji27) 6 (hi_ y129 x5_2 x7_3) x134007_3)) (upd (wrap64 ((ji27) + 1)) 7 (lo_ y129 x5_2 x7_3) (upd (ji27) 7 (hi_ y129 x5_2 x7_3) x134008_3)) (upd (wrap64 ((ji27) + 1)) 8 (lo_ y129 x5_2 x7_3) (upd (ji27) 8 (hi_ y129 x5_2 x7_3) x134009_3)) (upd (wrap64 ((ji27) + 1)) 9 (lo_ y129 x5_2 x7_3) (upd (ji27) 9 (hi_ y129 x5_2 x7_3) x134010_3)) (upd (wrap64 ((ji27) + 1)) 10 (lo_ y129 x5_2 x7_3) (upd (ji27) 10 (hi_ y129 x5_2 x7_3) x134011_3)) (upd (wrap64 ((ji27) + 1)) 11 (lo_ y129 x5_2 x7_3) (upd (ji27) 11 (hi_ y129 x5_2 x7_3) x134012_3)) (upd (wrap64 ((ji27) + 1)) 12 (lo_ y129 x5_2 x7_3) (upd (ji27) 12 (hi_ y129 x5_2 x7_3) x134013_3)) (upd (wrap64 ((ji27) + 1)) 13 (lo_ y129 x5_2 x7_3) (upd (ji27) 13 (hi_ y129 x5_2 x7_3) x134014_3)) (upd (wrap64 ((ji27) + 1)) 14 (lo_ y129 x5_2 x7_3) (upd (ji27) 14 (hi_ y129 x5_2 x7_3) x134015_3)) (upd (wrap64 ((ji27) + 1)) 15 (lo_ y129 x5_2 x7_3) (upd (ji27) 15 (hi_ y129 x5_2 x7_3) x134016_3)) ((rd_T56 y129 x5_2).f4)) else (none)) else (none)) else (none)) else (none)) = some r := by first | (rw [hji27] at H; exact H) | (simp only [hji27] at H ⊢; exact H)
               have hji27w : (IntKind.i64.wrap (2 * x7_3)) = ji27 := (i64_w _).trans hji27
               by_cases c28 : 0 ≤ (ji27)
               ·rw [if_pos c28] at H
                have c28b0 := decide_eq_true c28
                clear c28
                by_cases c29 : (ji27) < 16
                ·rw [if_pos c29] at H
                 have c29b0 := decide_eq_true c29
                 clear c29
                 obtain ⟨ji30, hji30⟩ : ∃ j_ : Int, (wrap64 ((ji27) + 1)) = j_ := ⟨_, rfl⟩
                 replace H : (if 0 ≤ (ji30) then (if (ji30) < 16 then (lanternref06_Forbidden.l2 k3 x1_2 y129 x5_2 (wrap64 (x7_3 + 1)) true (upd (ji30) 0 (lo_ y129 x5_2 x7_3) (upd (ji27) 0 (hi_ y129 x5_2 x7_3) x134001_3)) (upd (ji30) 1 (lo_ y129 x5_2 x7_3) (upd (ji27) 1 (hi_ y129 x5_2 x7_3) x134002_3)) (upd (ji30) 2 (lo_ y129 x5_2 x7_3) (upd (ji27) 2 (hi_ y129 x5_2 x7_3) x134003_3)) (upd (ji30) 3 (lo_ y129 x5_2 x7_3) (upd (ji27) 3 (hi_ y129 x5_2 x7_3) x134004_3)) (upd (ji30) 4 (lo_ y129 x5_2 x7_3) (upd (ji27) 4 (hi_ y129 x5_2 x7_3) x134005_3)) (upd (ji30) 5 (lo_ y129 x5_2 x7_3) (upd (ji27) 5 (hi_ y129 x5_2 x7_3) x134006_3)) (upd (ji30) 6 (lo_ y129 x5_2 x7_3) (upd (ji27) 6 (hi_ y129 x5_2 x7_3) x134007_3)) (upd (ji30) 7 (lo_ y129 x5_2 x7_3) (upd (ji27) 7 (hi_ y129 x5_2 x7_3) x134008_3)) (upd (ji30) 8 (lo_ y129 x5_2 x7_3) (upd (ji27) 8 (hi_ y129 x5_2 x7_3) x134009_3)) (upd (ji30) 9 (lo_ y129 x5_2 x7_3) (upd (ji27) 9 (hi_ y129 x5_2 x7_3) x134010_3)) (upd (ji30) 10 (lo_ y129 x5_2 x7_3) (upd (ji27) 10 (hi_ y129 x5_2 x7_3) x134011_3)) (upd (ji30) 11 (lo_ y129 x5_2 x7_3) (upd (ji27) 11 (hi_ y129 x5_2 x7_3) x134012_3)) (upd (ji30) 12 (lo_ y129 x5_2 x7_3) (upd (ji27) 12 (hi_ y129 x5_2 x7_3) x134013_3)) (upd (ji30) 13 (lo_ y129 x5_2 x7_3) (upd (ji27) 13 (hi_ y129 x5_2 x7_3) x134014_3)) (upd (ji30) 14 (lo_ y129 x5_2 x7_3) (upd (ji27) 14 (hi_ y129 x5_2 x7_3) x134015_3)) (upd (ji30) 15 (lo_ y129 x5_2 x7_3) (upd (ji27) 15 (hi_ y129 x5_2 x7_3) x134016_3)) ((rd_T56 y129 x5_2).f4)) else (none)) else (none)) = some r := by first | (rw [hji30] at H; exact H) | (simp only [hji30] at H ⊢; exact H)
                 have hji30w : (IntKind.i64.wrap ((ji27) + 1)) = ji30 := (i64_w _).trans hji30
                 by_cases c31 : 0 ≤ (ji30)
                 ·rw [if_pos c31] at H
                  have c31b0 := decide_eq_true c31
                  clear c31
                  by_cases c32 : (ji30) < 16
                  ·rw [if_pos c32] at H
                   have c32b0 := decide_eq_true c32
                   clear c32
                   have H' := Aside0.mk H
                   clear H
                   have p134 : 0 ≤ (x5_2 : Int) := of_decide_eq_true as_
                   have q134 : x5_2 < (y129.length : Int) := of_decide_eq_true as_
                   obtain ⟨ad134, e134, hx134_0, hx134_1, hx134_2, hx134_3, hx134_4⟩ := at_T56 (Kd.R_reads' HO_4.out).2.2 x5_2 p134 q134
                   obtain rfl : ad132 = ad134 := (by injection e134)
                   replace p134 := eq_true p134
                   replace q134 := eq_true q134
                   have par33 : (0 ≤ x7_3) = True := eq_true (of_decide_eq_true as_)
                   have qar33 : (x7_3 < 5) = True := eq_true (of_decide_eq_true as_)
                   have hxar33 := el5_ hx134_0 hx134_1 hx134_2 hx134_3 hx134_4 x7_3 (of_eq_true par33) (of_eq_true qar33)
                   have par34 : (0 ≤ (ji27)) = True := eq_true (of_decide_eq_true as_)
                   have qar34 : ((ji27) < 16) = True := eq_true (of_decide_eq_true as_)
                   have hcz35_0 := cz_ BK133 0 (.bool true)
                   have hcz35_1 := cz_ BK133 1 (.int .u8 x134001_3)
                   have hcz35_2 := cz_ BK133 2 (.int .u8 x134002_3)
                   have hcz35_3 := cz_ BK133 3 (.int .u8 x134003_3)
                   have hcz35_4 := cz_ BK133 4 (.int .u8 x134004_3)
                   have hcz35_5 := cz_ BK133 5 (.int .u8 x134005_3)
                   have hcz35_6 := cz_ BK133 6 (.int .u8 x134006_3)
                   have hcz35_7 := cz_ BK133 7 (.int .u8 x134007_3)
                   have hcz35_8 := cz_ BK133 8 (.int .u8 x134008_3)
                   have hcz35_9 := cz_ BK133 9 (.int .u8 x134009_3)
                   have hcz35_10 := cz_ BK133 10 (.int .u8 x134010_3)
                   have hcz35_11 := cz_ BK133 11 (.int .u8 x134011_3)
                   have hcz35_12 := cz_ BK133 12 (.int .u8 x134012_3)
                   have hcz35_13 := cz_ BK133 13 (.int .u8 x134013_3)
                   have hcz35_14 := cz_ BK133 14 (.int .u8 x134014_3)
                   have hcz35_15 := cz_ BK133 15 (.int .u8 x134015_3)
                   have hcz35_16 := cz_ BK133 16 (.int .u8 x134016_3)
                   have hcz35_17 : wr.cell? ⟨gb133, 17, none⟩ = some (.int .i64 ((rd_T56 y129 x5_2).f4)) := (blk_cell BK133.out 17).trans rfl
                   have hfz35_0 := bf_ BK133 0
                   have hfz35_1 := bf_ BK133 1
                   have hfz35_2 := bf_ BK133 2
                   have hfz35_3 := bf_ BK133 3
                   have hfz35_4 := bf_ BK133 4
                   have hfz35_5 := bf_ BK133 5
                   have hfz35_6 := bf_ BK133 6
                   have hfz35_7 := bf_ BK133 7
                   have hfz35_8 := bf_ BK133 8
                   have hfz35_9 := bf_ BK133 9
                   have hfz35_10 := bf_ BK133 10
                   have hfz35_11 := bf_ BK133 11
                   have hfz35_12 := bf_ BK133 12
                   have hfz35_13 := bf_ BK133 13
                   have hfz35_14 := bf_ BK133 14
                   have hfz35_15 := bf_ BK133 15
                   have hfz35_16 := bf_ BK133 16
                   have hfz35_17 := bf_ BK133 17
                   have hxar34 : wr.cell? ⟨gb133, 1 + ((ji27)).toNat, none⟩ = some (.int .u8 (rd [x134001_3, x134002_3, x134003_3, x134004_3, x134005_3, x134006_3, x134007_3, x134008_3, x134009_3, x134010_3, x134011_3, x134012_3, x134013_3, x134014_3, x134015_3, x134016_3] (ji27))) := (blk_idx BK133.out .u8 [.bool true] [x134001_3, x134002_3, x134003_3, x134004_3, x134005_3, x134006_3, x134007_3, x134008_3, x134009_3, x134010_3, x134011_3, x134012_3, x134013_3, x134014_3, x134015_3, x134016_3] [.int .i64 ((rd_T56 y129 x5_2).f4)] rfl (ji27) (of_decide_eq_true as_) (of_decide_eq_true as_) rfl)
                   have hfar34 := bf_ BK133 (1 + ((ji27)).toNat)
                   go_wp2_with (first | ((with_reducible refine gate_store (t := 5) (p := 88) rfl ?_); refine store_event (t := 5) (p := 88) (v := ?vo_w36) (w1 := (wr.setCell ⟨gb133, 1 + ((ji27)).toNat, none⟩ (.int .u8 (hi_ y129 x5_2 x7_3)))) ?hg ?ho ?hn ?hr ?_; (case ho => rfl); (case hg => rfl); (case hn => rfl); (case hr => first | (go_simp; done) | (go_simp; rfl)); intro w36 hw; have n0_ : Aside0 (Kd.R k34 34 w36 w.heap.size (fun k_ => k_ ≠ gb133) u1 x1_2) := ⟨(by rw [hw]; exact (by (with_reducible repeat (first | apply Kd.R_alloc | apply Kd.R_drewN | apply Kd.R_drew)); exact Kd.R_mono (Kd.R_far (p := ⟨gb133, 1 + ((ji27)).toNat, none⟩) (Kd.R_mono HO_1.out (fun k_ hk => (⟨hk, hk⟩ : _ ∧ k_ ≠ gb133))) (fun _ hk => hk.2) (.int .u8 (hi_ y129 x5_2 x7_3))) (fun _ hk => hk.1)))⟩; have n1_ : Aside0 (Kd.R k56 56 w36 w.heap.size (fun _ => True) (.slice (some ad132) y129.length co18) y129) := ⟨(by rw [hw]; exact (by (with_reducible repeat (first | apply Kd.R_alloc | apply Kd.R_drewN | apply Kd.R_drew)); exact Kd.R_mono (Kd.R_far (p := ⟨gb133, 1 + ((ji27)).toNat, none⟩) (Kd.R_types HO_4.out BK133.out (by decide)) (fun _ hk => hk.2) (.int .u8 (hi_ y129 x5_2 x7_3))) (fun _ hk => trivial)))⟩; have n2_ : Aside0 (w36.heap[gb133]? = some (.cells #[.bool true, .int .u8 (upd (ji27) 0 (hi_ y129 x5_2 x7_3) x134001_3), .int .u8 (upd (ji27) 1 (hi_ y129 x5_2 x7_3) x134002_3), .int .u8 (upd (ji27) 2 (hi_ y129 x5_2 x7_3) x134003_3), .int .u8 (upd (ji27) 3 (hi_ y129 x5_2 x7_3) x134004_3), .int .u8 (upd (ji27) 4 (hi_ y129 x5_2 x7_3) x134005_3), .int .u8 (upd (ji27) 5 (hi_ y129 x5_2 x7_3) x134006_3), .int .u8 (upd (ji27) 6 (hi_ y129 x5_2 x7_3) x134007_3), .int .u8 (upd (ji27) 7 (hi_ y129 x5_2 x7_3) x134008_3), .int .u8 (upd (ji27) 8 (hi_ y129 x5_2 x7_3) x134009_3), .int .u8 (upd (ji27) 9 (hi_ y129 x5_2 x7_3) x134010_3), .int .u8 (upd (ji27) 10 (hi_ y129 x5_2 x7_3) x134011_3), .int .u8 (upd (ji27) 11 (hi_ y129 x5_2 x7_3) x134012_3), .int .u8 (upd (ji27) 12 (hi_ y129 x5_2 x7_3) x134013_3), .int .u8 (upd (ji27) 13 (hi_ y129 x5_2 x7_3) x134014_3), .int .u8 (upd (ji27) 14 (hi_ y129 x5_2 x7_3) x134015_3), .int .u8 (upd (ji27) 15 (hi_ y129 x5_2 x7_3) x134016_3), .int .i64 ((rd_T56 y129 x5_2).f4)] 34 (0, 0))) := ⟨(by rw [hw]; exact (by (with_reducible repeat (first | refine blk_drewN ?_ _ | refine blk_drew ?_ | refine blk_alloc ?_ _)); refine blk_put (cs := (nr_ true x134001_3 x134002_3 x134003_3 x134004_3 x134005_3 x134006_3 x134007_3 x134008_3 x134009_3 x134010_3 x134011_3 x134012_3 x134013_3 x134014_3 x134015_3 x134016_3 ((rd_T56 y129 x5_2).f4))) ?_ (1 + ((ji27)).toNat) _ (upd_set .u8 [.bool true] [x134001_3, x134002_3, x134003_3, x134004_3, x134005_3, x134006_3, x134007_3, x134008_3, x134009_3, x134010_3, x134011_3, x134012_3, x134013_3, x134014_3, x134015_3, x134016_3] [.int .i64 ((rd_T56 y129 x5_2).f4)] rfl (ji27) (of_decide_eq_true as_) (of_decide_eq_true as_) rfl _ rfl); (with_reducible repeat (first | refine blk_drewN ?_ _ | refine blk_drew ?_ | refine blk_alloc ?_ _)); exact BK133.out))⟩; have n3_ : Aside0 (Below w.heap.size w w36) := ⟨(by rw [hw]; exact bg_)⟩; clear hw; clear HO_1; clear HO_4; clear BK133; clear HB; have HO_1 := n0_; have HO_4 := n1_; have BK133 := n2_; have HB := n3_; clear n0_ n1_ n2_ n3_; have p137 : 0 ≤ (x5_2 : Int) := of_decide_eq_true as_; have q137 : x5_2 < (y129.length : Int) := of_decide_eq_true as_; obtain ⟨ad137, e137, hx137_0, hx137_1, hx137_2, hx137_3, hx137_4⟩ := at_T56 (Kd.R_reads' HO_4.out).2.2 x5_2 p137 q137; obtain rfl : ad132 = ad137 := (by injection e137); replace p137 := eq_true p137; replace q137 := eq_true q137; have par37 : (0 ≤ x7_3) = True := eq_true (of_decide_eq_true as_); have qar37 : (x7_3 < 5) = True := eq_true (of_decide_eq_true as_); have hxar37 := el5_ hx137_0 hx137_1 hx137_2 hx137_3 hx137_4 x7_3 (of_eq_true par37) (of_eq_true qar37); have par38 : (0 ≤ (ji30)) = True := eq_true (of_decide_eq_true as_); have qar38 : ((ji30) < 16) = True := eq_true (of_decide_eq_true as_); have hcz39_0 := cz_ BK133 0 (.bool true); have hcz39_1 : w36.cell? ⟨gb133, 1, none⟩ = some (.int .u8 (upd (ji27) 0 (hi_ y129 x5_2 x7_3) x134001_3)) := (blk_cell BK133.out 1).trans rfl; have hcz39_2 : w36.cell? ⟨gb133, 2, none⟩ = some (.int .u8 (upd (ji27) 1 (hi_ y129 x5_2 x7_3) x134002_3)) := (blk_cell BK133.out 2).trans rfl; have hcz39_3 : w36.cell? ⟨gb133, 3, none⟩ = some (.int .u8 (upd (ji27) 2 (hi_ y129 x5_2 x7_3) x134003_3)) := (blk_cell BK133.out 3).trans rfl; have hcz39_4 : w36.cell? ⟨gb133, 4, none⟩ = some (.int .u8 (upd (ji27) 3 (hi_ y129 x5_2 x7_3) x134004_3)) := (blk_cell BK133.out 4).trans rfl; have hcz39_5 : w36.cell? ⟨gb133, 5, none⟩ = some (.int .u8 (upd (ji27) 4 (hi_ y129 x5_2 x7_3) x134005_3)) := (blk_cell BK133.out 5).trans rfl; have hcz39_6 : w36.cell? ⟨gb133, 6, none⟩ = some (.int .u8 (upd (ji27) 5 (hi_ y129 x5_2 x7_3) x134006_3)) := (blk_cell BK133.out 6).trans rfl; have hcz39_7 : w36.cell? ⟨gb133, 7, none⟩ = some (.int .u8 (upd (ji27) 6 (hi_ y129 x5_2 x7_3) x134007_3)) := (blk_cell BK133.out 7).trans rfl; have hcz39_8 : w36.cell? ⟨gb133, 8, none⟩ = some (.int .u8 (upd (ji27) 7 (hi_ y129 x5_2 x7_3) x134008_3)) := (blk_cell BK133.out 8).trans rfl; have hcz39_9 : w36.cell? ⟨gb133, 9, none⟩ = some (.int .u8 (upd (ji27) 8 (hi_ y129 x5_2 x7_3) x134009_3)) := (blk_cell BK133.out 9).trans rfl; have hcz39_10 : w36.cell? ⟨gb133, 10, none⟩ = some (.int .u8 (upd (ji27) 9 (hi_ y129 x5_2 x7_3) x134010_3)) := (blk_cell BK133.out 10).trans rfl; have hcz39_11 : w36.cell? ⟨gb133, 11, none⟩ = some (.int .u8 (upd (ji27) 10 (hi_ y129 x5_2 x7_3) x134011_3)) := (blk_cell BK133.out 11).trans rfl; have hcz39_12 : w36.cell? ⟨gb133, 12, none⟩ = some (.int .u8 (upd (ji27) 11 (hi_ y129 x5_2 x7_3) x134012_3)) := (blk_cell BK133.out 12).trans rfl; have hcz39_13 : w36.cell? ⟨gb133, 13, none⟩ = some (.int .u8 (upd (ji27) 12 (hi_ y129 x5_2 x7_3) x134013_3)) := (blk_cell BK133.out 13).trans rfl; have hcz39_14 : w36.cell? ⟨gb133, 14, none⟩ = some (.int .u8 (upd (ji27) 13 (hi_ y129 x5_2 x7_3) x134014_3)) := (blk_cell BK133.out 14).trans rfl; have hcz39_15 : w36.cell? ⟨gb133, 15, none⟩ = some (.int .u8 (upd (ji27) 14 (hi_ y129 x5_2 x7_3) x134015_3)) := (blk_cell BK133.out 15).trans rfl; have hcz39_16 : w36.cell? ⟨gb133, 16, none⟩ = some (.int .u8 (upd (ji27) 15 (hi_ y129 x5_2 x7_3) x134016_3)) := (blk_cell BK133.out 16).trans rfl; have hcz39_17 : w36.cell? ⟨gb133, 17, none⟩ = some (.int .i64 ((rd_T56 y129 x5_2).f4)) := (blk_cell BK133.out 17).trans rfl; have hfz39_0 := bf_ BK133 0; have hfz39_1 := bf_ BK133 1; have hfz39_2 := bf_ BK133 2; have hfz39_3 := bf_ BK133 3; have hfz39_4 := bf_ BK133 4; have hfz39_5 := bf_ BK133 5; have hfz39_6 := bf_ BK133 6; have hfz39_7 := bf_ BK133 7; have hfz39_8 := bf_ BK133 8; have hfz39_9 := bf_ BK133 9; have hfz39_10 := bf_ BK133 10; have hfz39_11 := bf_ BK133 11; have hfz39_12 := bf_ BK133 12; have hfz39_13 := bf_ BK133 13; have hfz39_14 := bf_ BK133 14; have hfz39_15 := bf_ BK133 15; have hfz39_16 := bf_ BK133 16; have hfz39_17 := bf_ BK133 17; have hxar38 : w36.cell? ⟨gb133, 1 + ((ji30)).toNat, none⟩ = some (.int .u8 (rd [upd (ji27) 0 (hi_ y129 x5_2 x7_3) x134001_3, upd (ji27) 1 (hi_ y129 x5_2 x7_3) x134002_3, upd (ji27) 2 (hi_ y129 x5_2 x7_3) x134003_3, upd (ji27) 3 (hi_ y129 x5_2 x7_3) x134004_3, upd (ji27) 4 (hi_ y129 x5_2 x7_3) x134005_3, upd (ji27) 5 (hi_ y129 x5_2 x7_3) x134006_3, upd (ji27) 6 (hi_ y129 x5_2 x7_3) x134007_3, upd (ji27) 7 (hi_ y129 x5_2 x7_3) x134008_3, upd (ji27) 8 (hi_ y129 x5_2 x7_3) x134009_3, upd (ji27) 9 (hi_ y129 x5_2 x7_3) x134010_3, upd (ji27) 10 (hi_ y129 x5_2 x7_3) x134011_3, upd (ji27) 11 (hi_ y129 x5_2 x7_3) x134012_3, upd (ji27) 12 (hi_ y129 x5_2 x7_3) x134013_3, upd (ji27) 13 (hi_ y129 x5_2 x7_3) x134014_3, upd (ji27) 14 (hi_ y129 x5_2 x7_3) x134015_3, upd (ji27) 15 (hi_ y129 x5_2 x7_3) x134016_3] (ji30))) := (blk_idx BK133.out .u8 [.bool true] [upd (ji27) 0 (hi_ y129 x5_2 x7_3) x134001_3, upd (ji27) 1 (hi_ y129 x5_2 x7_3) x134002_3, upd (ji27) 2 (hi_ y129 x5_2 x7_3) x134003_3, upd (ji27) 3 (hi_ y129 x5_2 x7_3) x134004_3, upd (ji27) 4 (hi_ y129 x5_2 x7_3) x134005_3, upd (ji27) 5 (hi_ y129 x5_2 x7_3) x134006_3, upd (ji27) 6 (hi_ y129 x5_2 x7_3) x134007_3, upd (ji27) 7 (hi_ y129 x5_2 x7_3) x134008_3, upd (ji27) 8 (hi_ y129 x5_2 x7_3) x134009_3, upd (ji27) 9 (hi_ y129 x5_2 x7_3) x134010_3, upd (ji27) 10 (hi_ y129 x5_2 x7_3) x134011_3, upd (ji27) 11 (hi_ y129 x5_2 x7_3) x134012_3, upd (ji27) 12 (hi_ y129 x5_2 x7_3) x134013_3, upd (ji27) 13 (hi_ y129 x5_2 x7_3) x134014_3, upd (ji27) 14 (hi_ y129 x5_2 x7_3) x134015_3, upd (ji27) 15 (hi_ y129 x5_2 x7_3) x134016_3] [.int .i64 ((rd_T56 y129 x5_2).f4)] rfl (ji30) (of_decide_eq_true as_) (of_decide_eq_true as_) rfl); have hfar38 := bf_ BK133 (1 + ((ji30)).toNat)) | ((with_reducible refine gate_store (t := 5) (p := 102) rfl ?_); refine store_event (t := 5) (p := 102) (v := ?vo_w40) (w1 := (w36.setCell ⟨gb133, 1 + ((ji30)).toNat, none⟩ (.int .u8 (lo_ y129 x5_2 x7_3)))) ?hg ?ho ?hn ?hr ?_; (case ho => rfl); (case hg => rfl); (case hn => rfl); (case hr => first | (go_simp; done) | (go_simp; rfl)); intro w40 hw; have n0_ : Aside0 (Kd.R k34 34 w40 w.heap.size (fun k_ => k_ ≠ gb133) u1 x1_2) := ⟨(by rw [hw]; exact (by (with_reducible repeat (first | apply Kd.R_alloc | apply Kd.R_drewN | apply Kd.R_drew)); exact Kd.R_mono (Kd.R_far (p := ⟨gb133, 1 + ((ji30)).toNat, none⟩) (Kd.R_mono HO_1.out (fun k_ hk => (⟨hk, hk⟩ : _ ∧ k_ ≠ gb133))) (fun _ hk => hk.2) (.int .u8 (lo_ y129 x5_2 x7_3))) (fun _ hk => hk.1)))⟩; have n1_ : Aside0 (Kd.R k56 56 w40 w.heap.size (fun _ => True) (.slice (some ad132) y129.length co18) y129) := ⟨(by rw [hw]; exact (by (with_reducible repeat (first | apply Kd.R_alloc | apply Kd.R_drewN | apply Kd.R_drew)); exact Kd.R_mono (Kd.R_far (p := ⟨gb133, 1 + ((ji30)).toNat, none⟩) (Kd.R_types HO_4.out BK133.out (by decide)) (fun _ hk => hk.2) (.int .u8 (lo_ y129 x5_2 x7_3))) (fun _ hk => trivial)))⟩; have n2_ : Aside0 (w40.heap[gb133]? = some (.cells #[.bool true, .int .u8 (upd (ji30) 0 (lo_ y129 x5_2 x7_3) (upd (ji27) 0 (hi_ y129 x5_2 x7_3) x134001_3)), .int .u8 (upd (ji30) 1 (lo_ y129 x5_2 x7_3) (upd (ji27) 1 (hi_ y129 x5_2 x7_3) x134002_3)), .int .u8 (upd (ji30) 2 (lo_ y129 x5_2 x7_3) (upd (ji27) 2 (hi_ y129 x5_2 x7_3) x134003_3)), .int .u8 (upd (ji30) 3 (lo_ y129 x5_2 x7_3) (upd (ji27) 3 (hi_ y129 x5_2 x7_3) x134004_3)), .int .u8 (upd (ji30) 4 (lo_ y129 x5_2 x7_3) (upd (ji27) 4 (hi_ y129 x5_2 x7_3) x134005_3)), .int .u8 (upd (ji30) 5 (lo_ y129 x5_2 x7_3) (upd (ji27) 5 (hi_ y129 x5_2 x7_3) x134006_3)), .int .u8 (upd (ji30) 6 (lo_ y129 x5_2 x7_3) (upd (ji27) 6 (hi_ y129 x5_2 x7_3) x134007_3)), .int .u8 (upd (ji30) 7 (lo_ y129 x5_2 x7_3) (upd (ji27) 7 (hi_ y129 x5_2 x7_3) x134008_3)), .int .u8 (upd (ji30) 8 (lo_ y129 x5_2 x7_3) (upd (ji27) 8 (hi_ y129 x5_2 x7_3) x134009_3)), .int .u8 (upd (ji30) 9 (lo_ y129 x5_2 x7_3) (upd (ji27) 9 (hi_ y129 x5_2 x7_3) x134010_3)), .int .u8 (upd (ji30) 10 (lo_ y129 x5_2 x7_3) (upd (ji27) 10 (hi_ y129 x5_2 x7_3) x134011_3)), .int .u8 (upd (ji30) 11 (lo_ y129 x5_2 x7_3) (upd (ji27) 11 (hi_ y129 x5_2 x7_3) x134012_3)), .int .u8 (upd (ji30) 12 (lo_ y129 x5_2 x7_3) (upd (ji27) 12 (hi_ y129 x5_2 x7_3) x134013_3)), .int .u8 (upd (ji30) 13 (lo_ y129 x5_2 x7_3) (upd (ji27) 13 (hi_ y129 x5_2 x7_3) x134014_3)), .int .u8 (upd (ji30) 14 (lo_ y129 x5_2 x7_3) (upd (ji27) 14 (hi_ y129 x5_2 x7_3) x134015_3)), .int .u8 (upd (ji30) 15 (lo_ y129 x5_2 x7_3) (upd (ji27) 15 (hi_ y129 x5_2 x7_3) x134016_3)), .int .i64 ((rd_T56 y129 x5_2).f4)] 34 (0, 0))) := ⟨(by rw [hw]; exact (by (with_reducible repeat (first | refine blk_drewN ?_ _ | refine blk_drew ?_ | refine blk_alloc ?_ _)); refine blk_put (cs := #[.bool true, .int .u8 (upd (ji27) 0 (hi_ y129 x5_2 x7_3) x134001_3), .int .u8 (upd (ji27) 1 (hi_ y129 x5_2 x7_3) x134002_3), .int .u8 (upd (ji27) 2 (hi_ y129 x5_2 x7_3) x134003_3), .int .u8 (upd (ji27) 3 (hi_ y129 x5_2 x7_3) x134004_3), .int .u8 (upd (ji27) 4 (hi_ y129 x5_2 x7_3) x134005_3), .int .u8 (upd (ji27) 5 (hi_ y129 x5_2 x7_3) x134006_3), .int .u8 (upd (ji27) 6 (hi_ y129 x5_2 x7_3) x134007_3), .int .u8 (upd (ji27) 7 (hi_ y129 x5_2 x7_3) x134008_3), .int .u8 (upd (ji27) 8 (hi_ y129 x5_2 x7_3) x134009_3), .int .u8 (upd (ji27) 9 (hi_ y129 x5_2 x7_3) x134010_3), .int .u8 (upd (ji27) 10 (hi_ y129 x5_2 x7_3) x134011_3), .int .u8 (upd (ji27) 11 (hi_ y129 x5_2 x7_3) x134012_3), .int .u8 (upd (ji27) 12 (hi_ y129 x5_2 x7_3) x134013_3), .int .u8 (upd (ji27) 13 (hi_ y129 x5_2 x7_3) x134014_3), .int .u8 (upd (ji27) 14 (hi_ y129 x5_2 x7_3) x134015_3), .int .u8 (upd (ji27) 15 (hi_ y129 x5_2 x7_3) x134016_3), .int .i64 ((rd_T56 y129 x5_2).f4)]) ?_ (1 + ((ji30)).toNat) _ (upd_set .u8 [.bool true] [upd (ji27) 0 (hi_ y129 x5_2 x7_3) x134001_3, upd (ji27) 1 (hi_ y129 x5_2 x7_3) x134002_3, upd (ji27) 2 (hi_ y129 x5_2 x7_3) x134003_3, upd (ji27) 3 (hi_ y129 x5_2 x7_3) x134004_3, upd (ji27) 4 (hi_ y129 x5_2 x7_3) x134005_3, upd (ji27) 5 (hi_ y129 x5_2 x7_3) x134006_3, upd (ji27) 6 (hi_ y129 x5_2 x7_3) x134007_3, upd (ji27) 7 (hi_ y129 x5_2 x7_3) x134008_3, upd (ji27) 8 (hi_ y129 x5_2 x7_3) x134009_3, upd (ji27) 9 (hi_ y129 x5_2 x7_3) x134010_3, upd (ji27) 10 (hi_ y129 x5_2 x7_3) x134011_3, upd (ji27) 11 (hi_ y129 x5_2 x7_3) x134012_3, upd (ji27) 12 (hi_ y129 x5_2 x7_3) x134013_3, upd (ji27) 13 (hi_ y129 x5_2 x7_3) x134014_3, upd (ji27) 14 (hi_ y129 x5_2 x7_3) x134015_3, upd (ji27) 15 (hi_ y129 x5_2 x7_3) x134016_3] [.int .i64 ((rd_T56 y129 x5_2).f4)] rfl (ji30) (of_decide_eq_true as_) (of_decide_eq_true as_) rfl _ rfl); (with_reducible repeat (first | refine blk_drewN ?_ _ | refine blk_drew ?_ | refine blk_alloc ?_ _)); exact BK133.out))⟩; have n3_ : Aside0 (Below w.heap.size w w40) := ⟨(by rw [hw]; exact bg_)⟩; clear hw; clear HO_1; clear HO_4; clear BK133; clear HB; have HO_1 := n0_; have HO_4 := n1_; have BK133 := n2_; have HB := n3_; clear n0_ n1_ n2_ n3_))
                   go_roundg k3
                   case measure => have := HK1.out; have := HK2.out; have := HK3.out; omega
                   case rel => exact ⟨(wrap64 (x7_3 + 1)), (upd (ji30) 0 (lo_ y129 x5_2 x7_3) (upd (ji27) 0 (hi_ y129 x5_2 x7_3) x134001_3)), (upd (ji30) 1 (lo_ y129 x5_2 x7_3) (upd (ji27) 1 (hi_ y129 x5_2 x7_3) x134002_3)), (upd (ji30) 2 (lo_ y129 x5_2 x7_3) (upd (ji27) 2 (hi_ y129 x5_2 x7_3) x134003_3)), (upd (ji30) 3 (lo_ y129 x5_2 x7_3) (upd (ji27) 3 (hi_ y129 x5_2 x7_3) x134004_3)), (upd (ji30) 4 (lo_ y129 x5_2 x7_3) (upd (ji27) 4 (hi_ y129 x5_2 x7_3) x134005_3)), (upd (ji30) 5 (lo_ y129 x5_2 x7_3) (upd (ji27) 5 (hi_ y129 x5_2 x7_3) x134006_3)), (upd (ji30) 6 (lo_ y129 x5_2 x7_3) (upd (ji27) 6 (hi_ y129 x5_2 x7_3) x134007_3)), (upd (ji30) 7 (lo_ y129 x5_2 x7_3) (upd (ji27) 7 (hi_ y129 x5_2 x7_3) x134008_3)), (upd (ji30) 8 (lo_ y129 x5_2 x7_3) (upd (ji27) 8 (hi_ y129 x5_2 x7_3) x134009_3)), (upd (ji30) 9 (lo_ y129 x5_2 x7_3) (upd (ji27) 9 (hi_ y129 x5_2 x7_3) x134010_3)), (upd (ji30) 10 (lo_ y129 x5_2 x7_3) (upd (ji27) 10 (hi_ y129 x5_2 x7_3) x134011_3)), (upd (ji30) 11 (lo_ y129 x5_2 x7_3) (upd (ji27) 11 (hi_ y129 x5_2 x7_3) x134012_3)), (upd (ji30) 12 (lo_ y129 x5_2 x7_3) (upd (ji27) 12 (hi_ y129 x5_2 x7_3) x134013_3)), (upd (ji30) 13 (lo_ y129 x5_2 x7_3) (upd (ji27) 13 (hi_ y129 x5_2 x7_3) x134014_3)), (upd (ji30) 14 (lo_ y129 x5_2 x7_3) (upd (ji27) 14 (hi_ y129 x5_2 x7_3) x134015_3)), (upd (ji30) 15 (lo_ y129 x5_2 x7_3) (upd (ji27) 15 (hi_ y129 x5_2 x7_3) x134016_3)), sq_, H', ⟨by have := HK1.out; have := HK2.out; have := HK3.out; omega⟩, ⟨by (with_reducible repeat (first | apply Kd.R_alloc | apply Kd.R_drewN | apply Kd.R_drew)); exact HO_1.out⟩, ⟨by (with_reducible repeat (first | apply Kd.R_alloc | apply Kd.R_drewN | apply Kd.R_drew)); exact HO_4.out⟩, ⟨bk_⟩, ⟨bg_⟩⟩
                  ·rw [if_neg c32] at H
                   exact absurd H (by simp)
                 ·rw [if_neg c31] at H
                  exact absurd H (by simp)
                ·rw [if_neg c29] at H
                 exact absurd H (by simp)
               ·rw [if_neg c28] at H
                exact absurd H (by simp)
              ·rw [if_neg c26] at H
               exact absurd H (by simp)
             ·rw [if_neg c25] at H
              exact absurd H (by simp)
            ·rw [if_neg c24] at H
             exact absurd H (by simp)
           ·rw [if_neg c23] at H
            exact absurd H (by simp)
          ·rw [if_neg c22] at H
           have c22b0 := decide_eq_false c22
           clear c22
           by_cases c41 : 0 ≤ x5_2
           ·rw [if_pos c41] at H
            have c41b0 := decide_eq_true c41
            clear c41
            by_cases c42 : x5_2 < (y129.length : Int)
            ·rw [if_pos c42] at H
             have c42b0 := decide_eq_true c42
             clear c42
             by_cases c43 : x1_2.length < 4398046511104
             ·rw [if_pos c43] at H
              have LMc43 := Aside0.mk c43
              clear c43
              obtain ⟨y141, hy141⟩ : ∃ y_ : List (S34), y_ = (x1_2 ++ [(⟨(⟨true, (⟨x134001_3, x134002_3, x134003_3, x134004_3, x134005_3, x134006_3, x134007_3, x134008_3, x134009_3, x134010_3, x134011_3, x134012_3, x134013_3, x134014_3, x134015_3, ((rd_T56 y129 x5_2).f3) % 256⟩ : S22)⟩ : S24), ((rd_T56 y129 x5_2).f4)⟩ : S34)]) := ⟨_, rfl⟩
              replace H : (lanternref06_Forbidden.l1 k3 y141 y129 (wrap64 (x5_2 + 1))) = some r := by first | (rw [hy141]; with_reducible exact H) | (have H2_ := (Option.bind_some _ _).symm.trans H; rw [hy141]; with_reducible exact H2_) | (have H2_ := (Option.bind_some _ _).symm.trans H; with_reducible exact H2_) | with_reducible exact H | (rw [hy141]; exact H) | exact H
              have Ny141 := Aside0.mk hy141
              clear hy141
              have H' := Aside0.mk H
              clear H
              have p140 : 0 ≤ (x5_2 : Int) := of_decide_eq_true as_
              have q140 : x5_2 < (y129.length : Int) := of_decide_eq_true as_
              obtain ⟨ad140, e140, hx140_0, hx140_1, hx140_2, hx140_3, hx140_4⟩ := at_T56 (Kd.R_reads' HO_4.out).2.2 x5_2 p140 q140
              obtain rfl : ad132 = ad140 := (by injection e140)
              replace p140 := eq_true p140
              replace q140 := eq_true q140
              have hcz44_0 := cz_ BK133 0 (.bool true)
              have hcz44_1 := cz_ BK133 1 (.int .u8 x134001_3)
              have hcz44_2 := cz_ BK133 2 (.int .u8 x134002_3)
              have hcz44_3 := cz_ BK133 3 (.int .u8 x134003_3)
              have hcz44_4 := cz_ BK133 4 (.int .u8 x134004_3)
              have hcz44_5 := cz_ BK133 5 (.int .u8 x134005_3)
              have hcz44_6 := cz_ BK133 6 (.int .u8 x134006_3)
              have hcz44_7 := cz_ BK133 7 (.int .u8 x134007_3)
              have hcz44_8 := cz_ BK133 8 (.int .u8 x134008_3)
              have hcz44_9 := cz_ BK133 9 (.int .u8 x134009_3)
              have hcz44_10 := cz_ BK133 10 (.int .u8 x134010_3)
              have hcz44_11 := cz_ BK133 11 (.int .u8 x134011_3)
              have hcz44_12 := cz_ BK133 12 (.int .u8 x134012_3)
              have hcz44_13 := cz_ BK133 13 (.int .u8 x134013_3)
              have hcz44_14 := cz_ BK133 14 (.int .u8 x134014_3)
              have hcz44_15 := cz_ BK133 15 (.int .u8 x134015_3)
              have hcz44_16 := cz_ BK133 16 (.int .u8 x134016_3)
              have hcz44_17 : wr.cell? ⟨gb133, 17, none⟩ = some (.int .i64 ((rd_T56 y129 x5_2).f4)) := (blk_cell BK133.out 17).trans rfl
              have hfz44_0 := bf_ BK133 0
              have hfz44_1 := bf_ BK133 1
              have hfz44_2 := bf_ BK133 2
              have hfz44_3 := bf_ BK133 3
              have hfz44_4 := bf_ BK133 4
              have hfz44_5 := bf_ BK133 5
              have hfz44_6 := bf_ BK133 6
              have hfz44_7 := bf_ BK133 7
              have hfz44_8 := bf_ BK133 8
              have hfz44_9 := bf_ BK133 9
              have hfz44_10 := bf_ BK133 10
              have hfz44_11 := bf_ BK133 11
              have hfz44_12 := bf_ BK133 12
              have hfz44_13 := bf_ BK133 13
              have hfz44_14 := bf_ BK133 14
              have hfz44_15 := bf_ BK133 15
              have hfz44_16 := bf_ BK133 16
              have hfz44_17 := bf_ BK133 17
              go_wp2_with (first | ((with_reducible refine gate_store (t := 5) (p := 111) rfl ?_); refine store_event (t := 5) (p := 111) (v := ?vo_w45) (w1 := (wr.setCell ⟨gb133, 16, none⟩ (.int .u8 (((rd_T56 y129 x5_2).f3) % 256)))) ?hg ?ho ?hn ?hr ?_; (case ho => rfl); (case hg => rfl); (case hn => rfl); (case hr => first | (go_simp; done) | (go_simp; rfl)); intro w45 hw; have n0_ : Aside0 (Kd.R k34 34 w45 w.heap.size (fun k_ => k_ ≠ gb133) u1 x1_2) := ⟨(by rw [hw]; exact (by (with_reducible repeat (first | apply Kd.R_alloc | apply Kd.R_drewN | apply Kd.R_drew)); exact Kd.R_mono (Kd.R_far (p := ⟨gb133, 16, none⟩) (Kd.R_mono HO_1.out (fun k_ hk => (⟨hk, hk⟩ : _ ∧ k_ ≠ gb133))) (fun _ hk => hk.2) (.int .u8 (((rd_T56 y129 x5_2).f3) % 256))) (fun _ hk => hk.1)))⟩; have n1_ : Aside0 (Kd.R k56 56 w45 w.heap.size (fun _ => True) (.slice (some ad132) y129.length co18) y129) := ⟨(by rw [hw]; exact (by (with_reducible repeat (first | apply Kd.R_alloc | apply Kd.R_drewN | apply Kd.R_drew)); exact Kd.R_mono (Kd.R_far (p := ⟨gb133, 16, none⟩) (Kd.R_types HO_4.out BK133.out (by decide)) (fun _ hk => hk.2) (.int .u8 (((rd_T56 y129 x5_2).f3) % 256))) (fun _ hk => trivial)))⟩; have n2_ : Aside0 (w45.heap[gb133]? = some (.cells (nr_ true x134001_3 x134002_3 x134003_3 x134004_3 x134005_3 x134006_3 x134007_3 x134008_3 x134009_3 x134010_3 x134011_3 x134012_3 x134013_3 x134014_3 x134015_3 (((rd_T56 y129 x5_2).f3) % 256) ((rd_T56 y129 x5_2).f4)) 34 (0, 0))) := ⟨(by rw [hw]; exact (by (with_reducible repeat (first | refine blk_drewN ?_ _ | refine blk_drew ?_ | refine blk_alloc ?_ _)); refine blk_put (cs := (nr_ true x134001_3 x134002_3 x134003_3 x134004_3 x134005_3 x134006_3 x134007_3 x134008_3 x134009_3 x134010_3 x134011_3 x134012_3 x134013_3 x134014_3 x134015_3 x134016_3 ((rd_T56 y129 x5_2).f4))) ?_ 16 _ rfl; (with_reducible repeat (first | refine blk_drewN ?_ _ | refine blk_drew ?_ | refine blk_alloc ?_ _)); exact BK133.out))⟩; have n3_ : Aside0 (Below w.heap.size w w45) := ⟨(by rw [hw]; exact bg_)⟩; clear hw; clear HO_1; clear HO_4; clear BK133; clear HB; have HO_1 := n0_; have HO_4 := n1_; have BK133 := n2_; have HB := n3_; clear n0_ n1_ n2_ n3_) | ((with_reducible refine gate_dst (N := 113) rfl ?_); (try (refine gate_guard (by rfl) ?_; dsimp only)); refine load_box ?hg 34 (.tmp 6) rfl BK133.out [] (nt_ true x134001_3 x134002_3 x134003_3 x134004_3 x134005_3 x134006_3 x134007_3 x134008_3 x134009_3 x134010_3 x134011_3 x134012_3 x134013_3 x134014_3 x134015_3 (((rd_T56 y129 x5_2).f3) % 256) ((rd_T56 y129 x5_2).f4)) [] rfl 0 rfl rfl Tryd.underlying34 rfl (by kernel_rfl) ?_; (case hg => rfl)) | ((with_reducible refine gate_builtin (b := .append) (xs := #[.tmp 112, .tmp 114]) rfl ?_); at_builtin; refine Kd.R_append k34 (w0 := w) w.heap.size rfl (.tmp 112) (.tmp 114) 25 34 (.agg #[(.bool false), (.int .u8 0), (.int .u8 0), (.int .u8 0), (.int .u8 0), (.int .u8 0), (.int .u8 0), (.int .u8 0), (.int .u8 0), (.int .u8 0), (.int .u8 0), (.int .u8 0), (.int .u8 0), (.int .u8 0), (.int .u8 0), (.int .u8 0), (.int .u8 0), (.int .i64 0)]) 32 rfl Tryd.underlying25 info34 rfl (by decide) (by omega) u1 x1_2 (⟨(⟨true, (⟨x134001_3, x134002_3, x134003_3, x134004_3, x134005_3, x134006_3, x134007_3, x134008_3, x134009_3, x134010_3, x134011_3, x134012_3, x134013_3, x134014_3, x134015_3, ((rd_T56 y129 x5_2).f3) % 256⟩ : S22)⟩ : S24), ((rd_T56 y129 x5_2).f4)⟩ : S34) (nt_ true x134001_3 x134002_3 x134003_3 x134004_3 x134005_3 x134006_3 x134007_3 x134008_3 x134009_3 x134010_3 x134011_3 x134012_3 x134013_3 x134014_3 x134015_3 (((rd_T56 y129 x5_2).f3) % 256) ((rd_T56 y129 x5_2).f4)) (fun k_ => k_ ≠ gb133) (fun _ => False) rfl rfl ?aP (fun _ hk => hk.elim) ?aF ?aO ?aB ?aS ?aL ?_; (case aP => exact k34_mkM _ _ _ (⟨(⟨true, (⟨x134001_3, x134002_3, x134003_3, x134004_3, x134005_3, x134006_3, x134007_3, x134008_3, x134009_3, x134010_3, x134011_3, x134012_3, x134013_3, x134014_3, x134015_3, ((rd_T56 y129 x5_2).f3) % 256⟩ : S22)⟩ : S24), ((rd_T56 y129 x5_2).f4)⟩ : S34)); (case aB => exact bg_); (case aF => exact (fun k_ hk => Kd.freshB (g := gb133) (o := .cells (nr_ true x134001_3 x134002_3 x134003_3 x134004_3 x134005_3 x134006_3 x134007_3 x134008_3 x134009_3 x134010_3 x134011_3 x134012_3 x134013_3 x134014_3 x134015_3 (((rd_T56 y129 x5_2).f3) % 256) ((rd_T56 y129 x5_2).f4)) 34 (0, 0)) bk_ k_ hk)); (case aO => exact (by (with_reducible repeat (first | apply Kd.R_alloc | apply Kd.R_drewN | apply Kd.R_drew)); exact HO_1.out)); (case aS => exact (below_size bg_)); (case aL => have := LMc43.out; omega); intro v142 w46 ho hb hg hat; rw [← Ny141.out] at ho; replace HO_4 := Aside0.mk (Kd.R_over' (by (with_reducible repeat (first | apply Kd.R_alloc | apply Kd.R_drewN | apply Kd.R_drew)); exact HO_4.out) (Kd.R_typed (by (with_reducible repeat (first | apply Kd.R_alloc | apply Kd.R_drewN | apply Kd.R_drew)); exact HO_1.out)) (by decide) hg); replace BK133 := Aside0.mk (blk_grown (g := gb133) (o := .cells (nr_ true x134001_3 x134002_3 x134003_3 x134004_3 x134005_3 x134006_3 x134007_3 x134008_3 x134009_3 x134010_3 x134011_3 x134012_3 x134013_3 x134014_3 x134015_3 (((rd_T56 y129 x5_2).f3) % 256) ((rd_T56 y129 x5_2).f4)) 34 (0, 0)) bk_ hg (Kd.R_away HO_1.out (fun _ hk => hk))); have HO143 := Aside0.mk (ho); replace HB := Aside0.mk (hb); clear HO_1; clear ho hb hg hat))
              go_roundg k3
              case measure => have := HK1.out; have := HK2.out; have := HK3.out; omega
              case rel => exact ⟨(y141), (wrap64 (x5_2 + 1)), sq_, H', ⟨by have := HK1.out; have := HK2.out; have := HK3.out; omega⟩, ⟨by (with_reducible repeat (first | apply Kd.R_alloc | apply Kd.R_drewN | apply Kd.R_drew)); exact Kd.R_mono HO143.out (fun _ hk => trivial)⟩, ⟨by (with_reducible repeat (first | apply Kd.R_alloc | apply Kd.R_drewN | apply Kd.R_drew)); exact HO_4.out⟩, ⟨bg_⟩⟩
             ·rw [if_neg c43] at H
              exact absurd H (by simp)
            ·rw [if_neg c42] at H
             exact absurd H (by simp)
           ·rw [if_neg c41] at H
            exact absurd H (by simp)
       ·rw [if_neg c17] at H
        exact absurd H (by simp)
      ·rw [if_neg c16] at H
       have c16b0 := decide_eq_false c16
       clear c16
       obtain rfl := Option.some.inj H
       obtain ⟨Ao47, co47, eo47⟩ := Kd.R_slice HO_4.out
       subst eo47
       go_wp2
       go_ret
       exact ⟨_, rq_, by (with_reducible repeat (first | apply Kd.R_alloc | apply Kd.R_drewN | apply Kd.R_drew)); exact HO_1.out, bq_⟩

end Go.Proofs.YtdopafhppaalfaaDoor.K
