-- Written by a program of this session (wip/gen/lprint.py over the kit's print.py) out of the translation. Lean checks it.
import Derived.Test.YtfiefecjcmcejaaDoorP0
import Derived.Test.YtfiefecjcmcejaaDoorP1
import Derived.Test.YtfiefecjcmcejaaDoorP2
namespace Go.Proofs.YtfiefecjcmcejaaDoor.P
open Go.Proofs.YtfiefecjcmcejaaDoor.E Go.Proofs.YtfiefecjcmcejaaDoorV
open Go.RowKit Go.Proofs.YtfiefecjcmcejaaDoorW.PrintWords Go.Proofs.YtfiefecjcmcejaaDoorW.PrintLast Go.Proofs.YtfiefecjcmcejaaDoorW.PrintMore
attribute [local go_sem] max2_int min2_int max_two min_two max_three min_three max_four min_four   -- for this text's walks alone
set_option linter.unusedVariables false
set_option linter.unusedSimpArgs false

attribute [local go_sem high] eqA25
def ip_Check.f (a0_0 : Bool) (a0_1 : Int) (a0_2 : Int) (a0_3 : Int) (a0_4 : Int) (a0_5 : Int) (a0_6 : Int) (a0_7 : Int) (a0_8 : Int) (a0_9 : Int) (a0_10 : Int) (a0_11 : Int) (a0_12 : Int) (a0_13 : Int) (a0_14 : Int) (a0_15 : Int) (a0_16 : Int) : Option (Int) := if a0_0 = true then (some 0) else ((ip_V4.f a0_13 a0_14 a0_15 a0_16).bind fun bt190 => (if (!(a0_0 == bt190.1) || ((!(a0_1 == bt190.2.1) || (!(a0_2 == bt190.2.2.1) || (!(a0_3 == bt190.2.2.2.1) || (!(a0_4 == bt190.2.2.2.2.1) || (!(a0_5 == bt190.2.2.2.2.2.1) || (!(a0_6 == bt190.2.2.2.2.2.2.1) || (!(a0_7 == bt190.2.2.2.2.2.2.2.1) || (!(a0_8 == bt190.2.2.2.2.2.2.2.2.1) || (!(a0_9 == bt190.2.2.2.2.2.2.2.2.2.1) || (!(a0_10 == bt190.2.2.2.2.2.2.2.2.2.2.1) || (!(a0_11 == bt190.2.2.2.2.2.2.2.2.2.2.2.1) || (!(a0_12 == bt190.2.2.2.2.2.2.2.2.2.2.2.2.1) || (!(a0_13 == bt190.2.2.2.2.2.2.2.2.2.2.2.2.2.1) || (!(a0_14 == bt190.2.2.2.2.2.2.2.2.2.2.2.2.2.2.1) || (!(a0_15 == bt190.2.2.2.2.2.2.2.2.2.2.2.2.2.2.2.1) || (!(a0_16 == bt190.2.2.2.2.2.2.2.2.2.2.2.2.2.2.2.2))))))))))))))))))) = true then (some 1) else (some 0)))
def ip_Check.T1 : Bool × List (List Nat × List Nat) := (true, [([], []), ([0], [0]), ([1], [1]), ([2], [2]), ([3], [3]), ([3], [3]), ([5, 3], [3, 5]), ([6, 3], [3, 6]), ([3], [3]), ([8, 3], [3, 8]), ([9, 3], [3, 9]), ([3], [3]), ([11, 3], [3, 11]), ([12, 3], [3, 12]), ([3], [3]), ([14, 3], [3, 14]), ([15, 3], [3, 15]), ([7, 10, 13, 16, 3, 3], [3, 7, 10, 13, 16]), ([4, 17, 3], [3, 4, 17]), ([3, 18], [3, 18])])
def ip_Check.B1 : List Nat := [0, 1, 3, 7, 15, 15, 47, 111, 15, 271, 783, 15, 2063, 6159, 15, 16399, 49167, 131055, 262143, 524287]
theorem ip_Check.tab1 : rtab .any (opsOf Tryd.f13 1) = ip_Check.T1 := by kernel_rfl
theorem ip_Check.bits1 : waitsOk ip_Check.T1.2 ip_Check.B1 = true := by kernel_rfl
set_option maxHeartbeats 8000000 in
set_option maxRecDepth 100000 in
theorem ip_Check.calls (a0_0 : Bool) (a0_1 : Int) (a0_2 : Int) (a0_3 : Int) (a0_4 : Int) (a0_5 : Int) (a0_6 : Int) (a0_7 : Int) (a0_8 : Int) (a0_9 : Int) (a0_10 : Int) (a0_11 : Int) (a0_12 : Int) (a0_13 : Int) (a0_14 : Int) (a0_15 : Int) (a0_16 : Int) (r : Int) (w : World) (hLW : LW w) (h : ip_Check.f a0_0 a0_1 a0_2 a0_3 a0_4 a0_5 a0_6 a0_7 a0_8 a0_9 a0_10 a0_11 a0_12 a0_13 a0_14 a0_15 a0_16 = some r) :
  Calls Tryd.prog 13 #[.agg #[.bool a0_0, .int .u8 a0_1, .int .u8 a0_2, .int .u8 a0_3, .int .u8 a0_4, .int .u8 a0_5, .int .u8 a0_6, .int .u8 a0_7, .int .u8 a0_8, .int .u8 a0_9, .int .u8 a0_10, .int .u8 a0_11, .int .u8 a0_12, .int .u8 a0_13, .int .u8 a0_14, .int .u8 a0_15, .int .u8 a0_16]] w fun e w' => e = .returned (.int .i64 r) ∧ Below w.heap.size w w' := by
 have hu25 := Tryd.underlying25
 have HLW := Aside0.mk hLW
 clear hLW
 have HB := Aside0.mk (Below.refl w.heap.size w)
 have H : (if a0_0 = true then (some 0) else ((ip_V4.f a0_13 a0_14 a0_15 a0_16).bind fun bt190 => (if (!(a0_0 == bt190.1) || ((!(a0_1 == bt190.2.1) || (!(a0_2 == bt190.2.2.1) || (!(a0_3 == bt190.2.2.2.1) || (!(a0_4 == bt190.2.2.2.2.1) || (!(a0_5 == bt190.2.2.2.2.2.1) || (!(a0_6 == bt190.2.2.2.2.2.2.1) || (!(a0_7 == bt190.2.2.2.2.2.2.2.1) || (!(a0_8 == bt190.2.2.2.2.2.2.2.2.1) || (!(a0_9 == bt190.2.2.2.2.2.2.2.2.2.1) || (!(a0_10 == bt190.2.2.2.2.2.2.2.2.2.2.1) || (!(a0_11 == bt190.2.2.2.2.2.2.2.2.2.2.2.1) || (!(a0_12 == bt190.2.2.2.2.2.2.2.2.2.2.2.2.1) || (!(a0_13 == bt190.2.2.2.2.2.2.2.2.2.2.2.2.2.1) || (!(a0_14 == bt190.2.2.2.2.2.2.2.2.2.2.2.2.2.2.1) || (!(a0_15 == bt190.2.2.2.2.2.2.2.2.2.2.2.2.2.2.2.1) || (!(a0_16 == bt190.2.2.2.2.2.2.2.2.2.2.2.2.2.2.2.2))))))))))))))))))) = true then (some 1) else (some 0)))) = some r := h
 clear h
 by_cases c2 : a0_0 = true
 ·subst c2
  have H1 : (some 0) = some r := by rw [if_pos rfl] at H; exact H
  clear H
  have H := H1
  clear H1
  obtain rfl := Option.some.inj H
  go_enter Tryd.func13, Tryd.ntmps13
  try go_wp2_with (first | ((with_reducible refine gate_dst (N := 1) rfl ?_); refine box_event ?hg (N := 1) ?hd (cs := #[.bool true, .int .u8 a0_1, .int .u8 a0_2, .int .u8 a0_3, .int .u8 a0_4, .int .u8 a0_5, .int .u8 a0_6, .int .u8 a0_7, .int .u8 a0_8, .int .u8 a0_9, .int .u8 a0_10, .int .u8 a0_11, .int .u8 a0_12, .int .u8 a0_13, .int .u8 a0_14, .int .u8 a0_15, .int .u8 a0_16]) (t := 25) ?hr ?_; (case hd => rfl); (case hg => rfl); (case hr => first | (go_simp; done) | (go_simp; rfl)); intro gb189 hg w3 hbox hb; have n0_ := Aside0.mk (below_step (by repeat (first | (with_reducible first | exact HB.out | apply below_alloc | apply pw_below_drewN | apply below_drew1) | exact HB.out)) hb); have n1_ := Aside0.mk (hbox); have n2_ := Aside0.mk ((by rw [hg]; exact (below_size (by repeat (first | (with_reducible first | exact HB.out | apply below_alloc | apply pw_below_drewN | apply below_drew1) | exact HB.out))) : w.heap.size ≤ gb189)); have n3_ := Aside0.mk ((by rw [hg]; exact (below_size (by repeat (first | (with_reducible first | exact HB.out | apply below_alloc | apply pw_below_drewN | apply below_drew1) | exact HB.out))) : w.heap.size ≤ gb189)); clear HB; have HB := n0_; have BK189 := n1_; have GW189 := n2_; have GE189 := n3_; clear n0_ n1_ n2_ n3_; clear hb hbox hg))
  have n0_ := Aside0.mk (blk_drew BK189.out)
  have n1_ := Aside0.mk (below_drew1 HB.out)
  clear BK189
  clear HB
  have BK189 := n0_
  have HB := n1_
  clear n0_ n1_
  refine start_ (n := 20) (S := fun w' => w'.cell? ⟨gb189, 0, none⟩ = some (.bool true) ∧ w'.cell? ⟨gb189, 1, none⟩ = some (.int .u8 a0_1) ∧ w'.cell? ⟨gb189, 2, none⟩ = some (.int .u8 a0_2) ∧ w'.cell? ⟨gb189, 3, none⟩ = some (.int .u8 a0_3) ∧ w'.cell? ⟨gb189, 4, none⟩ = some (.int .u8 a0_4) ∧ w'.cell? ⟨gb189, 5, none⟩ = some (.int .u8 a0_5) ∧ w'.cell? ⟨gb189, 6, none⟩ = some (.int .u8 a0_6) ∧ w'.cell? ⟨gb189, 7, none⟩ = some (.int .u8 a0_7) ∧ w'.cell? ⟨gb189, 8, none⟩ = some (.int .u8 a0_8) ∧ w'.cell? ⟨gb189, 9, none⟩ = some (.int .u8 a0_9) ∧ w'.cell? ⟨gb189, 10, none⟩ = some (.int .u8 a0_10) ∧ w'.cell? ⟨gb189, 11, none⟩ = some (.int .u8 a0_11) ∧ w'.cell? ⟨gb189, 12, none⟩ = some (.int .u8 a0_12) ∧ w'.cell? ⟨gb189, 13, none⟩ = some (.int .u8 a0_13) ∧ w'.cell? ⟨gb189, 14, none⟩ = some (.int .u8 a0_14) ∧ w'.cell? ⟨gb189, 15, none⟩ = some (.int .u8 a0_15) ∧ w'.cell? ⟨gb189, 16, none⟩ = some (.int .u8 a0_16)) (ds := []) #[false, false, false, false, false, false, false, false, false, false, false, false, false, false, false, false, false, false, false, false] (by kernel_rfl) rfl rfl ⟨(blk_cell BK189.out 0).trans rfl, (blk_cell BK189.out 1).trans rfl, (blk_cell BK189.out 2).trans rfl, (blk_cell BK189.out 3).trans rfl, (blk_cell BK189.out 4).trans rfl, (blk_cell BK189.out 5).trans rfl, (blk_cell BK189.out 6).trans rfl, (blk_cell BK189.out 7).trans rfl, (blk_cell BK189.out 8).trans rfl, (blk_cell BK189.out 9).trans rfl, (blk_cell BK189.out 10).trans rfl, (blk_cell BK189.out 11).trans rfl, (blk_cell BK189.out 12).trans rfl, (blk_cell BK189.out 13).trans rfl, (blk_cell BK189.out 14).trans rfl, (blk_cell BK189.out 15).trans rfl, (blk_cell BK189.out 16).trans rfl⟩ (fun hHeld => ?_); refine with_tabW ip_Check.tab1 ip_Check.bits1 (fun HT_ HW_ => ?_)
  generalize w3.drew = w4 at BK189 HB hHeld ⊢
  refine pure_ (i := 0) (N := some 3) (v := ?_) (a' := ?_) #[true, false, false, false, false, false, false, false, false, false, false, false, false, false, false, false, false, false, false, false] rfl rfl (any_of HT_.out (by kernel_rfl)) (fun _ _ _ h => h) (Or.inl ⟨by rfl, ?_⟩) ?_ ?_
  rotate_left
  ·intro w'
   go_simp
   with_reducible rfl
  rotate_left
  ·simp only [Act.put, List.setIfInBounds_toArray, List.set_cons_zero, List.set_cons_succ, i64_w, i32_w]
   rfl
  refine take_ (i := 1) (N := some 4) (v := ?_) (a' := ?_) #[true, true, false, false, false, false, false, false, false, false, false, false, false, false, false, false, false, false, false, false] rfl rfl (take_ofW HT_.out HW_.out (by kernel_rfl)) (fun _ _ _ h => h) (Or.inl ⟨by rfl, ?_⟩) hHeld ?_ ?_
  rotate_left
  ·rintro w' ⟨s0, s1, s2, s3, s4, s5, s6, s7, s8, s9, s10, s11, s12, s13, s14, s15, s16⟩
   first | (refine (load_exec rfl rfl s0).trans ?_; with_reducible rfl) | (refine (load_exec rfl rfl s1).trans ?_; with_reducible rfl) | (refine (load_exec rfl rfl s2).trans ?_; with_reducible rfl) | (refine (load_exec rfl rfl s3).trans ?_; with_reducible rfl) | (refine (load_exec rfl rfl s4).trans ?_; with_reducible rfl) | (refine (load_exec rfl rfl s5).trans ?_; with_reducible rfl) | (refine (load_exec rfl rfl s6).trans ?_; with_reducible rfl) | (refine (load_exec rfl rfl s7).trans ?_; with_reducible rfl) | (refine (load_exec rfl rfl s8).trans ?_; with_reducible rfl) | (refine (load_exec rfl rfl s9).trans ?_; with_reducible rfl) | (refine (load_exec rfl rfl s10).trans ?_; with_reducible rfl) | (refine (load_exec rfl rfl s11).trans ?_; with_reducible rfl) | (refine (load_exec rfl rfl s12).trans ?_; with_reducible rfl) | (refine (load_exec rfl rfl s13).trans ?_; with_reducible rfl) | (refine (load_exec rfl rfl s14).trans ?_; with_reducible rfl) | (refine (load_exec rfl rfl s15).trans ?_; with_reducible rfl) | (refine (load_exec rfl rfl s16).trans ?_; with_reducible rfl) | (go_simp; with_reducible rfl)
  rotate_left
  ·simp only [Act.put, List.setIfInBounds_toArray, List.set_cons_zero, List.set_cons_succ, i64_w, i32_w]
   rfl
  refine pure_ (i := 2) (N := some 5) (v := ?_) (a' := ?_) #[true, true, true, false, false, false, false, false, false, false, false, false, false, false, false, false, false, false, false, false] rfl rfl (any_of HT_.out (by kernel_rfl)) (fun _ _ _ h => h) (Or.inl ⟨by rfl, ?_⟩) ?_ ?_
  rotate_left
  ·intro w'
   go_simp
   with_reducible rfl
  rotate_left
  ·simp only [Act.put, List.setIfInBounds_toArray, List.set_cons_zero, List.set_cons_succ, i64_w, i32_w]
   rfl
  refine pure_ (i := 3) (N := some 6) (v := ?_) (a' := ?_) #[true, true, true, true, false, false, false, false, false, false, false, false, false, false, false, false, false, false, false, false] rfl rfl (any_of HT_.out (by kernel_rfl)) (fun _ _ _ h => h) (Or.inl ⟨by rfl, ?_⟩) ?_ ?_
  rotate_left
  ·intro w'
   go_simp
   with_reducible rfl
  rotate_left
  ·simp only [Act.put, List.setIfInBounds_toArray, List.set_cons_zero, List.set_cons_succ, i64_w, i32_w]
   rfl
  refine pure_ (i := 4) (N := some 7) (v := undef) (a' := ?_) #[true, true, true, true, true, false, false, false, false, false, false, false, false, false, false, false, false, false, false, false] rfl rfl (any_of HT_.out (by kernel_rfl)) (fun _ _ _ h => h) (Or.inr ⟨by rfl, rfl⟩) ?_ ?_
  rotate_left
  ·simp only [Act.put, List.setIfInBounds_toArray, List.set_cons_zero, List.set_cons_succ, i64_w, i32_w]
   rfl
  refine pure_ (i := 5) (N := some 8) (v := undef) (a' := ?_) #[true, true, true, true, true, true, false, false, false, false, false, false, false, false, false, false, false, false, false, false] rfl rfl (any_of HT_.out (by kernel_rfl)) (fun _ _ _ h => h) (Or.inr ⟨by rfl, rfl⟩) ?_ ?_
  rotate_left
  ·simp only [Act.put, List.setIfInBounds_toArray, List.set_cons_zero, List.set_cons_succ, i64_w, i32_w]
   rfl
  refine pure_ (i := 6) (N := some 9) (v := undef) (a' := ?_) #[true, true, true, true, true, true, true, false, false, false, false, false, false, false, false, false, false, false, false, false] rfl rfl (any_of HT_.out (by kernel_rfl)) (fun _ _ _ h => h) (Or.inr ⟨by rfl, rfl⟩) ?_ ?_
  rotate_left
  ·simp only [Act.put, List.setIfInBounds_toArray, List.set_cons_zero, List.set_cons_succ, i64_w, i32_w]
   rfl
  refine pure_ (i := 7) (N := some 10) (v := undef) (a' := ?_) #[true, true, true, true, true, true, true, true, false, false, false, false, false, false, false, false, false, false, false, false] rfl rfl (any_of HT_.out (by kernel_rfl)) (fun _ _ _ h => h) (Or.inr ⟨by rfl, rfl⟩) ?_ ?_
  rotate_left
  ·simp only [Act.put, List.setIfInBounds_toArray, List.set_cons_zero, List.set_cons_succ, i64_w, i32_w]
   rfl
  refine pure_ (i := 8) (N := some 11) (v := undef) (a' := ?_) #[true, true, true, true, true, true, true, true, true, false, false, false, false, false, false, false, false, false, false, false] rfl rfl (any_of HT_.out (by kernel_rfl)) (fun _ _ _ h => h) (Or.inr ⟨by rfl, rfl⟩) ?_ ?_
  rotate_left
  ·simp only [Act.put, List.setIfInBounds_toArray, List.set_cons_zero, List.set_cons_succ, i64_w, i32_w]
   rfl
  refine pure_ (i := 9) (N := some 12) (v := undef) (a' := ?_) #[true, true, true, true, true, true, true, true, true, true, false, false, false, false, false, false, false, false, false, false] rfl rfl (any_of HT_.out (by kernel_rfl)) (fun _ _ _ h => h) (Or.inr ⟨by rfl, rfl⟩) ?_ ?_
  rotate_left
  ·simp only [Act.put, List.setIfInBounds_toArray, List.set_cons_zero, List.set_cons_succ, i64_w, i32_w]
   rfl
  refine pure_ (i := 10) (N := some 13) (v := undef) (a' := ?_) #[true, true, true, true, true, true, true, true, true, true, true, false, false, false, false, false, false, false, false, false] rfl rfl (any_of HT_.out (by kernel_rfl)) (fun _ _ _ h => h) (Or.inr ⟨by rfl, rfl⟩) ?_ ?_
  rotate_left
  ·simp only [Act.put, List.setIfInBounds_toArray, List.set_cons_zero, List.set_cons_succ, i64_w, i32_w]
   rfl
  refine pure_ (i := 11) (N := some 14) (v := undef) (a' := ?_) #[true, true, true, true, true, true, true, true, true, true, true, true, false, false, false, false, false, false, false, false] rfl rfl (any_of HT_.out (by kernel_rfl)) (fun _ _ _ h => h) (Or.inr ⟨by rfl, rfl⟩) ?_ ?_
  rotate_left
  ·simp only [Act.put, List.setIfInBounds_toArray, List.set_cons_zero, List.set_cons_succ, i64_w, i32_w]
   rfl
  refine pure_ (i := 12) (N := some 15) (v := undef) (a' := ?_) #[true, true, true, true, true, true, true, true, true, true, true, true, true, false, false, false, false, false, false, false] rfl rfl (any_of HT_.out (by kernel_rfl)) (fun _ _ _ h => h) (Or.inr ⟨by rfl, rfl⟩) ?_ ?_
  rotate_left
  ·simp only [Act.put, List.setIfInBounds_toArray, List.set_cons_zero, List.set_cons_succ, i64_w, i32_w]
   rfl
  refine pure_ (i := 13) (N := some 16) (v := undef) (a' := ?_) #[true, true, true, true, true, true, true, true, true, true, true, true, true, true, false, false, false, false, false, false] rfl rfl (any_of HT_.out (by kernel_rfl)) (fun _ _ _ h => h) (Or.inr ⟨by rfl, rfl⟩) ?_ ?_
  rotate_left
  ·simp only [Act.put, List.setIfInBounds_toArray, List.set_cons_zero, List.set_cons_succ, i64_w, i32_w]
   rfl
  refine pure_ (i := 14) (N := some 17) (v := undef) (a' := ?_) #[true, true, true, true, true, true, true, true, true, true, true, true, true, true, true, false, false, false, false, false] rfl rfl (any_of HT_.out (by kernel_rfl)) (fun _ _ _ h => h) (Or.inr ⟨by rfl, rfl⟩) ?_ ?_
  rotate_left
  ·simp only [Act.put, List.setIfInBounds_toArray, List.set_cons_zero, List.set_cons_succ, i64_w, i32_w]
   rfl
  refine pure_ (i := 15) (N := some 18) (v := undef) (a' := ?_) #[true, true, true, true, true, true, true, true, true, true, true, true, true, true, true, true, false, false, false, false] rfl rfl (any_of HT_.out (by kernel_rfl)) (fun _ _ _ h => h) (Or.inr ⟨by rfl, rfl⟩) ?_ ?_
  rotate_left
  ·simp only [Act.put, List.setIfInBounds_toArray, List.set_cons_zero, List.set_cons_succ, i64_w, i32_w]
   rfl
  refine pure_ (i := 16) (N := some 19) (v := undef) (a' := ?_) #[true, true, true, true, true, true, true, true, true, true, true, true, true, true, true, true, true, false, false, false] rfl rfl (any_of HT_.out (by kernel_rfl)) (fun _ _ _ h => h) (Or.inr ⟨by rfl, rfl⟩) ?_ ?_
  rotate_left
  ·simp only [Act.put, List.setIfInBounds_toArray, List.set_cons_zero, List.set_cons_succ, i64_w, i32_w]
   rfl
  refine pure_ (i := 17) (N := some 20) (v := undef) (a' := ?_) #[true, true, true, true, true, true, true, true, true, true, true, true, true, true, true, true, true, true, false, false] rfl rfl (any_of HT_.out (by kernel_rfl)) (fun _ _ _ h => h) (Or.inr ⟨by rfl, rfl⟩) ?_ ?_
  rotate_left
  ·simp only [Act.put, List.setIfInBounds_toArray, List.set_cons_zero, List.set_cons_succ, i64_w, i32_w]
   rfl
  refine pure_ (i := 18) (N := some 21) (v := undef) (a' := ?_) #[true, true, true, true, true, true, true, true, true, true, true, true, true, true, true, true, true, true, true, false] rfl rfl (any_of HT_.out (by kernel_rfl)) (fun _ _ _ h => h) (Or.inr ⟨by rfl, rfl⟩) ?_ ?_
  rotate_left
  ·simp only [Act.put, List.setIfInBounds_toArray, List.set_cons_zero, List.set_cons_succ, i64_w, i32_w]
   rfl
  refine pure_ (i := 19) (N := some 22) (v := ?_) (a' := ?_) #[true, true, true, true, true, true, true, true, true, true, true, true, true, true, true, true, true, true, true, true] rfl rfl (any_of HT_.out (by kernel_rfl)) (fun _ _ _ h => h) (Or.inl ⟨by rfl, ?_⟩) ?_ ?_
  rotate_left
  ·intro w'
   go_simp
   with_reducible rfl
  rotate_left
  ·simp only [Act.put, List.setIfInBounds_toArray, List.set_cons_zero, List.set_cons_succ, i64_w, i32_w]
   rfl
  refine done_ (done_of HT_.out (by kernel_rfl)) ?_
  try go_wp2
  go_ret
  exact ⟨by first | rfl | (simp [errW_none, errW_some] <;> rfl) | (simp [*, errW_none, errW_some] <;> rfl) | (simp [errW_none, errW_some]; first | exact isEmpty_bne _ | exact isEmpty_beq _ | exact (isEmpty_bne _).symm), by repeat (first | (with_reducible first | exact HB.out | apply below_alloc | apply pw_below_drewN | apply below_drew1 | refine below_set ?_ GE189.out) | exact HB.out)⟩
 ·replace c2 := Bool.eq_false_iff.mpr c2
  subst c2
  have H1 : ((ip_V4.f a0_13 a0_14 a0_15 a0_16).bind fun bt190 => (if (!(false == bt190.1) || ((!(a0_1 == bt190.2.1) || (!(a0_2 == bt190.2.2.1) || (!(a0_3 == bt190.2.2.2.1) || (!(a0_4 == bt190.2.2.2.2.1) || (!(a0_5 == bt190.2.2.2.2.2.1) || (!(a0_6 == bt190.2.2.2.2.2.2.1) || (!(a0_7 == bt190.2.2.2.2.2.2.2.1) || (!(a0_8 == bt190.2.2.2.2.2.2.2.2.1) || (!(a0_9 == bt190.2.2.2.2.2.2.2.2.2.1) || (!(a0_10 == bt190.2.2.2.2.2.2.2.2.2.2.1) || (!(a0_11 == bt190.2.2.2.2.2.2.2.2.2.2.2.1) || (!(a0_12 == bt190.2.2.2.2.2.2.2.2.2.2.2.2.1) || (!(a0_13 == bt190.2.2.2.2.2.2.2.2.2.2.2.2.2.1) || (!(a0_14 == bt190.2.2.2.2.2.2.2.2.2.2.2.2.2.2.1) || (!(a0_15 == bt190.2.2.2.2.2.2.2.2.2.2.2.2.2.2.2.1) || (!(a0_16 == bt190.2.2.2.2.2.2.2.2.2.2.2.2.2.2.2.2))))))))))))))))))) = true then (some 1) else (some 0))) = some r := by rw [if_neg (show ¬ (false = true) by decide)] at H; exact H
  clear H
  have H := H1
  clear H1
  replace H := Option.bind_eq_some_iff.mp H
  obtain ⟨⟨t190, t191, t192, t193, t194, t195, t196, t197, t198, t199, t200, t201, t202, t203, t204, t205, t206⟩, A50, H⟩ := H
  replace H : (if (!(false == t190) || ((!(a0_1 == t191) || (!(a0_2 == t192) || (!(a0_3 == t193) || (!(a0_4 == t194) || (!(a0_5 == t195) || (!(a0_6 == t196) || (!(a0_7 == t197) || (!(a0_8 == t198) || (!(a0_9 == t199) || (!(a0_10 == t200) || (!(a0_11 == t201) || (!(a0_12 == t202) || (!(a0_13 == t203) || (!(a0_14 == t204) || (!(a0_15 == t205) || (!(a0_16 == t206))))))))))))))))))) = true then (some 1) else (some 0)) = some r := H
  have A5 := Aside0.mk A50
  clear A50
  by_cases c6 : (!(false == t190) || ((!(a0_1 == t191) || (!(a0_2 == t192) || (!(a0_3 == t193) || (!(a0_4 == t194) || (!(a0_5 == t195) || (!(a0_6 == t196) || (!(a0_7 == t197) || (!(a0_8 == t198) || (!(a0_9 == t199) || (!(a0_10 == t200) || (!(a0_11 == t201) || (!(a0_12 == t202) || (!(a0_13 == t203) || (!(a0_14 == t204) || (!(a0_15 == t205) || (!(a0_16 == t206))))))))))))))))))) = true
  ·rw [if_pos c6] at H
   have c6b0 : (!(false == t190) || ((!(a0_1 == t191) || (!(a0_2 == t192) || (!(a0_3 == t193) || (!(a0_4 == t194) || (!(a0_5 == t195) || (!(a0_6 == t196) || (!(a0_7 == t197) || (!(a0_8 == t198) || (!(a0_9 == t199) || (!(a0_10 == t200) || (!(a0_11 == t201) || (!(a0_12 == t202) || (!(a0_13 == t203) || (!(a0_14 == t204) || (!(a0_15 == t205) || (!(a0_16 == t206))))))))))))))))))) = true := c6
   try (have c6bs := c6b0; simp only [Bool.false_beq, Bool.true_beq, beq_false, beq_true, Bool.not_not] at c6bs)
   clear c6
   obtain rfl := Option.some.inj H
   go_enter Tryd.func13, Tryd.ntmps13
   try go_wp2_with (first | ((with_reducible refine gate_dst (N := 1) rfl ?_); refine box_event ?hg (N := 1) ?hd (cs := #[.bool false, .int .u8 a0_1, .int .u8 a0_2, .int .u8 a0_3, .int .u8 a0_4, .int .u8 a0_5, .int .u8 a0_6, .int .u8 a0_7, .int .u8 a0_8, .int .u8 a0_9, .int .u8 a0_10, .int .u8 a0_11, .int .u8 a0_12, .int .u8 a0_13, .int .u8 a0_14, .int .u8 a0_15, .int .u8 a0_16]) (t := 25) ?hr ?_; (case hd => rfl); (case hg => rfl); (case hr => first | (go_simp; done) | (go_simp; rfl)); intro gb189 hg w7 hbox hb; have n0_ := Aside0.mk (below_step (by repeat (first | (with_reducible first | exact HB.out | apply below_alloc | apply pw_below_drewN | apply below_drew1) | exact HB.out)) hb); have n1_ := Aside0.mk (hbox); have n2_ := Aside0.mk ((by rw [hg]; exact (below_size (by repeat (first | (with_reducible first | exact HB.out | apply below_alloc | apply pw_below_drewN | apply below_drew1) | exact HB.out))) : w.heap.size ≤ gb189)); have n3_ := Aside0.mk ((by rw [hg]; exact (below_size (by repeat (first | (with_reducible first | exact HB.out | apply below_alloc | apply pw_below_drewN | apply below_drew1) | exact HB.out))) : w.heap.size ≤ gb189)); clear HB; have HB := n0_; have BK189 := n1_; have GW189 := n2_; have GE189 := n3_; clear n0_ n1_ n2_ n3_; clear hb hbox hg))
   have n0_ := Aside0.mk (blk_drew BK189.out)
   have n1_ := Aside0.mk (below_drew1 HB.out)
   clear BK189
   clear HB
   have BK189 := n0_
   have HB := n1_
   clear n0_ n1_
   refine start_ (n := 20) (S := fun w' => w'.cell? ⟨gb189, 0, none⟩ = some (.bool false) ∧ w'.cell? ⟨gb189, 1, none⟩ = some (.int .u8 a0_1) ∧ w'.cell? ⟨gb189, 2, none⟩ = some (.int .u8 a0_2) ∧ w'.cell? ⟨gb189, 3, none⟩ = some (.int .u8 a0_3) ∧ w'.cell? ⟨gb189, 4, none⟩ = some (.int .u8 a0_4) ∧ w'.cell? ⟨gb189, 5, none⟩ = some (.int .u8 a0_5) ∧ w'.cell? ⟨gb189, 6, none⟩ = some (.int .u8 a0_6) ∧ w'.cell? ⟨gb189, 7, none⟩ = some (.int .u8 a0_7) ∧ w'.cell? ⟨gb189, 8, none⟩ = some (.int .u8 a0_8) ∧ w'.cell? ⟨gb189, 9, none⟩ = some (.int .u8 a0_9) ∧ w'.cell? ⟨gb189, 10, none⟩ = some (.int .u8 a0_10) ∧ w'.cell? ⟨gb189, 11, none⟩ = some (.int .u8 a0_11) ∧ w'.cell? ⟨gb189, 12, none⟩ = some (.int .u8 a0_12) ∧ w'.cell? ⟨gb189, 13, none⟩ = some (.int .u8 a0_13) ∧ w'.cell? ⟨gb189, 14, none⟩ = some (.int .u8 a0_14) ∧ w'.cell? ⟨gb189, 15, none⟩ = some (.int .u8 a0_15) ∧ w'.cell? ⟨gb189, 16, none⟩ = some (.int .u8 a0_16) ∧ (Instr.loadAt 25 (.pointer (some ⟨gb189, 0, none⟩))).run Tryd.prog w' = .ok (.agg #[.bool false, .int .u8 a0_1, .int .u8 a0_2, .int .u8 a0_3, .int .u8 a0_4, .int .u8 a0_5, .int .u8 a0_6, .int .u8 a0_7, .int .u8 a0_8, .int .u8 a0_9, .int .u8 a0_10, .int .u8 a0_11, .int .u8 a0_12, .int .u8 a0_13, .int .u8 a0_14, .int .u8 a0_15, .int .u8 a0_16]) w') (ds := []) #[false, false, false, false, false, false, false, false, false, false, false, false, false, false, false, false, false, false, false, false] (by kernel_rfl) rfl rfl ⟨(blk_cell BK189.out 0).trans rfl, (blk_cell BK189.out 1).trans rfl, (blk_cell BK189.out 2).trans rfl, (blk_cell BK189.out 3).trans rfl, (blk_cell BK189.out 4).trans rfl, (blk_cell BK189.out 5).trans rfl, (blk_cell BK189.out 6).trans rfl, (blk_cell BK189.out 7).trans rfl, (blk_cell BK189.out 8).trans rfl, (blk_cell BK189.out 9).trans rfl, (blk_cell BK189.out 10).trans rfl, (blk_cell BK189.out 11).trans rfl, (blk_cell BK189.out 12).trans rfl, (blk_cell BK189.out 13).trans rfl, (blk_cell BK189.out 14).trans rfl, (blk_cell BK189.out 15).trans rfl, (blk_cell BK189.out 16).trans rfl, (run_load_box BK189.out 25 [] [.bool false, .int .u8 a0_1, .int .u8 a0_2, .int .u8 a0_3, .int .u8 a0_4, .int .u8 a0_5, .int .u8 a0_6, .int .u8 a0_7, .int .u8 a0_8, .int .u8 a0_9, .int .u8 a0_10, .int .u8 a0_11, .int .u8 a0_12, .int .u8 a0_13, .int .u8 a0_14, .int .u8 a0_15, .int .u8 a0_16] [] rfl 0 rfl Tryd.underlying25 rfl (by kernel_rfl))⟩ (fun hHeld => ?_); refine with_tabW ip_Check.tab1 ip_Check.bits1 (fun HT_ HW_ => ?_)
   generalize w7.drew = w8 at BK189 HB hHeld ⊢
   refine pure_ (i := 0) (N := some 3) (v := ?_) (a' := ?_) #[true, false, false, false, false, false, false, false, false, false, false, false, false, false, false, false, false, false, false, false] rfl rfl (any_of HT_.out (by kernel_rfl)) (fun _ _ _ h => h) (Or.inl ⟨by rfl, ?_⟩) ?_ ?_
   rotate_left
   ·intro w'
    go_simp
    with_reducible rfl
   rotate_left
   ·simp only [Act.put, List.setIfInBounds_toArray, List.set_cons_zero, List.set_cons_succ, i64_w, i32_w]
    rfl
   refine take_ (i := 1) (N := some 4) (v := ?_) (a' := ?_) #[true, true, false, false, false, false, false, false, false, false, false, false, false, false, false, false, false, false, false, false] rfl rfl (take_ofW HT_.out HW_.out (by kernel_rfl)) (fun _ _ _ h => h) (Or.inl ⟨by rfl, ?_⟩) hHeld ?_ ?_
   rotate_left
   ·rintro w' ⟨s0, s1, s2, s3, s4, s5, s6, s7, s8, s9, s10, s11, s12, s13, s14, s15, s16, s17⟩
    first | (refine (load_exec rfl rfl s0).trans ?_; with_reducible rfl) | (refine (load_exec rfl rfl s1).trans ?_; with_reducible rfl) | (refine (load_exec rfl rfl s2).trans ?_; with_reducible rfl) | (refine (load_exec rfl rfl s3).trans ?_; with_reducible rfl) | (refine (load_exec rfl rfl s4).trans ?_; with_reducible rfl) | (refine (load_exec rfl rfl s5).trans ?_; with_reducible rfl) | (refine (load_exec rfl rfl s6).trans ?_; with_reducible rfl) | (refine (load_exec rfl rfl s7).trans ?_; with_reducible rfl) | (refine (load_exec rfl rfl s8).trans ?_; with_reducible rfl) | (refine (load_exec rfl rfl s9).trans ?_; with_reducible rfl) | (refine (load_exec rfl rfl s10).trans ?_; with_reducible rfl) | (refine (load_exec rfl rfl s11).trans ?_; with_reducible rfl) | (refine (load_exec rfl rfl s12).trans ?_; with_reducible rfl) | (refine (load_exec rfl rfl s13).trans ?_; with_reducible rfl) | (refine (load_exec rfl rfl s14).trans ?_; with_reducible rfl) | (refine (load_exec rfl rfl s15).trans ?_; with_reducible rfl) | (refine (load_exec rfl rfl s16).trans ?_; with_reducible rfl) | (refine (load_exec rfl rfl s17).trans ?_; with_reducible rfl) | (go_simp; with_reducible rfl)
   rotate_left
   ·simp only [Act.put, List.setIfInBounds_toArray, List.set_cons_zero, List.set_cons_succ, i64_w, i32_w]
    rfl
   refine pure_ (i := 2) (N := some 5) (v := ?_) (a' := ?_) #[true, true, true, false, false, false, false, false, false, false, false, false, false, false, false, false, false, false, false, false] rfl rfl (any_of HT_.out (by kernel_rfl)) (fun _ _ _ h => h) (Or.inl ⟨by rfl, ?_⟩) ?_ ?_
   rotate_left
   ·intro w'
    go_simp
    with_reducible rfl
   rotate_left
   ·simp only [Act.put, List.setIfInBounds_toArray, List.set_cons_zero, List.set_cons_succ, i64_w, i32_w]
    rfl
   refine pure_ (i := 3) (N := some 6) (v := ?_) (a' := ?_) #[true, true, true, true, false, false, false, false, false, false, false, false, false, false, false, false, false, false, false, false] rfl rfl (any_of HT_.out (by kernel_rfl)) (fun _ _ _ h => h) (Or.inl ⟨by rfl, ?_⟩) ?_ ?_
   rotate_left
   ·intro w'
    go_simp
    with_reducible rfl
   rotate_left
   ·simp only [Act.put, List.setIfInBounds_toArray, List.set_cons_zero, List.set_cons_succ, i64_w, i32_w]
    rfl
   refine pure_ (i := 5) (N := some 8) (v := ?_) (a' := ?_) #[true, true, true, true, false, true, false, false, false, false, false, false, false, false, false, false, false, false, false, false] rfl rfl (any_of HT_.out (by kernel_rfl)) (fun _ _ _ h => h) (Or.inl ⟨by rfl, ?_⟩) ?_ ?_
   rotate_left
   ·intro w'
    go_simp
    with_reducible rfl
   rotate_left
   ·simp only [Act.put, List.setIfInBounds_toArray, List.set_cons_zero, List.set_cons_succ, i64_w, i32_w]
    rfl
   refine pure_ (i := 6) (N := some 9) (v := ?_) (a' := ?_) #[true, true, true, true, false, true, true, false, false, false, false, false, false, false, false, false, false, false, false, false] rfl rfl (any_of HT_.out (by kernel_rfl)) (fun _ _ _ h => h) (Or.inl ⟨by rfl, ?_⟩) ?_ ?_
   rotate_left
   ·intro w'
    go_simp
    with_reducible rfl
   rotate_left
   ·simp only [Act.put, List.setIfInBounds_toArray, List.set_cons_zero, List.set_cons_succ, i64_w, i32_w]
    rfl
   refine pure_ (i := 8) (N := some 11) (v := ?_) (a' := ?_) #[true, true, true, true, false, true, true, false, true, false, false, false, false, false, false, false, false, false, false, false] rfl rfl (any_of HT_.out (by kernel_rfl)) (fun _ _ _ h => h) (Or.inl ⟨by rfl, ?_⟩) ?_ ?_
   rotate_left
   ·intro w'
    go_simp
    with_reducible rfl
   rotate_left
   ·simp only [Act.put, List.setIfInBounds_toArray, List.set_cons_zero, List.set_cons_succ, i64_w, i32_w]
    rfl
   refine pure_ (i := 9) (N := some 12) (v := ?_) (a' := ?_) #[true, true, true, true, false, true, true, false, true, true, false, false, false, false, false, false, false, false, false, false] rfl rfl (any_of HT_.out (by kernel_rfl)) (fun _ _ _ h => h) (Or.inl ⟨by rfl, ?_⟩) ?_ ?_
   rotate_left
   ·intro w'
    go_simp
    with_reducible rfl
   rotate_left
   ·simp only [Act.put, List.setIfInBounds_toArray, List.set_cons_zero, List.set_cons_succ, i64_w, i32_w]
    rfl
   refine pure_ (i := 11) (N := some 14) (v := ?_) (a' := ?_) #[true, true, true, true, false, true, true, false, true, true, false, true, false, false, false, false, false, false, false, false] rfl rfl (any_of HT_.out (by kernel_rfl)) (fun _ _ _ h => h) (Or.inl ⟨by rfl, ?_⟩) ?_ ?_
   rotate_left
   ·intro w'
    go_simp
    with_reducible rfl
   rotate_left
   ·simp only [Act.put, List.setIfInBounds_toArray, List.set_cons_zero, List.set_cons_succ, i64_w, i32_w]
    rfl
   refine pure_ (i := 12) (N := some 15) (v := ?_) (a' := ?_) #[true, true, true, true, false, true, true, false, true, true, false, true, true, false, false, false, false, false, false, false] rfl rfl (any_of HT_.out (by kernel_rfl)) (fun _ _ _ h => h) (Or.inl ⟨by rfl, ?_⟩) ?_ ?_
   rotate_left
   ·intro w'
    go_simp
    with_reducible rfl
   rotate_left
   ·simp only [Act.put, List.setIfInBounds_toArray, List.set_cons_zero, List.set_cons_succ, i64_w, i32_w]
    rfl
   refine pure_ (i := 14) (N := some 17) (v := ?_) (a' := ?_) #[true, true, true, true, false, true, true, false, true, true, false, true, true, false, true, false, false, false, false, false] rfl rfl (any_of HT_.out (by kernel_rfl)) (fun _ _ _ h => h) (Or.inl ⟨by rfl, ?_⟩) ?_ ?_
   rotate_left
   ·intro w'
    go_simp
    with_reducible rfl
   rotate_left
   ·simp only [Act.put, List.setIfInBounds_toArray, List.set_cons_zero, List.set_cons_succ, i64_w, i32_w]
    rfl
   refine pure_ (i := 15) (N := some 18) (v := ?_) (a' := ?_) #[true, true, true, true, false, true, true, false, true, true, false, true, true, false, true, true, false, false, false, false] rfl rfl (any_of HT_.out (by kernel_rfl)) (fun _ _ _ h => h) (Or.inl ⟨by rfl, ?_⟩) ?_ ?_
   rotate_left
   ·intro w'
    go_simp
    with_reducible rfl
   rotate_left
   ·simp only [Act.put, List.setIfInBounds_toArray, List.set_cons_zero, List.set_cons_succ, i64_w, i32_w]
    rfl
   refine take_ (i := 4) (N := some 7) (v := ?_) (a' := ?_) #[true, true, true, true, true, true, true, false, true, true, false, true, true, false, true, true, false, false, false, false] rfl rfl (take_ofW HT_.out HW_.out (by kernel_rfl)) (fun _ _ _ h => h) (Or.inl ⟨by rfl, ?_⟩) hHeld ?_ ?_
   rotate_left
   ·rintro w' ⟨s0, s1, s2, s3, s4, s5, s6, s7, s8, s9, s10, s11, s12, s13, s14, s15, s16, s17⟩
    first | (refine (load_exec rfl rfl s0).trans ?_; with_reducible rfl) | (refine (load_exec rfl rfl s1).trans ?_; with_reducible rfl) | (refine (load_exec rfl rfl s2).trans ?_; with_reducible rfl) | (refine (load_exec rfl rfl s3).trans ?_; with_reducible rfl) | (refine (load_exec rfl rfl s4).trans ?_; with_reducible rfl) | (refine (load_exec rfl rfl s5).trans ?_; with_reducible rfl) | (refine (load_exec rfl rfl s6).trans ?_; with_reducible rfl) | (refine (load_exec rfl rfl s7).trans ?_; with_reducible rfl) | (refine (load_exec rfl rfl s8).trans ?_; with_reducible rfl) | (refine (load_exec rfl rfl s9).trans ?_; with_reducible rfl) | (refine (load_exec rfl rfl s10).trans ?_; with_reducible rfl) | (refine (load_exec rfl rfl s11).trans ?_; with_reducible rfl) | (refine (load_exec rfl rfl s12).trans ?_; with_reducible rfl) | (refine (load_exec rfl rfl s13).trans ?_; with_reducible rfl) | (refine (load_exec rfl rfl s14).trans ?_; with_reducible rfl) | (refine (load_exec rfl rfl s15).trans ?_; with_reducible rfl) | (refine (load_exec rfl rfl s16).trans ?_; with_reducible rfl) | (refine (load_exec rfl rfl s17).trans ?_; with_reducible rfl) | (go_simp; with_reducible rfl)
   rotate_left
   ·simp only [Act.put, List.setIfInBounds_toArray, List.set_cons_zero, List.set_cons_succ, i64_w, i32_w]
    rfl
   refine take_ (i := 7) (N := some 10) (v := ?_) (a' := ?_) #[true, true, true, true, true, true, true, true, true, true, false, true, true, false, true, true, false, false, false, false] rfl rfl (take_ofW HT_.out HW_.out (by kernel_rfl)) (fun _ _ _ h => h) (Or.inl ⟨by rfl, ?_⟩) hHeld ?_ ?_
   rotate_left
   ·rintro w' ⟨s0, s1, s2, s3, s4, s5, s6, s7, s8, s9, s10, s11, s12, s13, s14, s15, s16, s17⟩
    first | (refine (load_exec rfl rfl s0).trans ?_; with_reducible rfl) | (refine (load_exec rfl rfl s1).trans ?_; with_reducible rfl) | (refine (load_exec rfl rfl s2).trans ?_; with_reducible rfl) | (refine (load_exec rfl rfl s3).trans ?_; with_reducible rfl) | (refine (load_exec rfl rfl s4).trans ?_; with_reducible rfl) | (refine (load_exec rfl rfl s5).trans ?_; with_reducible rfl) | (refine (load_exec rfl rfl s6).trans ?_; with_reducible rfl) | (refine (load_exec rfl rfl s7).trans ?_; with_reducible rfl) | (refine (load_exec rfl rfl s8).trans ?_; with_reducible rfl) | (refine (load_exec rfl rfl s9).trans ?_; with_reducible rfl) | (refine (load_exec rfl rfl s10).trans ?_; with_reducible rfl) | (refine (load_exec rfl rfl s11).trans ?_; with_reducible rfl) | (refine (load_exec rfl rfl s12).trans ?_; with_reducible rfl) | (refine (load_exec rfl rfl s13).trans ?_; with_reducible rfl) | (refine (load_exec rfl rfl s14).trans ?_; with_reducible rfl) | (refine (load_exec rfl rfl s15).trans ?_; with_reducible rfl) | (refine (load_exec rfl rfl s16).trans ?_; with_reducible rfl) | (refine (load_exec rfl rfl s17).trans ?_; with_reducible rfl) | (go_simp; with_reducible rfl)
   rotate_left
   ·simp only [Act.put, List.setIfInBounds_toArray, List.set_cons_zero, List.set_cons_succ, i64_w, i32_w]
    rfl
   refine take_ (i := 10) (N := some 13) (v := ?_) (a' := ?_) #[true, true, true, true, true, true, true, true, true, true, true, true, true, false, true, true, false, false, false, false] rfl rfl (take_ofW HT_.out HW_.out (by kernel_rfl)) (fun _ _ _ h => h) (Or.inl ⟨by rfl, ?_⟩) hHeld ?_ ?_
   rotate_left
   ·rintro w' ⟨s0, s1, s2, s3, s4, s5, s6, s7, s8, s9, s10, s11, s12, s13, s14, s15, s16, s17⟩
    first | (refine (load_exec rfl rfl s0).trans ?_; with_reducible rfl) | (refine (load_exec rfl rfl s1).trans ?_; with_reducible rfl) | (refine (load_exec rfl rfl s2).trans ?_; with_reducible rfl) | (refine (load_exec rfl rfl s3).trans ?_; with_reducible rfl) | (refine (load_exec rfl rfl s4).trans ?_; with_reducible rfl) | (refine (load_exec rfl rfl s5).trans ?_; with_reducible rfl) | (refine (load_exec rfl rfl s6).trans ?_; with_reducible rfl) | (refine (load_exec rfl rfl s7).trans ?_; with_reducible rfl) | (refine (load_exec rfl rfl s8).trans ?_; with_reducible rfl) | (refine (load_exec rfl rfl s9).trans ?_; with_reducible rfl) | (refine (load_exec rfl rfl s10).trans ?_; with_reducible rfl) | (refine (load_exec rfl rfl s11).trans ?_; with_reducible rfl) | (refine (load_exec rfl rfl s12).trans ?_; with_reducible rfl) | (refine (load_exec rfl rfl s13).trans ?_; with_reducible rfl) | (refine (load_exec rfl rfl s14).trans ?_; with_reducible rfl) | (refine (load_exec rfl rfl s15).trans ?_; with_reducible rfl) | (refine (load_exec rfl rfl s16).trans ?_; with_reducible rfl) | (refine (load_exec rfl rfl s17).trans ?_; with_reducible rfl) | (go_simp; with_reducible rfl)
   rotate_left
   ·simp only [Act.put, List.setIfInBounds_toArray, List.set_cons_zero, List.set_cons_succ, i64_w, i32_w]
    rfl
   refine take_ (i := 13) (N := some 16) (v := ?_) (a' := ?_) #[true, true, true, true, true, true, true, true, true, true, true, true, true, true, true, true, false, false, false, false] rfl rfl (take_ofW HT_.out HW_.out (by kernel_rfl)) (fun _ _ _ h => h) (Or.inl ⟨by rfl, ?_⟩) hHeld ?_ ?_
   rotate_left
   ·rintro w' ⟨s0, s1, s2, s3, s4, s5, s6, s7, s8, s9, s10, s11, s12, s13, s14, s15, s16, s17⟩
    first | (refine (load_exec rfl rfl s0).trans ?_; with_reducible rfl) | (refine (load_exec rfl rfl s1).trans ?_; with_reducible rfl) | (refine (load_exec rfl rfl s2).trans ?_; with_reducible rfl) | (refine (load_exec rfl rfl s3).trans ?_; with_reducible rfl) | (refine (load_exec rfl rfl s4).trans ?_; with_reducible rfl) | (refine (load_exec rfl rfl s5).trans ?_; with_reducible rfl) | (refine (load_exec rfl rfl s6).trans ?_; with_reducible rfl) | (refine (load_exec rfl rfl s7).trans ?_; with_reducible rfl) | (refine (load_exec rfl rfl s8).trans ?_; with_reducible rfl) | (refine (load_exec rfl rfl s9).trans ?_; with_reducible rfl) | (refine (load_exec rfl rfl s10).trans ?_; with_reducible rfl) | (refine (load_exec rfl rfl s11).trans ?_; with_reducible rfl) | (refine (load_exec rfl rfl s12).trans ?_; with_reducible rfl) | (refine (load_exec rfl rfl s13).trans ?_; with_reducible rfl) | (refine (load_exec rfl rfl s14).trans ?_; with_reducible rfl) | (refine (load_exec rfl rfl s15).trans ?_; with_reducible rfl) | (refine (load_exec rfl rfl s16).trans ?_; with_reducible rfl) | (refine (load_exec rfl rfl s17).trans ?_; with_reducible rfl) | (go_simp; with_reducible rfl)
   rotate_left
   ·simp only [Act.put, List.setIfInBounds_toArray, List.set_cons_zero, List.set_cons_succ, i64_w, i32_w]
    rfl
   refine take_ (i := 16) (N := some 19) (v := ?_) (a' := ?_) #[true, true, true, true, true, true, true, true, true, true, true, true, true, true, true, true, true, false, false, false] rfl rfl (take_ofW HT_.out HW_.out (by kernel_rfl)) (fun _ _ _ h => h) (Or.inl ⟨by rfl, ?_⟩) hHeld ?_ ?_
   rotate_left
   ·rintro w' ⟨s0, s1, s2, s3, s4, s5, s6, s7, s8, s9, s10, s11, s12, s13, s14, s15, s16, s17⟩
    first | (refine (load_exec rfl rfl s0).trans ?_; with_reducible rfl) | (refine (load_exec rfl rfl s1).trans ?_; with_reducible rfl) | (refine (load_exec rfl rfl s2).trans ?_; with_reducible rfl) | (refine (load_exec rfl rfl s3).trans ?_; with_reducible rfl) | (refine (load_exec rfl rfl s4).trans ?_; with_reducible rfl) | (refine (load_exec rfl rfl s5).trans ?_; with_reducible rfl) | (refine (load_exec rfl rfl s6).trans ?_; with_reducible rfl) | (refine (load_exec rfl rfl s7).trans ?_; with_reducible rfl) | (refine (load_exec rfl rfl s8).trans ?_; with_reducible rfl) | (refine (load_exec rfl rfl s9).trans ?_; with_reducible rfl) | (refine (load_exec rfl rfl s10).trans ?_; with_reducible rfl) | (refine (load_exec rfl rfl s11).trans ?_; with_reducible rfl) | (refine (load_exec rfl rfl s12).trans ?_; with_reducible rfl) | (refine (load_exec rfl rfl s13).trans ?_; with_reducible rfl) | (refine (load_exec rfl rfl s14).trans ?_; with_reducible rfl) | (refine (load_exec rfl rfl s15).trans ?_; with_reducible rfl) | (refine (load_exec rfl rfl s16).trans ?_; with_reducible rfl) | (refine (load_exec rfl rfl s17).trans ?_; with_reducible rfl) | (go_simp; with_reducible rfl)
   rotate_left
   ·simp only [Act.put, List.setIfInBounds_toArray, List.set_cons_zero, List.set_cons_succ, i64_w, i32_w]
    rfl
   refine one_ (i := 17) (N := some 20) #[true, true, true, true, true, true, true, true, true, true, true, true, true, true, true, true, true, true, false, false] rfl rfl (one_of HT_.out (by kernel_rfl)) (by decide) (fun K hK => ?_)
   refine goes_ Tryd.func20 (by kernel_rfl) rfl #[.int .u8 a0_13, .int .u8 a0_14, .int .u8 a0_15, .int .u8 a0_16] (by rfl) rfl rfl (by (try simp only [List.map_toArray, List.map_cons, List.map_nil]); first | done | rfl | (simp only [List.length_drop, List.length_take]; rfl)) ?_
   with_reducible refine (ip_V4.calls a0_13 a0_14 a0_15 a0_16 t190 t191 t192 t193 t194 t195 t196 t197 t198 t199 t200 t201 t202 t203 t204 t205 t206 _ ?side1 A5.out).mono ?_
   (case side1 => exact LW.below HLW.out (by repeat (first | (with_reducible first | exact HB.out | apply below_alloc | apply pw_below_drewN | apply below_drew1 | refine below_set ?_ GE189.out) | exact HB.out)))
   rintro e w9 ⟨rfl, hb⟩
   refine ⟨_, rfl, ?_⟩
   have n0_ := Aside0.mk (blk_below (g := gb189) (o := .cells #[.bool false, .int .u8 a0_1, .int .u8 a0_2, .int .u8 a0_3, .int .u8 a0_4, .int .u8 a0_5, .int .u8 a0_6, .int .u8 a0_7, .int .u8 a0_8, .int .u8 a0_9, .int .u8 a0_10, .int .u8 a0_11, .int .u8 a0_12, .int .u8 a0_13, .int .u8 a0_14, .int .u8 a0_15, .int .u8 a0_16] 25 (0, 0)) (by (with_reducible repeat (first | refine blk_drewN ?_ _ | refine blk_drew ?_ | refine blk_alloc ?_ _)); exact BK189.out) hb)
   have n1_ := Aside0.mk (below_step (by repeat (first | (with_reducible first | exact HB.out | apply below_alloc | apply pw_below_drewN | apply below_drew1 | refine below_set ?_ GE189.out) | exact HB.out)) hb)
   clear BK189
   clear HB
   have BK189 := n0_
   have HB := n1_
   clear n0_ n1_
   (try clear hb)
   (try clear hb2)
   (try clear hk)
   (try clear hi)
   refine hK.out _ _ ⟨(blk_cell BK189.out 0).trans rfl, (blk_cell BK189.out 1).trans rfl, (blk_cell BK189.out 2).trans rfl, (blk_cell BK189.out 3).trans rfl, (blk_cell BK189.out 4).trans rfl, (blk_cell BK189.out 5).trans rfl, (blk_cell BK189.out 6).trans rfl, (blk_cell BK189.out 7).trans rfl, (blk_cell BK189.out 8).trans rfl, (blk_cell BK189.out 9).trans rfl, (blk_cell BK189.out 10).trans rfl, (blk_cell BK189.out 11).trans rfl, (blk_cell BK189.out 12).trans rfl, (blk_cell BK189.out 13).trans rfl, (blk_cell BK189.out 14).trans rfl, (blk_cell BK189.out 15).trans rfl, (blk_cell BK189.out 16).trans rfl, (run_load_box BK189.out 25 [] [.bool false, .int .u8 a0_1, .int .u8 a0_2, .int .u8 a0_3, .int .u8 a0_4, .int .u8 a0_5, .int .u8 a0_6, .int .u8 a0_7, .int .u8 a0_8, .int .u8 a0_9, .int .u8 a0_10, .int .u8 a0_11, .int .u8 a0_12, .int .u8 a0_13, .int .u8 a0_14, .int .u8 a0_15, .int .u8 a0_16] [] rfl 0 rfl Tryd.underlying25 rfl (by kernel_rfl))⟩ (fun hHeld => ?_)
   clear hK K
   refine norm_ (a' := ?_) ?_ ?_
   rotate_left
   ·show Act.put _ (some 20) _ = _
    simp only [Act.put, List.setIfInBounds_toArray, List.set_cons_zero, List.set_cons_succ, i64_w, i32_w]
    rfl
   refine pure_ (i := 18) (N := some 21) (v := ?_) (a' := ?_) #[true, true, true, true, true, true, true, true, true, true, true, true, true, true, true, true, true, true, true, false] rfl rfl (any_of HT_.out (by kernel_rfl)) (fun _ _ _ h => h) (Or.inl ⟨by rfl, ?_⟩) ?_ ?_
   rotate_left
   ·intro w'
    go_simp
    with_reducible rfl
   rotate_left
   ·simp only [Act.put, List.setIfInBounds_toArray, List.set_cons_zero, List.set_cons_succ, i64_w, i32_w]
    rfl
   refine pure_ (i := 19) (N := some 22) (v := ?_) (a' := ?_) #[true, true, true, true, true, true, true, true, true, true, true, true, true, true, true, true, true, true, true, true] rfl rfl (any_of HT_.out (by kernel_rfl)) (fun _ _ _ h => h) (Or.inl ⟨by rfl, ?_⟩) ?_ ?_
   rotate_left
   ·intro w'
    go_simp
    with_reducible rfl
   rotate_left
   ·simp only [Act.put, List.setIfInBounds_toArray, List.set_cons_zero, List.set_cons_succ, i64_w, i32_w]
    rfl
   refine done_ (done_of HT_.out (by kernel_rfl)) ?_
   try go_wp2
   go_ret
   exact ⟨by first | rfl | (simp [errW_none, errW_some] <;> rfl) | (simp [*, errW_none, errW_some] <;> rfl) | (simp [errW_none, errW_some]; first | exact isEmpty_bne _ | exact isEmpty_beq _ | exact (isEmpty_bne _).symm), by repeat (first | (with_reducible first | exact HB.out | apply below_alloc | apply pw_below_drewN | apply below_drew1 | refine below_set ?_ GE189.out) | exact HB.out)⟩
  ·rw [if_neg c6] at H
   have c6b0 : (!(false == t190) || ((!(a0_1 == t191) || (!(a0_2 == t192) || (!(a0_3 == t193) || (!(a0_4 == t194) || (!(a0_5 == t195) || (!(a0_6 == t196) || (!(a0_7 == t197) || (!(a0_8 == t198) || (!(a0_9 == t199) || (!(a0_10 == t200) || (!(a0_11 == t201) || (!(a0_12 == t202) || (!(a0_13 == t203) || (!(a0_14 == t204) || (!(a0_15 == t205) || (!(a0_16 == t206))))))))))))))))))) = false := by simpa using c6
   try (have c6bs := c6b0; simp only [Bool.false_beq, Bool.true_beq, beq_false, beq_true, Bool.not_not] at c6bs)
   clear c6
   obtain rfl := Option.some.inj H
   go_enter Tryd.func13, Tryd.ntmps13
   try go_wp2_with (first | ((with_reducible refine gate_dst (N := 1) rfl ?_); refine box_event ?hg (N := 1) ?hd (cs := #[.bool false, .int .u8 a0_1, .int .u8 a0_2, .int .u8 a0_3, .int .u8 a0_4, .int .u8 a0_5, .int .u8 a0_6, .int .u8 a0_7, .int .u8 a0_8, .int .u8 a0_9, .int .u8 a0_10, .int .u8 a0_11, .int .u8 a0_12, .int .u8 a0_13, .int .u8 a0_14, .int .u8 a0_15, .int .u8 a0_16]) (t := 25) ?hr ?_; (case hd => rfl); (case hg => rfl); (case hr => first | (go_simp; done) | (go_simp; rfl)); intro gb189 hg w10 hbox hb; have n0_ := Aside0.mk (below_step (by repeat (first | (with_reducible first | exact HB.out | apply below_alloc | apply pw_below_drewN | apply below_drew1) | exact HB.out)) hb); have n1_ := Aside0.mk (hbox); have n2_ := Aside0.mk ((by rw [hg]; exact (below_size (by repeat (first | (with_reducible first | exact HB.out | apply below_alloc | apply pw_below_drewN | apply below_drew1) | exact HB.out))) : w.heap.size ≤ gb189)); have n3_ := Aside0.mk ((by rw [hg]; exact (below_size (by repeat (first | (with_reducible first | exact HB.out | apply below_alloc | apply pw_below_drewN | apply below_drew1) | exact HB.out))) : w.heap.size ≤ gb189)); clear HB; have HB := n0_; have BK189 := n1_; have GW189 := n2_; have GE189 := n3_; clear n0_ n1_ n2_ n3_; clear hb hbox hg))
   have n0_ := Aside0.mk (blk_drew BK189.out)
   have n1_ := Aside0.mk (below_drew1 HB.out)
   clear BK189
   clear HB
   have BK189 := n0_
   have HB := n1_
   clear n0_ n1_
   refine start_ (n := 20) (S := fun w' => w'.cell? ⟨gb189, 0, none⟩ = some (.bool false) ∧ w'.cell? ⟨gb189, 1, none⟩ = some (.int .u8 a0_1) ∧ w'.cell? ⟨gb189, 2, none⟩ = some (.int .u8 a0_2) ∧ w'.cell? ⟨gb189, 3, none⟩ = some (.int .u8 a0_3) ∧ w'.cell? ⟨gb189, 4, none⟩ = some (.int .u8 a0_4) ∧ w'.cell? ⟨gb189, 5, none⟩ = some (.int .u8 a0_5) ∧ w'.cell? ⟨gb189, 6, none⟩ = some (.int .u8 a0_6) ∧ w'.cell? ⟨gb189, 7, none⟩ = some (.int .u8 a0_7) ∧ w'.cell? ⟨gb189, 8, none⟩ = some (.int .u8 a0_8) ∧ w'.cell? ⟨gb189, 9, none⟩ = some (.int .u8 a0_9) ∧ w'.cell? ⟨gb189, 10, none⟩ = some (.int .u8 a0_10) ∧ w'.cell? ⟨gb189, 11, none⟩ = some (.int .u8 a0_11) ∧ w'.cell? ⟨gb189, 12, none⟩ = some (.int .u8 a0_12) ∧ w'.cell? ⟨gb189, 13, none⟩ = some (.int .u8 a0_13) ∧ w'.cell? ⟨gb189, 14, none⟩ = some (.int .u8 a0_14) ∧ w'.cell? ⟨gb189, 15, none⟩ = some (.int .u8 a0_15) ∧ w'.cell? ⟨gb189, 16, none⟩ = some (.int .u8 a0_16) ∧ (Instr.loadAt 25 (.pointer (some ⟨gb189, 0, none⟩))).run Tryd.prog w' = .ok (.agg #[.bool false, .int .u8 a0_1, .int .u8 a0_2, .int .u8 a0_3, .int .u8 a0_4, .int .u8 a0_5, .int .u8 a0_6, .int .u8 a0_7, .int .u8 a0_8, .int .u8 a0_9, .int .u8 a0_10, .int .u8 a0_11, .int .u8 a0_12, .int .u8 a0_13, .int .u8 a0_14, .int .u8 a0_15, .int .u8 a0_16]) w') (ds := []) #[false, false, false, false, false, false, false, false, false, false, false, false, false, false, false, false, false, false, false, false] (by kernel_rfl) rfl rfl ⟨(blk_cell BK189.out 0).trans rfl, (blk_cell BK189.out 1).trans rfl, (blk_cell BK189.out 2).trans rfl, (blk_cell BK189.out 3).trans rfl, (blk_cell BK189.out 4).trans rfl, (blk_cell BK189.out 5).trans rfl, (blk_cell BK189.out 6).trans rfl, (blk_cell BK189.out 7).trans rfl, (blk_cell BK189.out 8).trans rfl, (blk_cell BK189.out 9).trans rfl, (blk_cell BK189.out 10).trans rfl, (blk_cell BK189.out 11).trans rfl, (blk_cell BK189.out 12).trans rfl, (blk_cell BK189.out 13).trans rfl, (blk_cell BK189.out 14).trans rfl, (blk_cell BK189.out 15).trans rfl, (blk_cell BK189.out 16).trans rfl, (run_load_box BK189.out 25 [] [.bool false, .int .u8 a0_1, .int .u8 a0_2, .int .u8 a0_3, .int .u8 a0_4, .int .u8 a0_5, .int .u8 a0_6, .int .u8 a0_7, .int .u8 a0_8, .int .u8 a0_9, .int .u8 a0_10, .int .u8 a0_11, .int .u8 a0_12, .int .u8 a0_13, .int .u8 a0_14, .int .u8 a0_15, .int .u8 a0_16] [] rfl 0 rfl Tryd.underlying25 rfl (by kernel_rfl))⟩ (fun hHeld => ?_); refine with_tabW ip_Check.tab1 ip_Check.bits1 (fun HT_ HW_ => ?_)
   generalize w10.drew = w11 at BK189 HB hHeld ⊢
   refine pure_ (i := 0) (N := some 3) (v := ?_) (a' := ?_) #[true, false, false, false, false, false, false, false, false, false, false, false, false, false, false, false, false, false, false, false] rfl rfl (any_of HT_.out (by kernel_rfl)) (fun _ _ _ h => h) (Or.inl ⟨by rfl, ?_⟩) ?_ ?_
   rotate_left
   ·intro w'
    go_simp
    with_reducible rfl
   rotate_left
   ·simp only [Act.put, List.setIfInBounds_toArray, List.set_cons_zero, List.set_cons_succ, i64_w, i32_w]
    rfl
   refine take_ (i := 1) (N := some 4) (v := ?_) (a' := ?_) #[true, true, false, false, false, false, false, false, false, false, false, false, false, false, false, false, false, false, false, false] rfl rfl (take_ofW HT_.out HW_.out (by kernel_rfl)) (fun _ _ _ h => h) (Or.inl ⟨by rfl, ?_⟩) hHeld ?_ ?_
   rotate_left
   ·rintro w' ⟨s0, s1, s2, s3, s4, s5, s6, s7, s8, s9, s10, s11, s12, s13, s14, s15, s16, s17⟩
    first | (refine (load_exec rfl rfl s0).trans ?_; with_reducible rfl) | (refine (load_exec rfl rfl s1).trans ?_; with_reducible rfl) | (refine (load_exec rfl rfl s2).trans ?_; with_reducible rfl) | (refine (load_exec rfl rfl s3).trans ?_; with_reducible rfl) | (refine (load_exec rfl rfl s4).trans ?_; with_reducible rfl) | (refine (load_exec rfl rfl s5).trans ?_; with_reducible rfl) | (refine (load_exec rfl rfl s6).trans ?_; with_reducible rfl) | (refine (load_exec rfl rfl s7).trans ?_; with_reducible rfl) | (refine (load_exec rfl rfl s8).trans ?_; with_reducible rfl) | (refine (load_exec rfl rfl s9).trans ?_; with_reducible rfl) | (refine (load_exec rfl rfl s10).trans ?_; with_reducible rfl) | (refine (load_exec rfl rfl s11).trans ?_; with_reducible rfl) | (refine (load_exec rfl rfl s12).trans ?_; with_reducible rfl) | (refine (load_exec rfl rfl s13).trans ?_; with_reducible rfl) | (refine (load_exec rfl rfl s14).trans ?_; with_reducible rfl) | (refine (load_exec rfl rfl s15).trans ?_; with_reducible rfl) | (refine (load_exec rfl rfl s16).trans ?_; with_reducible rfl) | (refine (load_exec rfl rfl s17).trans ?_; with_reducible rfl) | (go_simp; with_reducible rfl)
   rotate_left
   ·simp only [Act.put, List.setIfInBounds_toArray, List.set_cons_zero, List.set_cons_succ, i64_w, i32_w]
    rfl
   refine pure_ (i := 2) (N := some 5) (v := ?_) (a' := ?_) #[true, true, true, false, false, false, false, false, false, false, false, false, false, false, false, false, false, false, false, false] rfl rfl (any_of HT_.out (by kernel_rfl)) (fun _ _ _ h => h) (Or.inl ⟨by rfl, ?_⟩) ?_ ?_
   rotate_left
   ·intro w'
    go_simp
    with_reducible rfl
   rotate_left
   ·simp only [Act.put, List.setIfInBounds_toArray, List.set_cons_zero, List.set_cons_succ, i64_w, i32_w]
    rfl
   refine pure_ (i := 3) (N := some 6) (v := ?_) (a' := ?_) #[true, true, true, true, false, false, false, false, false, false, false, false, false, false, false, false, false, false, false, false] rfl rfl (any_of HT_.out (by kernel_rfl)) (fun _ _ _ h => h) (Or.inl ⟨by rfl, ?_⟩) ?_ ?_
   rotate_left
   ·intro w'
    go_simp
    with_reducible rfl
   rotate_left
   ·simp only [Act.put, List.setIfInBounds_toArray, List.set_cons_zero, List.set_cons_succ, i64_w, i32_w]
    rfl
   refine pure_ (i := 5) (N := some 8) (v := ?_) (a' := ?_) #[true, true, true, true, false, true, false, false, false, false, false, false, false, false, false, false, false, false, false, false] rfl rfl (any_of HT_.out (by kernel_rfl)) (fun _ _ _ h => h) (Or.inl ⟨by rfl, ?_⟩) ?_ ?_
   rotate_left
   ·intro w'
    go_simp
    with_reducible rfl
   rotate_left
   ·simp only [Act.put, List.setIfInBounds_toArray, List.set_cons_zero, List.set_cons_succ, i64_w, i32_w]
    rfl
   refine pure_ (i := 6) (N := some 9) (v := ?_) (a' := ?_) #[true, true, true, true, false, true, true, false, false, false, false, false, false, false, false, false, false, false, false, false] rfl rfl (any_of HT_.out (by kernel_rfl)) (fun _ _ _ h => h) (Or.inl ⟨by rfl, ?_⟩) ?_ ?_
   rotate_left
   ·intro w'
    go_simp
    with_reducible rfl
   rotate_left
   ·simp only [Act.put, List.setIfInBounds_toArray, List.set_cons_zero, List.set_cons_succ, i64_w, i32_w]
    rfl
   refine pure_ (i := 8) (N := some 11) (v := ?_) (a' := ?_) #[true, true, true, true, false, true, true, false, true, false, false, false, false, false, false, false, false, false, false, false] rfl rfl (any_of HT_.out (by kernel_rfl)) (fun _ _ _ h => h) (Or.inl ⟨by rfl, ?_⟩) ?_ ?_
   rotate_left
   ·intro w'
    go_simp
    with_reducible rfl
   rotate_left
   ·simp only [Act.put, List.setIfInBounds_toArray, List.set_cons_zero, List.set_cons_succ, i64_w, i32_w]
    rfl
   refine pure_ (i := 9) (N := some 12) (v := ?_) (a' := ?_) #[true, true, true, true, false, true, true, false, true, true, false, false, false, false, false, false, false, false, false, false] rfl rfl (any_of HT_.out (by kernel_rfl)) (fun _ _ _ h => h) (Or.inl ⟨by rfl, ?_⟩) ?_ ?_
   rotate_left
   ·intro w'
    go_simp
    with_reducible rfl
   rotate_left
   ·simp only [Act.put, List.setIfInBounds_toArray, List.set_cons_zero, List.set_cons_succ, i64_w, i32_w]
    rfl
   refine pure_ (i := 11) (N := some 14) (v := ?_) (a' := ?_) #[true, true, true, true, false, true, true, false, true, true, false, true, false, false, false, false, false, false, false, false] rfl rfl (any_of HT_.out (by kernel_rfl)) (fun _ _ _ h => h) (Or.inl ⟨by rfl, ?_⟩) ?_ ?_
   rotate_left
   ·intro w'
    go_simp
    with_reducible rfl
   rotate_left
   ·simp only [Act.put, List.setIfInBounds_toArray, List.set_cons_zero, List.set_cons_succ, i64_w, i32_w]
    rfl
   refine pure_ (i := 12) (N := some 15) (v := ?_) (a' := ?_) #[true, true, true, true, false, true, true, false, true, true, false, true, true, false, false, false, false, false, false, false] rfl rfl (any_of HT_.out (by kernel_rfl)) (fun _ _ _ h => h) (Or.inl ⟨by rfl, ?_⟩) ?_ ?_
   rotate_left
   ·intro w'
    go_simp
    with_reducible rfl
   rotate_left
   ·simp only [Act.put, List.setIfInBounds_toArray, List.set_cons_zero, List.set_cons_succ, i64_w, i32_w]
    rfl
   refine pure_ (i := 14) (N := some 17) (v := ?_) (a' := ?_) #[true, true, true, true, false, true, true, false, true, true, false, true, true, false, true, false, false, false, false, false] rfl rfl (any_of HT_.out (by kernel_rfl)) (fun _ _ _ h => h) (Or.inl ⟨by rfl, ?_⟩) ?_ ?_
   rotate_left
   ·intro w'
    go_simp
    with_reducible rfl
   rotate_left
   ·simp only [Act.put, List.setIfInBounds_toArray, List.set_cons_zero, List.set_cons_succ, i64_w, i32_w]
    rfl
   refine pure_ (i := 15) (N := some 18) (v := ?_) (a' := ?_) #[true, true, true, true, false, true, true, false, true, true, false, true, true, false, true, true, false, false, false, false] rfl rfl (any_of HT_.out (by kernel_rfl)) (fun _ _ _ h => h) (Or.inl ⟨by rfl, ?_⟩) ?_ ?_
   rotate_left
   ·intro w'
    go_simp
    with_reducible rfl
   rotate_left
   ·simp only [Act.put, List.setIfInBounds_toArray, List.set_cons_zero, List.set_cons_succ, i64_w, i32_w]
    rfl
   refine take_ (i := 4) (N := some 7) (v := ?_) (a' := ?_) #[true, true, true, true, true, true, true, false, true, true, false, true, true, false, true, true, false, false, false, false] rfl rfl (take_ofW HT_.out HW_.out (by kernel_rfl)) (fun _ _ _ h => h) (Or.inl ⟨by rfl, ?_⟩) hHeld ?_ ?_
   rotate_left
   ·rintro w' ⟨s0, s1, s2, s3, s4, s5, s6, s7, s8, s9, s10, s11, s12, s13, s14, s15, s16, s17⟩
    first | (refine (load_exec rfl rfl s0).trans ?_; with_reducible rfl) | (refine (load_exec rfl rfl s1).trans ?_; with_reducible rfl) | (refine (load_exec rfl rfl s2).trans ?_; with_reducible rfl) | (refine (load_exec rfl rfl s3).trans ?_; with_reducible rfl) | (refine (load_exec rfl rfl s4).trans ?_; with_reducible rfl) | (refine (load_exec rfl rfl s5).trans ?_; with_reducible rfl) | (refine (load_exec rfl rfl s6).trans ?_; with_reducible rfl) | (refine (load_exec rfl rfl s7).trans ?_; with_reducible rfl) | (refine (load_exec rfl rfl s8).trans ?_; with_reducible rfl) | (refine (load_exec rfl rfl s9).trans ?_; with_reducible rfl) | (refine (load_exec rfl rfl s10).trans ?_; with_reducible rfl) | (refine (load_exec rfl rfl s11).trans ?_; with_reducible rfl) | (refine (load_exec rfl rfl s12).trans ?_; with_reducible rfl) | (refine (load_exec rfl rfl s13).trans ?_; with_reducible rfl) | (refine (load_exec rfl rfl s14).trans ?_; with_reducible rfl) | (refine (load_exec rfl rfl s15).trans ?_; with_reducible rfl) | (refine (load_exec rfl rfl s16).trans ?_; with_reducible rfl) | (refine (load_exec rfl rfl s17).trans ?_; with_reducible rfl) | (go_simp; with_reducible rfl)
   rotate_left
   ·simp only [Act.put, List.setIfInBounds_toArray, List.set_cons_zero, List.set_cons_succ, i64_w, i32_w]
    rfl
   refine take_ (i := 7) (N := some 10) (v := ?_) (a' := ?_) #[true, true, true, true, true, true, true, true, true, true, false, true, true, false, true, true, false, false, false, false] rfl rfl (take_ofW HT_.out HW_.out (by kernel_rfl)) (fun _ _ _ h => h) (Or.inl ⟨by rfl, ?_⟩) hHeld ?_ ?_
   rotate_left
   ·rintro w' ⟨s0, s1, s2, s3, s4, s5, s6, s7, s8, s9, s10, s11, s12, s13, s14, s15, s16, s17⟩
    first | (refine (load_exec rfl rfl s0).trans ?_; with_reducible rfl) | (refine (load_exec rfl rfl s1).trans ?_; with_reducible rfl) | (refine (load_exec rfl rfl s2).trans ?_; with_reducible rfl) | (refine (load_exec rfl rfl s3).trans ?_; with_reducible rfl) | (refine (load_exec rfl rfl s4).trans ?_; with_reducible rfl) | (refine (load_exec rfl rfl s5).trans ?_; with_reducible rfl) | (refine (load_exec rfl rfl s6).trans ?_; with_reducible rfl) | (refine (load_exec rfl rfl s7).trans ?_; with_reducible rfl) | (refine (load_exec rfl rfl s8).trans ?_; with_reducible rfl) | (refine (load_exec rfl rfl s9).trans ?_; with_reducible rfl) | (refine (load_exec rfl rfl s10).trans ?_; with_reducible rfl) | (refine (load_exec rfl rfl s11).trans ?_; with_reducible rfl) | (refine (load_exec rfl rfl s12).trans ?_; with_reducible rfl) | (refine (load_exec rfl rfl s13).trans ?_; with_reducible rfl) | (refine (load_exec rfl rfl s14).trans ?_; with_reducible rfl) | (refine (load_exec rfl rfl s15).trans ?_; with_reducible rfl) | (refine (load_exec rfl rfl s16).trans ?_; with_reducible rfl) | (refine (load_exec rfl rfl s17).trans ?_; with_reducible rfl) | (go_simp; with_reducible rfl)
   rotate_left
   ·simp only [Act.put, List.setIfInBounds_toArray, List.set_cons_zero, List.set_cons_succ, i64_w, i32_w]
    rfl
   refine take_ (i := 10) (N := some 13) (v := ?_) (a' := ?_) #[true, true, true, true, true, true, true, true, true, true, true, true, true, false, true, true, false, false, false, false] rfl rfl (take_ofW HT_.out HW_.out (by kernel_rfl)) (fun _ _ _ h => h) (Or.inl ⟨by rfl, ?_⟩) hHeld ?_ ?_
   rotate_left
   ·rintro w' ⟨s0, s1, s2, s3, s4, s5, s6, s7, s8, s9, s10, s11, s12, s13, s14, s15, s16, s17⟩
    first | (refine (load_exec rfl rfl s0).trans ?_; with_reducible rfl) | (refine (load_exec rfl rfl s1).trans ?_; with_reducible rfl) | (refine (load_exec rfl rfl s2).trans ?_; with_reducible rfl) | (refine (load_exec rfl rfl s3).trans ?_; with_reducible rfl) | (refine (load_exec rfl rfl s4).trans ?_; with_reducible rfl) | (refine (load_exec rfl rfl s5).trans ?_; with_reducible rfl) | (refine (load_exec rfl rfl s6).trans ?_; with_reducible rfl) | (refine (load_exec rfl rfl s7).trans ?_; with_reducible rfl) | (refine (load_exec rfl rfl s8).trans ?_; with_reducible rfl) | (refine (load_exec rfl rfl s9).trans ?_; with_reducible rfl) | (refine (load_exec rfl rfl s10).trans ?_; with_reducible rfl) | (refine (load_exec rfl rfl s11).trans ?_; with_reducible rfl) | (refine (load_exec rfl rfl s12).trans ?_; with_reducible rfl) | (refine (load_exec rfl rfl s13).trans ?_; with_reducible rfl) | (refine (load_exec rfl rfl s14).trans ?_; with_reducible rfl) | (refine (load_exec rfl rfl s15).trans ?_; with_reducible rfl) | (refine (load_exec rfl rfl s16).trans ?_; with_reducible rfl) | (refine (load_exec rfl rfl s17).trans ?_; with_reducible rfl) | (go_simp; with_reducible rfl)
   rotate_left
   ·simp only [Act.put, List.setIfInBounds_toArray, List.set_cons_zero, List.set_cons_succ, i64_w, i32_w]
    rfl
   refine take_ (i := 13) (N := some 16) (v := ?_) (a' := ?_) #[true, true, true, true, true, true, true, true, true, true, true, true, true, true, true, true, false, false, false, false] rfl rfl (take_ofW HT_.out HW_.out (by kernel_rfl)) (fun _ _ _ h => h) (Or.inl ⟨by rfl, ?_⟩) hHeld ?_ ?_
   rotate_left
   ·rintro w' ⟨s0, s1, s2, s3, s4, s5, s6, s7, s8, s9, s10, s11, s12, s13, s14, s15, s16, s17⟩
    first | (refine (load_exec rfl rfl s0).trans ?_; with_reducible rfl) | (refine (load_exec rfl rfl s1).trans ?_; with_reducible rfl) | (refine (load_exec rfl rfl s2).trans ?_; with_reducible rfl) | (refine (load_exec rfl rfl s3).trans ?_; with_reducible rfl) | (refine (load_exec rfl rfl s4).trans ?_; with_reducible rfl) | (refine (load_exec rfl rfl s5).trans ?_; with_reducible rfl) | (refine (load_exec rfl rfl s6).trans ?_; with_reducible rfl) | (refine (load_exec rfl rfl s7).trans ?_; with_reducible rfl) | (refine (load_exec rfl rfl s8).trans ?_; with_reducible rfl) | (refine (load_exec rfl rfl s9).trans ?_; with_reducible rfl) | (refine (load_exec rfl rfl s10).trans ?_; with_reducible rfl) | (refine (load_exec rfl rfl s11).trans ?_; with_reducible rfl) | (refine (load_exec rfl rfl s12).trans ?_; with_reducible rfl) | (refine (load_exec rfl rfl s13).trans ?_; with_reducible rfl) | (refine (load_exec rfl rfl s14).trans ?_; with_reducible rfl) | (refine (load_exec rfl rfl s15).trans ?_; with_reducible rfl) | (refine (load_exec rfl rfl s16).trans ?_; with_reducible rfl) | (refine (load_exec rfl rfl s17).trans ?_; with_reducible rfl) | (go_simp; with_reducible rfl)
   rotate_left
   ·simp only [Act.put, List.setIfInBounds_toArray, List.set_cons_zero, List.set_cons_succ, i64_w, i32_w]
    rfl
   refine take_ (i := 16) (N := some 19) (v := ?_) (a' := ?_) #[true, true, true, true, true, true, true, true, true, true, true, true, true, true, true, true, true, false, false, false] rfl rfl (take_ofW HT_.out HW_.out (by kernel_rfl)) (fun _ _ _ h => h) (Or.inl ⟨by rfl, ?_⟩) hHeld ?_ ?_
   rotate_left
   ·rintro w' ⟨s0, s1, s2, s3, s4, s5, s6, s7, s8, s9, s10, s11, s12, s13, s14, s15, s16, s17⟩
    first | (refine (load_exec rfl rfl s0).trans ?_; with_reducible rfl) | (refine (load_exec rfl rfl s1).trans ?_; with_reducible rfl) | (refine (load_exec rfl rfl s2).trans ?_; with_reducible rfl) | (refine (load_exec rfl rfl s3).trans ?_; with_reducible rfl) | (refine (load_exec rfl rfl s4).trans ?_; with_reducible rfl) | (refine (load_exec rfl rfl s5).trans ?_; with_reducible rfl) | (refine (load_exec rfl rfl s6).trans ?_; with_reducible rfl) | (refine (load_exec rfl rfl s7).trans ?_; with_reducible rfl) | (refine (load_exec rfl rfl s8).trans ?_; with_reducible rfl) | (refine (load_exec rfl rfl s9).trans ?_; with_reducible rfl) | (refine (load_exec rfl rfl s10).trans ?_; with_reducible rfl) | (refine (load_exec rfl rfl s11).trans ?_; with_reducible rfl) | (refine (load_exec rfl rfl s12).trans ?_; with_reducible rfl) | (refine (load_exec rfl rfl s13).trans ?_; with_reducible rfl) | (refine (load_exec rfl rfl s14).trans ?_; with_reducible rfl) | (refine (load_exec rfl rfl s15).trans ?_; with_reducible rfl) | (refine (load_exec rfl rfl s16).trans ?_; with_reducible rfl) | (refine (load_exec rfl rfl s17).trans ?_; with_reducible rfl) | (go_simp; with_reducible rfl)
   rotate_left
   ·simp only [Act.put, List.setIfInBounds_toArray, List.set_cons_zero, List.set_cons_succ, i64_w, i32_w]
    rfl
   refine one_ (i := 17) (N := some 20) #[true, true, true, true, true, true, true, true, true, true, true, true, true, true, true, true, true, true, false, false] rfl rfl (one_of HT_.out (by kernel_rfl)) (by decide) (fun K hK => ?_)
   refine goes_ Tryd.func20 (by kernel_rfl) rfl #[.int .u8 a0_13, .int .u8 a0_14, .int .u8 a0_15, .int .u8 a0_16] (by rfl) rfl rfl (by (try simp only [List.map_toArray, List.map_cons, List.map_nil]); first | done | rfl | (simp only [List.length_drop, List.length_take]; rfl)) ?_
   with_reducible refine (ip_V4.calls a0_13 a0_14 a0_15 a0_16 t190 t191 t192 t193 t194 t195 t196 t197 t198 t199 t200 t201 t202 t203 t204 t205 t206 _ ?side1 A5.out).mono ?_
   (case side1 => exact LW.below HLW.out (by repeat (first | (with_reducible first | exact HB.out | apply below_alloc | apply pw_below_drewN | apply below_drew1 | refine below_set ?_ GE189.out) | exact HB.out)))
   rintro e w12 ⟨rfl, hb⟩
   refine ⟨_, rfl, ?_⟩
   have n0_ := Aside0.mk (blk_below (g := gb189) (o := .cells #[.bool false, .int .u8 a0_1, .int .u8 a0_2, .int .u8 a0_3, .int .u8 a0_4, .int .u8 a0_5, .int .u8 a0_6, .int .u8 a0_7, .int .u8 a0_8, .int .u8 a0_9, .int .u8 a0_10, .int .u8 a0_11, .int .u8 a0_12, .int .u8 a0_13, .int .u8 a0_14, .int .u8 a0_15, .int .u8 a0_16] 25 (0, 0)) (by (with_reducible repeat (first | refine blk_drewN ?_ _ | refine blk_drew ?_ | refine blk_alloc ?_ _)); exact BK189.out) hb)
   have n1_ := Aside0.mk (below_step (by repeat (first | (with_reducible first | exact HB.out | apply below_alloc | apply pw_below_drewN | apply below_drew1 | refine below_set ?_ GE189.out) | exact HB.out)) hb)
   clear BK189
   clear HB
   have BK189 := n0_
   have HB := n1_
   clear n0_ n1_
   (try clear hb)
   (try clear hb2)
   (try clear hk)
   (try clear hi)
   refine hK.out _ _ ⟨(blk_cell BK189.out 0).trans rfl, (blk_cell BK189.out 1).trans rfl, (blk_cell BK189.out 2).trans rfl, (blk_cell BK189.out 3).trans rfl, (blk_cell BK189.out 4).trans rfl, (blk_cell BK189.out 5).trans rfl, (blk_cell BK189.out 6).trans rfl, (blk_cell BK189.out 7).trans rfl, (blk_cell BK189.out 8).trans rfl, (blk_cell BK189.out 9).trans rfl, (blk_cell BK189.out 10).trans rfl, (blk_cell BK189.out 11).trans rfl, (blk_cell BK189.out 12).trans rfl, (blk_cell BK189.out 13).trans rfl, (blk_cell BK189.out 14).trans rfl, (blk_cell BK189.out 15).trans rfl, (blk_cell BK189.out 16).trans rfl, (run_load_box BK189.out 25 [] [.bool false, .int .u8 a0_1, .int .u8 a0_2, .int .u8 a0_3, .int .u8 a0_4, .int .u8 a0_5, .int .u8 a0_6, .int .u8 a0_7, .int .u8 a0_8, .int .u8 a0_9, .int .u8 a0_10, .int .u8 a0_11, .int .u8 a0_12, .int .u8 a0_13, .int .u8 a0_14, .int .u8 a0_15, .int .u8 a0_16] [] rfl 0 rfl Tryd.underlying25 rfl (by kernel_rfl))⟩ (fun hHeld => ?_)
   clear hK K
   refine norm_ (a' := ?_) ?_ ?_
   rotate_left
   ·show Act.put _ (some 20) _ = _
    simp only [Act.put, List.setIfInBounds_toArray, List.set_cons_zero, List.set_cons_succ, i64_w, i32_w]
    rfl
   refine pure_ (i := 18) (N := some 21) (v := ?_) (a' := ?_) #[true, true, true, true, true, true, true, true, true, true, true, true, true, true, true, true, true, true, true, false] rfl rfl (any_of HT_.out (by kernel_rfl)) (fun _ _ _ h => h) (Or.inl ⟨by rfl, ?_⟩) ?_ ?_
   rotate_left
   ·intro w'
    go_simp
    with_reducible rfl
   rotate_left
   ·simp only [Act.put, List.setIfInBounds_toArray, List.set_cons_zero, List.set_cons_succ, i64_w, i32_w]
    rfl
   refine pure_ (i := 19) (N := some 22) (v := ?_) (a' := ?_) #[true, true, true, true, true, true, true, true, true, true, true, true, true, true, true, true, true, true, true, true] rfl rfl (any_of HT_.out (by kernel_rfl)) (fun _ _ _ h => h) (Or.inl ⟨by rfl, ?_⟩) ?_ ?_
   rotate_left
   ·intro w'
    go_simp
    with_reducible rfl
   rotate_left
   ·simp only [Act.put, List.setIfInBounds_toArray, List.set_cons_zero, List.set_cons_succ, i64_w, i32_w]
    rfl
   refine done_ (done_of HT_.out (by kernel_rfl)) ?_
   try go_wp2
   go_ret
   exact ⟨by first | rfl | (simp [errW_none, errW_some] <;> rfl) | (simp [*, errW_none, errW_some] <;> rfl) | (simp [errW_none, errW_some]; first | exact isEmpty_bne _ | exact isEmpty_beq _ | exact (isEmpty_bne _).symm), by repeat (first | (with_reducible first | exact HB.out | apply below_alloc | apply pw_below_drewN | apply below_drew1 | refine below_set ?_ GE189.out) | exact HB.out)⟩

def ip_dots.l0 : Nat → List ByteArray → List Int → Int → Int → Option (ByteArray)
 | 0, _, _, _, _ => none
 | k + 1, x3, x6, x7, x8 => if x8 < x7 then (if 0 ≤ x8 then (if x8 < (x6.length : Int) then ((strconv_Itoa.f (wrap64 (rd x6 x8))).bind fun t208 => (if x3.length < 8796093022208 then (ip_dots.l0 k (x3 ++ [t208]) x6 x7 (wrap64 (x8 + 1))) else (none))) else (none)) else (none)) else ((strings_Join.f x3 (⟨#[46]⟩ : ByteArray)).bind fun t212 => (some t212))
def ip_dots.f (k : Nat) (l0 : List Int) : Option (ByteArray) := ip_dots.l0 k ([] : List ByteArray) l0 (l0.length : Int) 0
theorem ip_dots.mono_l : ∀ k, (∀ y0 y1 y2 y3, LeO (ip_dots.l0 k y0 y1 y2 y3) (ip_dots.l0 (k + 1) y0 y1 y2 y3))
 | 0 => fun _ _ _ _ r h => by simp [ip_dots.l0] at h
 | k + 1 => by
  have ih0 := ip_dots.mono_l k
  ·intro y0 y1 y2 y3
   unfold ip_dots.l0
   repeat' first
   | (with_reducible exact ih0 _ _ _ _)
   | (with_reducible exact LeO.refl _)
   | (with_reducible exact LeO.none _)
   | (with_reducible refine LeO.ite ?_ ?_)
   | (with_reducible refine LeO.bind ?_ (fun _ => ?_))
   | exact ih0 _ _ _ _
   | exact LeO.none _
   | refine LeO.ite ?_ ?_
   | refine LeO.bind ?_ (fun _ => ?_)
theorem ip_dots.mono : ∀ a0 k, LeO (ip_dots.f k a0) (ip_dots.f (k + 1) a0) := by
 intro a0 k
 have ih0 := ip_dots.mono_l k
 unfold ip_dots.f
 repeat' first
   | (with_reducible exact ih0 _ _ _ _)
   | (with_reducible exact LeO.refl _)
   | (with_reducible exact LeO.none _)
   | (with_reducible refine LeO.ite ?_ ?_)
   | (with_reducible refine LeO.bind ?_ (fun _ => ?_))
   | exact ih0 _ _ _ _
   | exact LeO.none _
   | refine LeO.ite ?_ ?_
   | refine LeO.bind ?_ (fun _ => ?_)
set_option maxHeartbeats 8000000 in
set_option maxRecDepth 100000 in
theorem ip_dots.calls (k : Nat) (A0 : Option Addr) (c0 : Nat) (l0 : List Int) (r : ByteArray) (w : World) (hLW : LW w) (hr0 : Kd.C (Kd.int .u8) w A0 l0.length l0) (hc0 : l0.length ≤ c0) (h : ip_dots.f k l0 = some r) :
  Calls Tryd.prog 31 #[.slice A0 l0.length c0] w fun e w' => e = .returned (.string r) ∧ Below w.heap.size w w' := by
 have HLW := Aside0.mk hLW
 clear hLW
 have HR0 := Aside0.mk hr0
 have HC0 := Aside0.mk hc0
 clear hr0 hc0
 have HB := Aside0.mk (Below.refl w.heap.size w)
 have H : (ip_dots.l0 k ([] : List ByteArray) l0 (l0.length : Int) 0) = some r := h
 clear h
 have H' := Aside0.mk H
 clear H
 go_enter Tryd.func31, Tryd.ntmps31
 go_wp2
 go_loopg [3, 8] k (fun kq v3 v8 w' => ∃ (x3_1 : List ByteArray) (x8_1 : Int), v8 = .int .i64 x8_1 ∧ Aside0 (ip_dots.l0 kq x3_1 l0 (l0.length : Int) x8_1 = some r) ∧ Aside0 (kq ≤ k) ∧ Aside0 (Kd.R Kd.string 9 w' w.heap.size (fun _ => True) v3 x3_1) ∧ Aside0 (Below w.heap.size w w'))
 case atStart => exact ⟨(([] : List ByteArray)), (0), (by first | rfl | (simp; done) | (simp [*]; done) | (simp; exact isEmpty_bne _) | (simp; exact isEmpty_beq _)), H', ⟨Nat.le_refl _⟩, ⟨by first | exact Kd.R_nil _ _ _ _ _ | exact Kd.N_nil _ _ _ _ _ | exact Kd.V_nil _ _ _ _ _ | exact Kd.Q_nil _ _ _ _ _ | exact Kd.S_nil _ _ _ _ _⟩, ⟨by repeat (first | (with_reducible first | exact HB.out | apply below_alloc | apply pw_below_drewN | apply below_drew1) | exact HB.out)⟩⟩
 case round =>
  clear H'
  obtain ⟨x3_1, x8_1, rfl, HA, HK1, HO_3, HB⟩ := hrel
  cases gk with
  | zero => exact absurd HA.out (by simp [ip_dots.l0])
  | succ k1 =>
   have H := HA.out
   clear HA
   simp only [ip_dots.l0] at H
   by_cases c2 : x8_1 < (l0.length : Int)
   ·rw [if_pos c2] at H
    have c2b0 : decide (x8_1 < (l0.length : Int)) = true := decide_eq_true c2
    clear c2
    by_cases c3 : 0 ≤ x8_1
    ·rw [if_pos c3] at H
     have c3b0 : decide (0 ≤ x8_1) = true := decide_eq_true c3
     clear c3
     by_cases c4 : x8_1 < (l0.length : Int)
     ·rw [if_pos c4] at H
      have c4b0 : decide (x8_1 < (l0.length : Int)) = true := decide_eq_true c4
      clear c4
      replace H := Option.bind_eq_some_iff.mp H
      obtain ⟨t208, A50, H⟩ := H
      replace H : (if x3_1.length < 8796093022208 then (ip_dots.l0 k1 (x3_1 ++ [t208]) l0 (l0.length : Int) (wrap64 (x8_1 + 1))) else (none)) = some r := H
      have A5 := Aside0.mk A50
      clear A50
      by_cases c6 : x3_1.length < 8796093022208
      ·rw [if_pos c6] at H
       have LMc6 := Aside0.mk c6
       clear c6
       obtain ⟨y209, hy209⟩ : ∃ y_ : List ByteArray, y_ = (x3_1 ++ [t208]) := ⟨_, rfl⟩
       replace H : (ip_dots.l0 k1 y209 l0 (l0.length : Int) (wrap64 (x8_1 + 1))) = some r := by first | (rw [hy209]; with_reducible exact H) | (have H2_ := (Option.bind_some _ _).symm.trans H; rw [hy209]; with_reducible exact H2_) | (have H2_ := (Option.bind_some _ _).symm.trans H; with_reducible exact H2_) | with_reducible exact H | (rw [hy209]; exact H) | exact H
       have Ny209 := Aside0.mk hy209
       clear hy209
       have H' := Aside0.mk H
       clear H
       have p207 : 0 ≤ (x8_1 : Int) := of_decide_eq_true (by first | (with_reducible assumption) | assumption)
       have q207 : x8_1 < (l0.length : Int) := of_decide_eq_true (by first | (with_reducible assumption) | assumption)
       obtain ⟨ad207, e207, hx207_0⟩ := Kd.at_int HR0.out x8_1 p207 q207
       cases e207
       replace hx207_0 := (HB.out.cell (World.block_lt_of_cell? w _ hx207_0)).trans hx207_0
       replace p207 := eq_true p207
       replace q207 := eq_true q207
       go_wp2_with (first | ((with_reducible refine gate_callee (f := 45) rfl ?_); refine goesL_ (some 15) rfl rfl Tryd.func45 (by kernel_rfl) rfl #[.int .i64 (wrap64 (rd l0 x8_1))] rfl (by (try simp only [List.map_toArray, List.map_cons, List.map_nil]); first | done | rfl | (simp only [List.length_drop, List.length_take]; rfl)) ?_; (with_reducible refine (strconv_Itoa.calls (wrap64 (rd l0 x8_1)) t208 _ ?side1 A5.out).mono ?_); (case side1 => exact LW.below HLW.out (by repeat (first | (with_reducible first | exact HB.out | apply below_alloc | apply pw_below_drewN | apply below_drew1) | exact HB.out))); rintro e w7 ⟨rfl, hb⟩; refine ⟨_, rfl, ?_⟩; have n0_ := Aside0.mk (Kd.R_below (by (with_reducible repeat (first | apply Kd.R_alloc | apply Kd.R_drewN | apply Kd.R_drew)); exact HO_3.out) hb); have n1_ := Aside0.mk (below_step (by repeat (first | (with_reducible first | exact HB.out | apply below_alloc | apply pw_below_drewN | apply below_drew1) | exact HB.out)) hb); clear HO_3; clear HB; have HO_3 := n0_; have HB := n1_; clear n0_ n1_; (try clear hb); (try clear hb2); (try clear hk); (try clear hi)) | ((with_reducible refine gate_builtin (b := .append) (xs := #[.tmp 12, .tmp 16]) rfl ?_); at_builtin; refine Kd.R_append Kd.string (w0 := w) w.heap.size rfl (.tmp 12) (.tmp 16) 49 9 (.string ⟨#[]⟩) 16 rfl Tryd.underlying49 info9 rfl (by decide) (by omega) u3 x3_1 t208 [.string t208] (fun _ => True) (fun _ => False) rfl rfl ?aP (fun _ hk => hk.elim) ?aF ?aO ?aB ?aS ?aL ?_; (case aP => exact rfl); (case aB => exact (by repeat (first | (with_reducible first | exact HB.out | apply below_alloc | apply pw_below_drewN | apply below_drew1) | exact HB.out))); (case aF => exact (fun _ _ => trivial)); (case aO => exact (by (with_reducible repeat (first | apply Kd.R_alloc | apply Kd.R_drewN | apply Kd.R_drew)); exact HO_3.out)); (case aS => exact (below_size (by repeat (first | (with_reducible first | exact HB.out | apply below_alloc | apply pw_below_drewN | apply below_drew1) | exact HB.out)))); (case aL => have := LMc6.out; omega); intro v210 w8 ho hb hg hat; rw [← Ny209.out] at ho; have n0_ := Aside0.mk (hb); have n1_ := Aside0.mk (ho); clear HB; clear HO_3; have HB := n0_; have HO211 := n1_; clear n0_ n1_; clear ho hb hg hat))
       go_roundg k1
       case measure => have := HK1.out; omega
       case rel => exact ⟨(y209), (wrap64 (x8_1 + 1)), (by first | rfl | (simp; done) | (simp [*]; done) | (simp; exact isEmpty_bne _) | (simp; exact isEmpty_beq _)), H', ⟨by have := HK1.out; omega⟩, ⟨by (with_reducible repeat (first | apply Kd.R_alloc | apply Kd.R_drewN | apply Kd.R_drew)); exact HO211.out⟩, ⟨by repeat (first | (with_reducible first | exact HB.out | apply below_alloc | apply pw_below_drewN | apply below_drew1) | exact HB.out)⟩⟩
      ·rw [if_neg c6] at H
       exact absurd H (by simp)
     ·rw [if_neg c4] at H
      exact absurd H (by simp)
    ·rw [if_neg c3] at H
     exact absurd H (by simp)
   ·rw [if_neg c2] at H
    have c2b0 : decide (x8_1 < (l0.length : Int)) = false := decide_eq_false c2
    clear c2
    replace H := Option.bind_eq_some_iff.mp H
    obtain ⟨t212, A90, H⟩ := H
    replace H : (some t212) = some r := H
    have A9 := Aside0.mk A90
    clear A90
    obtain rfl := Option.some.inj H
    obtain ⟨Ao10, co10, eo10⟩ := Kd.R_slice HO_3.out
    subst eo10
    go_wp2_with (first | ((with_reducible refine gate_callee (f := 46) rfl ?_); refine goesL_ (some 20) rfl rfl Tryd.func46 (by kernel_rfl) rfl #[.slice Ao10 x3_1.length co10, .string (⟨#[46]⟩ : ByteArray)] rfl (by (try simp only [List.map_toArray, List.map_cons, List.map_nil]); first | done | rfl | (simp only [List.length_drop, List.length_take]; rfl)) ?_; (with_reducible refine (strings_Join.calls _ _ x3_1 (⟨#[46]⟩ : ByteArray) t212 _ ?side3 ?side1 ?side2 A9.out).mono ?_); (case side1 => repeat (first | exact (Kd.R_reads' HO_3.out).2.2 | (with_reducible refine Kd.C_alloc ?_ _) | (with_reducible refine Kd.C_drewN ?_ _) | (with_reducible refine Kd.C_drew ?_))); (case side2 => exact (Kd.R_reads' HO_3.out).2.1); (case side3 => exact LW.below HLW.out (by repeat (first | (with_reducible first | exact HB.out | apply below_alloc | apply pw_below_drewN | apply below_drew1) | exact HB.out))); rintro e w11 ⟨rfl, hb⟩; refine ⟨_, rfl, ?_⟩; have n0_ := Aside0.mk (Kd.R_below (by (with_reducible repeat (first | apply Kd.R_alloc | apply Kd.R_drewN | apply Kd.R_drew)); exact HO_3.out) hb); have n1_ := Aside0.mk (below_step (by repeat (first | (with_reducible first | exact HB.out | apply below_alloc | apply pw_below_drewN | apply below_drew1) | exact HB.out)) hb); clear HO_3; clear HB; have HO_3 := n0_; have HB := n1_; clear n0_ n1_; (try clear hb); (try clear hb2); (try clear hk); (try clear hi)))
    go_ret
    exact ⟨by first | rfl | (simp [errW_none, errW_some] <;> rfl) | (simp [*, errW_none, errW_some] <;> rfl) | (simp [errW_none, errW_some]; first | exact isEmpty_bne _ | exact isEmpty_beq _ | exact (isEmpty_bne _).symm), by repeat (first | (with_reducible first | exact HB.out | apply below_alloc | apply pw_below_drewN | apply below_drew1) | exact HB.out)⟩

def ip_mapped.f (a0_0 : Bool) (a0_1 : Int) (a0_2 : Int) (a0_3 : Int) (a0_4 : Int) (a0_5 : Int) (a0_6 : Int) (a0_7 : Int) (a0_8 : Int) (a0_9 : Int) (a0_10 : Int) (a0_11 : Int) (a0_12 : Int) (a0_13 : Int) (a0_14 : Int) (a0_15 : Int) (a0_16 : Int) : Option (Bool) := (some (([0, 0, 0, 0, 0, 0, 0, 0, 0, 0, 255, 255] : List Int) : List Int)).bind fun y215 => (if a0_0 = true then (some ((a0_1 == (cpy 0 12 0 y215 a0_1) && (a0_2 == (cpy 0 12 1 y215 a0_2) && (a0_3 == (cpy 0 12 2 y215 a0_3) && (a0_4 == (cpy 0 12 3 y215 a0_4) && (a0_5 == (cpy 0 12 4 y215 a0_5) && (a0_6 == (cpy 0 12 5 y215 a0_6) && (a0_7 == (cpy 0 12 6 y215 a0_7) && (a0_8 == (cpy 0 12 7 y215 a0_8) && (a0_9 == (cpy 0 12 8 y215 a0_9) && (a0_10 == (cpy 0 12 9 y215 a0_10) && (a0_11 == (cpy 0 12 10 y215 a0_11) && (a0_12 == (cpy 0 12 11 y215 a0_12) && (a0_13 == (cpy 0 12 12 y215 a0_13) && (a0_14 == (cpy 0 12 13 y215 a0_14) && (a0_15 == (cpy 0 12 14 y215 a0_15) && (a0_16 == (cpy 0 12 15 y215 a0_16))))))))))))))))))) else (some false))
set_option maxHeartbeats 8000000 in
set_option maxRecDepth 100000 in
theorem ip_mapped.calls (a0_0 : Bool) (a0_1 : Int) (a0_2 : Int) (a0_3 : Int) (a0_4 : Int) (a0_5 : Int) (a0_6 : Int) (a0_7 : Int) (a0_8 : Int) (a0_9 : Int) (a0_10 : Int) (a0_11 : Int) (a0_12 : Int) (a0_13 : Int) (a0_14 : Int) (a0_15 : Int) (a0_16 : Int) (r : Bool) (w : World) (hLW : LW w) (h : ip_mapped.f a0_0 a0_1 a0_2 a0_3 a0_4 a0_5 a0_6 a0_7 a0_8 a0_9 a0_10 a0_11 a0_12 a0_13 a0_14 a0_15 a0_16 = some r) :
  Calls Tryd.prog 32 #[.agg #[.bool a0_0, .int .u8 a0_1, .int .u8 a0_2, .int .u8 a0_3, .int .u8 a0_4, .int .u8 a0_5, .int .u8 a0_6, .int .u8 a0_7, .int .u8 a0_8, .int .u8 a0_9, .int .u8 a0_10, .int .u8 a0_11, .int .u8 a0_12, .int .u8 a0_13, .int .u8 a0_14, .int .u8 a0_15, .int .u8 a0_16]] w fun e w' => e = .returned (.bool r) ∧ Below w.heap.size w w' := by
 have hu25 := Tryd.underlying25
 have HLW := Aside0.mk hLW
 clear hLW
 have HB := Aside0.mk (Below.refl w.heap.size w)
 have H : ((some (([0, 0, 0, 0, 0, 0, 0, 0, 0, 0, 255, 255] : List Int) : List Int)).bind fun y215 => (if a0_0 = true then (some ((a0_1 == (cpy 0 12 0 y215 a0_1) && (a0_2 == (cpy 0 12 1 y215 a0_2) && (a0_3 == (cpy 0 12 2 y215 a0_3) && (a0_4 == (cpy 0 12 3 y215 a0_4) && (a0_5 == (cpy 0 12 4 y215 a0_5) && (a0_6 == (cpy 0 12 5 y215 a0_6) && (a0_7 == (cpy 0 12 6 y215 a0_7) && (a0_8 == (cpy 0 12 7 y215 a0_8) && (a0_9 == (cpy 0 12 8 y215 a0_9) && (a0_10 == (cpy 0 12 9 y215 a0_10) && (a0_11 == (cpy 0 12 10 y215 a0_11) && (a0_12 == (cpy 0 12 11 y215 a0_12) && (a0_13 == (cpy 0 12 12 y215 a0_13) && (a0_14 == (cpy 0 12 13 y215 a0_14) && (a0_15 == (cpy 0 12 14 y215 a0_15) && (a0_16 == (cpy 0 12 15 y215 a0_16))))))))))))))))))) else (some false))) = some r := h
 clear h
 obtain ⟨y215, hy215⟩ : ∃ y_ : List Int, y_ = (([0, 0, 0, 0, 0, 0, 0, 0, 0, 0, 255, 255] : List Int)) := ⟨_, rfl⟩
 replace H : (if a0_0 = true then (some ((a0_1 == (cpy 0 12 0 y215 a0_1) && (a0_2 == (cpy 0 12 1 y215 a0_2) && (a0_3 == (cpy 0 12 2 y215 a0_3) && (a0_4 == (cpy 0 12 3 y215 a0_4) && (a0_5 == (cpy 0 12 4 y215 a0_5) && (a0_6 == (cpy 0 12 5 y215 a0_6) && (a0_7 == (cpy 0 12 6 y215 a0_7) && (a0_8 == (cpy 0 12 7 y215 a0_8) && (a0_9 == (cpy 0 12 8 y215 a0_9) && (a0_10 == (cpy 0 12 9 y215 a0_10) && (a0_11 == (cpy 0 12 10 y215 a0_11) && (a0_12 == (cpy 0 12 11 y215 a0_12) && (a0_13 == (cpy 0 12 12 y215 a0_13) && (a0_14 == (cpy 0 12 13 y215 a0_14) && (a0_15 == (cpy 0 12 14 y215 a0_15) && (a0_16 == (cpy 0 12 15 y215 a0_16))))))))))))))))))) else (some false)) = some r := by first | (rw [hy215]; with_reducible exact H) | (have H2_ := (Option.bind_some _ _).symm.trans H; rw [hy215]; with_reducible exact H2_) | (have H2_ := (Option.bind_some _ _).symm.trans H; with_reducible exact H2_) | with_reducible exact H | (rw [hy215]; exact H) | exact H
 have Ny215 := Aside0.mk hy215
 clear hy215
 by_cases c2 : a0_0 = true
 ·subst c2
  have H1 : (some ((a0_1 == (cpy 0 12 0 y215 a0_1) && (a0_2 == (cpy 0 12 1 y215 a0_2) && (a0_3 == (cpy 0 12 2 y215 a0_3) && (a0_4 == (cpy 0 12 3 y215 a0_4) && (a0_5 == (cpy 0 12 4 y215 a0_5) && (a0_6 == (cpy 0 12 5 y215 a0_6) && (a0_7 == (cpy 0 12 6 y215 a0_7) && (a0_8 == (cpy 0 12 7 y215 a0_8) && (a0_9 == (cpy 0 12 8 y215 a0_9) && (a0_10 == (cpy 0 12 9 y215 a0_10) && (a0_11 == (cpy 0 12 10 y215 a0_11) && (a0_12 == (cpy 0 12 11 y215 a0_12) && (a0_13 == (cpy 0 12 12 y215 a0_13) && (a0_14 == (cpy 0 12 13 y215 a0_14) && (a0_15 == (cpy 0 12 14 y215 a0_15) && (a0_16 == (cpy 0 12 15 y215 a0_16))))))))))))))))))) = some r := by rw [if_pos rfl] at H; exact H
  clear H
  have H := H1
  clear H1
  obtain rfl := Option.some.inj H
  go_enter Tryd.func32, Tryd.ntmps32
  go_wp2_with (first | ((with_reducible refine gate_dst (N := 1) rfl ?_); refine box_event ?hg (N := 1) ?hd (cs := #[.bool true, .int .u8 a0_1, .int .u8 a0_2, .int .u8 a0_3, .int .u8 a0_4, .int .u8 a0_5, .int .u8 a0_6, .int .u8 a0_7, .int .u8 a0_8, .int .u8 a0_9, .int .u8 a0_10, .int .u8 a0_11, .int .u8 a0_12, .int .u8 a0_13, .int .u8 a0_14, .int .u8 a0_15, .int .u8 a0_16]) (t := 25) ?hr ?_; (case hd => rfl); (case hg => rfl); (case hr => first | (go_simp; done) | (go_simp; rfl)); intro gb213 hg w3 hbox hb; have n0_ := Aside0.mk (below_step (by repeat (first | (with_reducible first | exact HB.out | apply below_alloc | apply pw_below_drewN | apply below_drew1) | exact HB.out)) hb); have n1_ := Aside0.mk (hbox); have n2_ := Aside0.mk ((by rw [hg]; exact (below_size (by repeat (first | (with_reducible first | exact HB.out | apply below_alloc | apply pw_below_drewN | apply below_drew1) | exact HB.out))) : w.heap.size ≤ gb213)); have n3_ := Aside0.mk ((by rw [hg]; exact (below_size (by repeat (first | (with_reducible first | exact HB.out | apply below_alloc | apply pw_below_drewN | apply below_drew1) | exact HB.out))) : w.heap.size ≤ gb213)); clear HB; have HB := n0_; have BK213 := n1_; have GW213 := n2_; have GE213 := n3_; clear n0_ n1_ n2_ n3_; clear hb hbox hg) | ((with_reducible refine gate_dst (N := 4) rfl ?_); (try (refine gate_guard (by rfl) ?_; dsimp only)); refine load_box ?hg 25 (.tmp 1) rfl BK213.out [] [.bool true, .int .u8 a0_1, .int .u8 a0_2, .int .u8 a0_3, .int .u8 a0_4, .int .u8 a0_5, .int .u8 a0_6, .int .u8 a0_7, .int .u8 a0_8, .int .u8 a0_9, .int .u8 a0_10, .int .u8 a0_11, .int .u8 a0_12, .int .u8 a0_13, .int .u8 a0_14, .int .u8 a0_15, .int .u8 a0_16] [] rfl 0 rfl rfl Tryd.underlying25 rfl (by kernel_rfl) ?_; (case hg => rfl)) | ((with_reducible refine gate_dst (N := 3) rfl ?_); refine box_event ?hg (N := 3) ?hd (cs := #[.bool false, .int .u8 0, .int .u8 0, .int .u8 0, .int .u8 0, .int .u8 0, .int .u8 0, .int .u8 0, .int .u8 0, .int .u8 0, .int .u8 0, .int .u8 0, .int .u8 0, .int .u8 0, .int .u8 0, .int .u8 0, .int .u8 0]) (t := 25) ?hr ?_; (case hd => rfl); (case hg => rfl); (case hr => first | (go_simp; done) | (go_simp; rfl)); intro gb214 hg w4 hbox hb; have n0_ := Aside0.mk (blk_below (g := gb213) (o := .cells #[.bool true, .int .u8 a0_1, .int .u8 a0_2, .int .u8 a0_3, .int .u8 a0_4, .int .u8 a0_5, .int .u8 a0_6, .int .u8 a0_7, .int .u8 a0_8, .int .u8 a0_9, .int .u8 a0_10, .int .u8 a0_11, .int .u8 a0_12, .int .u8 a0_13, .int .u8 a0_14, .int .u8 a0_15, .int .u8 a0_16] 25 (0, 0)) (by (with_reducible repeat (first | refine blk_drewN ?_ _ | refine blk_drew ?_ | refine blk_alloc ?_ _)); exact BK213.out) hb); have n1_ := Aside0.mk (below_step (by repeat (first | (with_reducible first | exact HB.out | apply below_alloc | apply pw_below_drewN | apply below_drew1 | refine below_set ?_ GE213.out) | exact HB.out)) hb); have n2_ := Aside0.mk (hbox); have n3_ := Aside0.mk ((by rw [hg]; exact (below_size (by repeat (first | (with_reducible first | exact HB.out | apply below_alloc | apply pw_below_drewN | apply below_drew1 | refine below_set ?_ GE213.out) | exact HB.out))) : w.heap.size ≤ gb214)); have n4_ := Aside0.mk ((by rw [hg]; exact (below_size (by repeat (first | (with_reducible first | exact HB.out | apply below_alloc | apply pw_below_drewN | apply below_drew1 | refine below_set ?_ GE213.out) | exact HB.out))) : w.heap.size ≤ gb214)); have n5_ := Aside0.mk ((by rw [hg]; exact Nat.ne_of_lt (blk_lt (g := gb213) (o := .cells #[.bool true, .int .u8 a0_1, .int .u8 a0_2, .int .u8 a0_3, .int .u8 a0_4, .int .u8 a0_5, .int .u8 a0_6, .int .u8 a0_7, .int .u8 a0_8, .int .u8 a0_9, .int .u8 a0_10, .int .u8 a0_11, .int .u8 a0_12, .int .u8 a0_13, .int .u8 a0_14, .int .u8 a0_15, .int .u8 a0_16] 25 (0, 0)) (by (with_reducible repeat (first | refine blk_drewN ?_ _ | refine blk_drew ?_ | refine blk_alloc ?_ _)); exact BK213.out)) : gb213 ≠ gb214)); have n6_ := Aside0.mk ((by rw [hg]; exact Nat.ne_of_gt (blk_lt (g := gb213) (o := .cells #[.bool true, .int .u8 a0_1, .int .u8 a0_2, .int .u8 a0_3, .int .u8 a0_4, .int .u8 a0_5, .int .u8 a0_6, .int .u8 a0_7, .int .u8 a0_8, .int .u8 a0_9, .int .u8 a0_10, .int .u8 a0_11, .int .u8 a0_12, .int .u8 a0_13, .int .u8 a0_14, .int .u8 a0_15, .int .u8 a0_16] 25 (0, 0)) (by (with_reducible repeat (first | refine blk_drewN ?_ _ | refine blk_drew ?_ | refine blk_alloc ?_ _)); exact BK213.out)) : gb214 ≠ gb213)); clear BK213; clear HB; have BK213 := n0_; have HB := n1_; have BK214 := n2_; have GW214 := n3_; have GE214 := n4_; have NB213_214 := n5_; have NB214_213 := n6_; clear n0_ n1_ n2_ n3_ n4_ n5_ n6_; clear hb hbox hg; have hnb5 := NB214_213.out; have hnc5 := NB213_214.out; have hcz6_0 : w4.cell? ⟨gb214, 0, none⟩ = some (.bool false) := (blk_cell BK214.out 0).trans rfl; have hcz6_1 : w4.cell? ⟨gb214, 1, none⟩ = some (.int .u8 0) := (blk_cell BK214.out 1).trans rfl; have hcz6_2 : w4.cell? ⟨gb214, 2, none⟩ = some (.int .u8 0) := (blk_cell BK214.out 2).trans rfl; have hcz6_3 : w4.cell? ⟨gb214, 3, none⟩ = some (.int .u8 0) := (blk_cell BK214.out 3).trans rfl; have hcz6_4 : w4.cell? ⟨gb214, 4, none⟩ = some (.int .u8 0) := (blk_cell BK214.out 4).trans rfl; have hcz6_5 : w4.cell? ⟨gb214, 5, none⟩ = some (.int .u8 0) := (blk_cell BK214.out 5).trans rfl; have hcz6_6 : w4.cell? ⟨gb214, 6, none⟩ = some (.int .u8 0) := (blk_cell BK214.out 6).trans rfl; have hcz6_7 : w4.cell? ⟨gb214, 7, none⟩ = some (.int .u8 0) := (blk_cell BK214.out 7).trans rfl; have hcz6_8 : w4.cell? ⟨gb214, 8, none⟩ = some (.int .u8 0) := (blk_cell BK214.out 8).trans rfl; have hcz6_9 : w4.cell? ⟨gb214, 9, none⟩ = some (.int .u8 0) := (blk_cell BK214.out 9).trans rfl; have hcz6_10 : w4.cell? ⟨gb214, 10, none⟩ = some (.int .u8 0) := (blk_cell BK214.out 10).trans rfl; have hcz6_11 : w4.cell? ⟨gb214, 11, none⟩ = some (.int .u8 0) := (blk_cell BK214.out 11).trans rfl; have hcz6_12 : w4.cell? ⟨gb214, 12, none⟩ = some (.int .u8 0) := (blk_cell BK214.out 12).trans rfl; have hcz6_13 : w4.cell? ⟨gb214, 13, none⟩ = some (.int .u8 0) := (blk_cell BK214.out 13).trans rfl; have hcz6_14 : w4.cell? ⟨gb214, 14, none⟩ = some (.int .u8 0) := (blk_cell BK214.out 14).trans rfl; have hcz6_15 : w4.cell? ⟨gb214, 15, none⟩ = some (.int .u8 0) := (blk_cell BK214.out 15).trans rfl; have hcz6_16 : w4.cell? ⟨gb214, 16, none⟩ = some (.int .u8 0) := (blk_cell BK214.out 16).trans rfl; have hfz6_0 := blk_frozen BK214.out 0; have hfz6_1 := blk_frozen BK214.out 1; have hfz6_2 := blk_frozen BK214.out 2; have hfz6_3 := blk_frozen BK214.out 3; have hfz6_4 := blk_frozen BK214.out 4; have hfz6_5 := blk_frozen BK214.out 5; have hfz6_6 := blk_frozen BK214.out 6; have hfz6_7 := blk_frozen BK214.out 7; have hfz6_8 := blk_frozen BK214.out 8; have hfz6_9 := blk_frozen BK214.out 9; have hfz6_10 := blk_frozen BK214.out 10; have hfz6_11 := blk_frozen BK214.out 11; have hfz6_12 := blk_frozen BK214.out 12; have hfz6_13 := blk_frozen BK214.out 13; have hfz6_14 := blk_frozen BK214.out 14; have hfz6_15 := blk_frozen BK214.out 15; have hfz6_16 := blk_frozen BK214.out 16) | ((with_reducible refine gate_store (t := 25) (p := 3) rfl ?_); refine store_all ?hg 25 3 _ rfl rfl gb214 [.bool false, .int .u8 0, .int .u8 0, .int .u8 0, .int .u8 0, .int .u8 0, .int .u8 0, .int .u8 0, .int .u8 0, .int .u8 0, .int .u8 0, .int .u8 0, .int .u8 0, .int .u8 0, .int .u8 0, .int .u8 0, .int .u8 0] [.bool true, .int .u8 a0_1, .int .u8 a0_2, .int .u8 a0_3, .int .u8 a0_4, .int .u8 a0_5, .int .u8 a0_6, .int .u8 a0_7, .int .u8 a0_8, .int .u8 a0_9, .int .u8 a0_10, .int .u8 a0_11, .int .u8 a0_12, .int .u8 a0_13, .int .u8 a0_14, .int .u8 a0_15, .int .u8 a0_16] BK214.out rfl rfl rfl (by kernel_rfl) rfl ?_; (case hg => rfl); intro w7 hw; have n0_ : Aside0 (w7.heap[gb213]? = some (.cells #[.bool true, .int .u8 a0_1, .int .u8 a0_2, .int .u8 a0_3, .int .u8 a0_4, .int .u8 a0_5, .int .u8 a0_6, .int .u8 a0_7, .int .u8 a0_8, .int .u8 a0_9, .int .u8 a0_10, .int .u8 a0_11, .int .u8 a0_12, .int .u8 a0_13, .int .u8 a0_14, .int .u8 a0_15, .int .u8 a0_16] 25 (0, 0))) := ⟨(by rw [hw]; exact (by (with_reducible repeat (first | refine blk_drewN ?_ _ | refine blk_drew ?_ | refine blk_alloc ?_ _)); refine blk_farC NB213_214.out _ _ ?_; (with_reducible repeat (first | refine blk_drewN ?_ _ | refine blk_drew ?_ | refine blk_alloc ?_ _)); exact BK213.out))⟩; have n1_ : Aside0 (w7.heap[gb214]? = some (.cells #[.bool true, .int .u8 a0_1, .int .u8 a0_2, .int .u8 a0_3, .int .u8 a0_4, .int .u8 a0_5, .int .u8 a0_6, .int .u8 a0_7, .int .u8 a0_8, .int .u8 a0_9, .int .u8 a0_10, .int .u8 a0_11, .int .u8 a0_12, .int .u8 a0_13, .int .u8 a0_14, .int .u8 a0_15, .int .u8 a0_16] 25 (0, 0))) := ⟨(by rw [hw]; exact (by (with_reducible repeat (first | refine blk_drewN ?_ _ | refine blk_drew ?_ | refine blk_alloc ?_ _)); refine blk_part [.bool true, .int .u8 a0_1, .int .u8 a0_2, .int .u8 a0_3, .int .u8 a0_4, .int .u8 a0_5, .int .u8 a0_6, .int .u8 a0_7, .int .u8 a0_8, .int .u8 a0_9, .int .u8 a0_10, .int .u8 a0_11, .int .u8 a0_12, .int .u8 a0_13, .int .u8 a0_14, .int .u8 a0_15, .int .u8 a0_16] [.bool false, .int .u8 0, .int .u8 0, .int .u8 0, .int .u8 0, .int .u8 0, .int .u8 0, .int .u8 0, .int .u8 0, .int .u8 0, .int .u8 0, .int .u8 0, .int .u8 0, .int .u8 0, .int .u8 0, .int .u8 0, .int .u8 0] [] [] (cs := #[.bool false, .int .u8 0, .int .u8 0, .int .u8 0, .int .u8 0, .int .u8 0, .int .u8 0, .int .u8 0, .int .u8 0, .int .u8 0, .int .u8 0, .int .u8 0, .int .u8 0, .int .u8 0, .int .u8 0, .int .u8 0, .int .u8 0]) ?_ rfl rfl rfl; (with_reducible repeat (first | refine blk_drewN ?_ _ | refine blk_drew ?_ | refine blk_alloc ?_ _)); exact BK214.out))⟩; have n2_ : Aside0 (Below w.heap.size w w7) := ⟨(by rw [hw]; exact (by repeat (first | (with_reducible first | exact HB.out | apply below_alloc | apply pw_below_drewN | apply below_drew1 | refine below_set ?_ GE213.out | refine below_set ?_ GE214.out | refine below_setC GE213.out _ _ ?_ | refine below_setC GE214.out _ _ ?_) | exact HB.out)))⟩; clear hw; clear BK213; clear BK214; clear HB; have BK213 := n0_; have BK214 := n1_; have HB := n2_; clear n0_ n1_ n2_) | ((with_reducible refine gate_dst (N := 7) rfl ?_); refine Kd.R_lit (Kd.int .u8) _ 5 ?hg (N := 7) ?hd (xs := ([0, 0, 0, 0, 0, 0, 0, 0, 0, 0, 255, 255] : List Int)) (inner := [.int .u8 0, .int .u8 0, .int .u8 0, .int .u8 0, .int .u8 0, .int .u8 0, .int .u8 0, .int .u8 0, .int .u8 0, .int .u8 0, .int .u8 255, .int .u8 255]) (ok := fun _ => True) (okp := fun _ => True) ?hr ?hp (fun _ hk => hk) trivial (Below.refl _ _) (Nat.le_refl _) (by simp) ?_; (case hd => rfl); (case hg => rfl); (case hr => first | (go_simp; done) | (go_simp; rfl)); (case hp => exact (Reps.one (show Kd.M (Kd.int .u8) _ _ _ 0 [.int .u8 0] from rfl) (Reps.one (show Kd.M (Kd.int .u8) _ _ _ 0 [.int .u8 0] from rfl) (Reps.one (show Kd.M (Kd.int .u8) _ _ _ 0 [.int .u8 0] from rfl) (Reps.one (show Kd.M (Kd.int .u8) _ _ _ 0 [.int .u8 0] from rfl) (Reps.one (show Kd.M (Kd.int .u8) _ _ _ 0 [.int .u8 0] from rfl) (Reps.one (show Kd.M (Kd.int .u8) _ _ _ 0 [.int .u8 0] from rfl) (Reps.one (show Kd.M (Kd.int .u8) _ _ _ 0 [.int .u8 0] from rfl) (Reps.one (show Kd.M (Kd.int .u8) _ _ _ 0 [.int .u8 0] from rfl) (Reps.one (show Kd.M (Kd.int .u8) _ _ _ 0 [.int .u8 0] from rfl) (Reps.one (show Kd.M (Kd.int .u8) _ _ _ 0 [.int .u8 0] from rfl) (Reps.one (show Kd.M (Kd.int .u8) _ _ _ 255 [.int .u8 255] from rfl) (Reps.one (show Kd.M (Kd.int .u8) _ _ _ 255 [.int .u8 255] from rfl) (Reps.none _ _)))))))))))))); intro v216 w8 ho9 hb hg_ hnew_; clear hg_ hnew_; (first | rw [← Ny215.out] at ho9 | (simp only [Int.reduceToNat] at ho9; rw [← Ny215.out] at ho9)); have n0_ := Aside0.mk (Kd.R_lower ho9 (below_size (by repeat (first | (with_reducible first | exact HB.out | apply below_alloc | apply pw_below_drewN | apply below_drew1 | refine below_set ?_ GE213.out | refine below_set ?_ GE214.out) | exact HB.out)))); have n1_ := Aside0.mk (blk_below (g := gb213) (o := .cells #[.bool true, .int .u8 a0_1, .int .u8 a0_2, .int .u8 a0_3, .int .u8 a0_4, .int .u8 a0_5, .int .u8 a0_6, .int .u8 a0_7, .int .u8 a0_8, .int .u8 a0_9, .int .u8 a0_10, .int .u8 a0_11, .int .u8 a0_12, .int .u8 a0_13, .int .u8 a0_14, .int .u8 a0_15, .int .u8 a0_16] 25 (0, 0)) (by (with_reducible repeat (first | refine blk_drewN ?_ _ | refine blk_drew ?_ | refine blk_alloc ?_ _)); exact BK213.out) hb); have n2_ := Aside0.mk (blk_below (g := gb214) (o := .cells #[.bool true, .int .u8 a0_1, .int .u8 a0_2, .int .u8 a0_3, .int .u8 a0_4, .int .u8 a0_5, .int .u8 a0_6, .int .u8 a0_7, .int .u8 a0_8, .int .u8 a0_9, .int .u8 a0_10, .int .u8 a0_11, .int .u8 a0_12, .int .u8 a0_13, .int .u8 a0_14, .int .u8 a0_15, .int .u8 a0_16] 25 (0, 0)) (by (with_reducible repeat (first | refine blk_drewN ?_ _ | refine blk_drew ?_ | refine blk_alloc ?_ _)); exact BK214.out) hb); have n3_ := Aside0.mk (below_step (by repeat (first | (with_reducible first | exact HB.out | apply below_alloc | apply pw_below_drewN | apply below_drew1 | refine below_set ?_ GE213.out | refine below_set ?_ GE214.out) | exact HB.out)) hb); clear BK213; clear BK214; clear HB; have HO217 := n0_; have BK213 := n1_; have BK214 := n2_; have HB := n3_; clear n0_ n1_ n2_ n3_; clear hb ho9; obtain ⟨Ao10, co10, eo10⟩ := Kd.R_slice HO217.out; subst eo10; have hcz11_0 : w8.cell? ⟨gb214, 0, none⟩ = some (.bool true) := (blk_cell BK214.out 0).trans rfl; have hcz11_1 : w8.cell? ⟨gb214, 1, none⟩ = some (.int .u8 a0_1) := (blk_cell BK214.out 1).trans rfl; have hcz11_2 : w8.cell? ⟨gb214, 2, none⟩ = some (.int .u8 a0_2) := (blk_cell BK214.out 2).trans rfl; have hcz11_3 : w8.cell? ⟨gb214, 3, none⟩ = some (.int .u8 a0_3) := (blk_cell BK214.out 3).trans rfl; have hcz11_4 : w8.cell? ⟨gb214, 4, none⟩ = some (.int .u8 a0_4) := (blk_cell BK214.out 4).trans rfl; have hcz11_5 : w8.cell? ⟨gb214, 5, none⟩ = some (.int .u8 a0_5) := (blk_cell BK214.out 5).trans rfl; have hcz11_6 : w8.cell? ⟨gb214, 6, none⟩ = some (.int .u8 a0_6) := (blk_cell BK214.out 6).trans rfl; have hcz11_7 : w8.cell? ⟨gb214, 7, none⟩ = some (.int .u8 a0_7) := (blk_cell BK214.out 7).trans rfl; have hcz11_8 : w8.cell? ⟨gb214, 8, none⟩ = some (.int .u8 a0_8) := (blk_cell BK214.out 8).trans rfl; have hcz11_9 : w8.cell? ⟨gb214, 9, none⟩ = some (.int .u8 a0_9) := (blk_cell BK214.out 9).trans rfl; have hcz11_10 : w8.cell? ⟨gb214, 10, none⟩ = some (.int .u8 a0_10) := (blk_cell BK214.out 10).trans rfl; have hcz11_11 : w8.cell? ⟨gb214, 11, none⟩ = some (.int .u8 a0_11) := (blk_cell BK214.out 11).trans rfl; have hcz11_12 : w8.cell? ⟨gb214, 12, none⟩ = some (.int .u8 a0_12) := (blk_cell BK214.out 12).trans rfl; have hcz11_13 : w8.cell? ⟨gb214, 13, none⟩ = some (.int .u8 a0_13) := (blk_cell BK214.out 13).trans rfl; have hcz11_14 : w8.cell? ⟨gb214, 14, none⟩ = some (.int .u8 a0_14) := (blk_cell BK214.out 14).trans rfl; have hcz11_15 : w8.cell? ⟨gb214, 15, none⟩ = some (.int .u8 a0_15) := (blk_cell BK214.out 15).trans rfl; have hcz11_16 : w8.cell? ⟨gb214, 16, none⟩ = some (.int .u8 a0_16) := (blk_cell BK214.out 16).trans rfl; have hfz11_0 := blk_frozen BK214.out 0; have hfz11_1 := blk_frozen BK214.out 1; have hfz11_2 := blk_frozen BK214.out 2; have hfz11_3 := blk_frozen BK214.out 3; have hfz11_4 := blk_frozen BK214.out 4; have hfz11_5 := blk_frozen BK214.out 5; have hfz11_6 := blk_frozen BK214.out 6; have hfz11_7 := blk_frozen BK214.out 7; have hfz11_8 := blk_frozen BK214.out 8; have hfz11_9 := blk_frozen BK214.out 9; have hfz11_10 := blk_frozen BK214.out 10; have hfz11_11 := blk_frozen BK214.out 11; have hfz11_12 := blk_frozen BK214.out 12; have hfz11_13 := blk_frozen BK214.out 13; have hfz11_14 := blk_frozen BK214.out 14; have hfz11_15 := blk_frozen BK214.out 15; have hfz11_16 := blk_frozen BK214.out 16) | ((with_reducible refine gate_dst (N := 8) rfl ?_); obtain ⟨vcp_, hcw_⟩ := copy_world (P := Tryd.prog) (dT := 62) (sT := 62) (ty := 3) (c := co10) Tryd.underlying62 (info_size info5) BK214.out .u8 [.bool true] [a0_1, a0_2, a0_3, a0_4, a0_5, a0_6, a0_7, a0_8, a0_9, a0_10, a0_11, a0_12, a0_13, a0_14, a0_15, a0_16] [] rfl 0 12 12 16 (by decide) (by decide) (by show 12 ≤ 16; decide) (by have h_ := HO217.out; first | exact (Kd.R_reads' h_).2.2 | exact (Kd.R_reads' (by (with_reducible repeat (first | apply Kd.R_alloc | apply Kd.R_drewN | apply Kd.R_drew)); exact HO217.out)).2.2) (q := 1) (Or.inl rfl); refine run_ev ?hg (N := 8) ?hd vcp_ (w1 := (w8.setCells gb214 1 ((cpyL 0 12 y215 0 [a0_1, a0_2, a0_3, a0_4, a0_5, a0_6, a0_7, a0_8, a0_9, a0_10, a0_11, a0_12, a0_13, a0_14, a0_15, a0_16]).map (Value.int .u8)))) ?hr ?_; (case hd => rfl); (case hg => rfl); (case hr => first | (go_simp; done) | (go_simp; rw [hcw_]; rfl)); clear hcw_; intro w12 hw; have n0_ : Aside0 (Kd.R (Kd.int .u8) 5 w12 w.heap.size (fun _ => True) (.slice Ao10 y215.length co10) y215) := ⟨(by rw [hw]; exact (by (with_reducible repeat (first | apply Kd.R_alloc | apply Kd.R_drewN | apply Kd.R_drew)); exact Kd.R_mono (R_farC (g := gb214) (fun _ hk => hk.2) (Kd.R_types HO217.out BK214.out (by decide)) ((cpyL 0 12 y215 0 [a0_1, a0_2, a0_3, a0_4, a0_5, a0_6, a0_7, a0_8, a0_9, a0_10, a0_11, a0_12, a0_13, a0_14, a0_15, a0_16]).map (Value.int .u8)) 1) (fun _ hk => trivial)))⟩; have n1_ : Aside0 (w12.heap[gb213]? = some (.cells #[.bool true, .int .u8 a0_1, .int .u8 a0_2, .int .u8 a0_3, .int .u8 a0_4, .int .u8 a0_5, .int .u8 a0_6, .int .u8 a0_7, .int .u8 a0_8, .int .u8 a0_9, .int .u8 a0_10, .int .u8 a0_11, .int .u8 a0_12, .int .u8 a0_13, .int .u8 a0_14, .int .u8 a0_15, .int .u8 a0_16] 25 (0, 0))) := ⟨(by rw [hw]; exact (by (with_reducible repeat (first | refine blk_drewN ?_ _ | refine blk_drew ?_ | refine blk_alloc ?_ _)); refine blk_farC NB213_214.out _ _ ?_; (with_reducible repeat (first | refine blk_drewN ?_ _ | refine blk_drew ?_ | refine blk_alloc ?_ _)); exact BK213.out))⟩; have n2_ : Aside0 (w12.heap[gb214]? = some (.cells #[.bool true, .int .u8 (cpy 0 12 0 y215 a0_1), .int .u8 (cpy 0 12 1 y215 a0_2), .int .u8 (cpy 0 12 2 y215 a0_3), .int .u8 (cpy 0 12 3 y215 a0_4), .int .u8 (cpy 0 12 4 y215 a0_5), .int .u8 (cpy 0 12 5 y215 a0_6), .int .u8 (cpy 0 12 6 y215 a0_7), .int .u8 (cpy 0 12 7 y215 a0_8), .int .u8 (cpy 0 12 8 y215 a0_9), .int .u8 (cpy 0 12 9 y215 a0_10), .int .u8 (cpy 0 12 10 y215 a0_11), .int .u8 (cpy 0 12 11 y215 a0_12), .int .u8 (cpy 0 12 12 y215 a0_13), .int .u8 (cpy 0 12 13 y215 a0_14), .int .u8 (cpy 0 12 14 y215 a0_15), .int .u8 (cpy 0 12 15 y215 a0_16)] 25 (0, 0))) := ⟨(by rw [hw]; exact (by (with_reducible repeat (first | refine blk_drewN ?_ _ | refine blk_drew ?_ | refine blk_alloc ?_ _)); refine blk_part ((cpyL 0 12 y215 0 [a0_1, a0_2, a0_3, a0_4, a0_5, a0_6, a0_7, a0_8, a0_9, a0_10, a0_11, a0_12, a0_13, a0_14, a0_15, a0_16]).map (Value.int .u8)) [.int .u8 a0_1, .int .u8 a0_2, .int .u8 a0_3, .int .u8 a0_4, .int .u8 a0_5, .int .u8 a0_6, .int .u8 a0_7, .int .u8 a0_8, .int .u8 a0_9, .int .u8 a0_10, .int .u8 a0_11, .int .u8 a0_12, .int .u8 a0_13, .int .u8 a0_14, .int .u8 a0_15, .int .u8 a0_16] [.bool true] [] (cs := #[.bool true, .int .u8 a0_1, .int .u8 a0_2, .int .u8 a0_3, .int .u8 a0_4, .int .u8 a0_5, .int .u8 a0_6, .int .u8 a0_7, .int .u8 a0_8, .int .u8 a0_9, .int .u8 a0_10, .int .u8 a0_11, .int .u8 a0_12, .int .u8 a0_13, .int .u8 a0_14, .int .u8 a0_15, .int .u8 a0_16]) ?_ rfl rfl rfl; (with_reducible repeat (first | refine blk_drewN ?_ _ | refine blk_drew ?_ | refine blk_alloc ?_ _)); exact BK214.out))⟩; have n3_ : Aside0 (Below w.heap.size w w12) := ⟨(by rw [hw]; exact (by repeat (first | (with_reducible first | exact HB.out | apply below_alloc | apply pw_below_drewN | apply below_drew1 | refine below_set ?_ GE213.out | refine below_set ?_ GE214.out | refine below_setC GE213.out _ _ ?_ | refine below_setC GE214.out _ _ ?_) | exact HB.out)))⟩; clear hw; clear HO217; clear BK213; clear BK214; clear HB; have HO217 := n0_; have BK213 := n1_; have BK214 := n2_; have HB := n3_; clear n0_ n1_ n2_ n3_; have hcz13_0 : w12.cell? ⟨gb213, 0, none⟩ = some (.bool true) := (blk_cell BK213.out 0).trans rfl; have hcz13_1 : w12.cell? ⟨gb213, 1, none⟩ = some (.int .u8 a0_1) := (blk_cell BK213.out 1).trans rfl; have hcz13_2 : w12.cell? ⟨gb213, 2, none⟩ = some (.int .u8 a0_2) := (blk_cell BK213.out 2).trans rfl; have hcz13_3 : w12.cell? ⟨gb213, 3, none⟩ = some (.int .u8 a0_3) := (blk_cell BK213.out 3).trans rfl; have hcz13_4 : w12.cell? ⟨gb213, 4, none⟩ = some (.int .u8 a0_4) := (blk_cell BK213.out 4).trans rfl; have hcz13_5 : w12.cell? ⟨gb213, 5, none⟩ = some (.int .u8 a0_5) := (blk_cell BK213.out 5).trans rfl; have hcz13_6 : w12.cell? ⟨gb213, 6, none⟩ = some (.int .u8 a0_6) := (blk_cell BK213.out 6).trans rfl; have hcz13_7 : w12.cell? ⟨gb213, 7, none⟩ = some (.int .u8 a0_7) := (blk_cell BK213.out 7).trans rfl; have hcz13_8 : w12.cell? ⟨gb213, 8, none⟩ = some (.int .u8 a0_8) := (blk_cell BK213.out 8).trans rfl; have hcz13_9 : w12.cell? ⟨gb213, 9, none⟩ = some (.int .u8 a0_9) := (blk_cell BK213.out 9).trans rfl; have hcz13_10 : w12.cell? ⟨gb213, 10, none⟩ = some (.int .u8 a0_10) := (blk_cell BK213.out 10).trans rfl; have hcz13_11 : w12.cell? ⟨gb213, 11, none⟩ = some (.int .u8 a0_11) := (blk_cell BK213.out 11).trans rfl; have hcz13_12 : w12.cell? ⟨gb213, 12, none⟩ = some (.int .u8 a0_12) := (blk_cell BK213.out 12).trans rfl; have hcz13_13 : w12.cell? ⟨gb213, 13, none⟩ = some (.int .u8 a0_13) := (blk_cell BK213.out 13).trans rfl; have hcz13_14 : w12.cell? ⟨gb213, 14, none⟩ = some (.int .u8 a0_14) := (blk_cell BK213.out 14).trans rfl; have hcz13_15 : w12.cell? ⟨gb213, 15, none⟩ = some (.int .u8 a0_15) := (blk_cell BK213.out 15).trans rfl; have hcz13_16 : w12.cell? ⟨gb213, 16, none⟩ = some (.int .u8 a0_16) := (blk_cell BK213.out 16).trans rfl; have hfz13_0 := blk_frozen BK213.out 0; have hfz13_1 := blk_frozen BK213.out 1; have hfz13_2 := blk_frozen BK213.out 2; have hfz13_3 := blk_frozen BK213.out 3; have hfz13_4 := blk_frozen BK213.out 4; have hfz13_5 := blk_frozen BK213.out 5; have hfz13_6 := blk_frozen BK213.out 6; have hfz13_7 := blk_frozen BK213.out 7; have hfz13_8 := blk_frozen BK213.out 8; have hfz13_9 := blk_frozen BK213.out 9; have hfz13_10 := blk_frozen BK213.out 10; have hfz13_11 := blk_frozen BK213.out 11; have hfz13_12 := blk_frozen BK213.out 12; have hfz13_13 := blk_frozen BK213.out 13; have hfz13_14 := blk_frozen BK213.out 14; have hfz13_15 := blk_frozen BK213.out 15; have hfz13_16 := blk_frozen BK213.out 16) | ((with_reducible refine gate_dst (N := 12) rfl ?_); (try (refine gate_guard (by rfl) ?_; dsimp only)); refine load_box ?hg 25 (.tmp 1) rfl BK213.out [] [.bool true, .int .u8 a0_1, .int .u8 a0_2, .int .u8 a0_3, .int .u8 a0_4, .int .u8 a0_5, .int .u8 a0_6, .int .u8 a0_7, .int .u8 a0_8, .int .u8 a0_9, .int .u8 a0_10, .int .u8 a0_11, .int .u8 a0_12, .int .u8 a0_13, .int .u8 a0_14, .int .u8 a0_15, .int .u8 a0_16] [] rfl 0 rfl rfl Tryd.underlying25 rfl (by kernel_rfl) ?_; (case hg => rfl)) | ((with_reducible refine gate_dst (N := 13) rfl ?_); (try (refine gate_guard (by rfl) ?_; dsimp only)); refine load_box ?hg 25 (.tmp 3) rfl BK214.out [] [.bool true, .int .u8 (cpy 0 12 0 y215 a0_1), .int .u8 (cpy 0 12 1 y215 a0_2), .int .u8 (cpy 0 12 2 y215 a0_3), .int .u8 (cpy 0 12 3 y215 a0_4), .int .u8 (cpy 0 12 4 y215 a0_5), .int .u8 (cpy 0 12 5 y215 a0_6), .int .u8 (cpy 0 12 6 y215 a0_7), .int .u8 (cpy 0 12 7 y215 a0_8), .int .u8 (cpy 0 12 8 y215 a0_9), .int .u8 (cpy 0 12 9 y215 a0_10), .int .u8 (cpy 0 12 10 y215 a0_11), .int .u8 (cpy 0 12 11 y215 a0_12), .int .u8 (cpy 0 12 12 y215 a0_13), .int .u8 (cpy 0 12 13 y215 a0_14), .int .u8 (cpy 0 12 14 y215 a0_15), .int .u8 (cpy 0 12 15 y215 a0_16)] [] rfl 0 rfl rfl Tryd.underlying25 rfl (by kernel_rfl) ?_; (case hg => rfl)))
  go_ret
  exact ⟨by first | rfl | (simp [errW_none, errW_some] <;> rfl) | (simp [*, errW_none, errW_some] <;> rfl) | (simp [errW_none, errW_some]; first | exact isEmpty_bne _ | exact isEmpty_beq _ | exact (isEmpty_bne _).symm), by repeat (first | (with_reducible first | exact HB.out | apply below_alloc | apply pw_below_drewN | apply below_drew1 | refine below_set ?_ GE213.out | refine below_set ?_ GE214.out) | exact HB.out)⟩
 ·replace c2 := Bool.eq_false_iff.mpr c2
  subst c2
  have H1 : (some false) = some r := by rw [if_neg (show ¬ (false = true) by decide)] at H; exact H
  clear H
  have H := H1
  clear H1
  obtain rfl := Option.some.inj H
  go_enter Tryd.func32, Tryd.ntmps32
  go_wp2_with (first | ((with_reducible refine gate_dst (N := 1) rfl ?_); refine box_event ?hg (N := 1) ?hd (cs := #[.bool false, .int .u8 a0_1, .int .u8 a0_2, .int .u8 a0_3, .int .u8 a0_4, .int .u8 a0_5, .int .u8 a0_6, .int .u8 a0_7, .int .u8 a0_8, .int .u8 a0_9, .int .u8 a0_10, .int .u8 a0_11, .int .u8 a0_12, .int .u8 a0_13, .int .u8 a0_14, .int .u8 a0_15, .int .u8 a0_16]) (t := 25) ?hr ?_; (case hd => rfl); (case hg => rfl); (case hr => first | (go_simp; done) | (go_simp; rfl)); intro gb213 hg w14 hbox hb; have n0_ := Aside0.mk (below_step (by repeat (first | (with_reducible first | exact HB.out | apply below_alloc | apply pw_below_drewN | apply below_drew1) | exact HB.out)) hb); have n1_ := Aside0.mk (hbox); have n2_ := Aside0.mk ((by rw [hg]; exact (below_size (by repeat (first | (with_reducible first | exact HB.out | apply below_alloc | apply pw_below_drewN | apply below_drew1) | exact HB.out))) : w.heap.size ≤ gb213)); have n3_ := Aside0.mk ((by rw [hg]; exact (below_size (by repeat (first | (with_reducible first | exact HB.out | apply below_alloc | apply pw_below_drewN | apply below_drew1) | exact HB.out))) : w.heap.size ≤ gb213)); clear HB; have HB := n0_; have BK213 := n1_; have GW213 := n2_; have GE213 := n3_; clear n0_ n1_ n2_ n3_; clear hb hbox hg) | ((with_reducible refine gate_dst (N := 4) rfl ?_); (try (refine gate_guard (by rfl) ?_; dsimp only)); refine load_box ?hg 25 (.tmp 1) rfl BK213.out [] [.bool false, .int .u8 a0_1, .int .u8 a0_2, .int .u8 a0_3, .int .u8 a0_4, .int .u8 a0_5, .int .u8 a0_6, .int .u8 a0_7, .int .u8 a0_8, .int .u8 a0_9, .int .u8 a0_10, .int .u8 a0_11, .int .u8 a0_12, .int .u8 a0_13, .int .u8 a0_14, .int .u8 a0_15, .int .u8 a0_16] [] rfl 0 rfl rfl Tryd.underlying25 rfl (by kernel_rfl) ?_; (case hg => rfl)) | ((with_reducible refine gate_dst (N := 3) rfl ?_); refine box_event ?hg (N := 3) ?hd (cs := #[.bool false, .int .u8 0, .int .u8 0, .int .u8 0, .int .u8 0, .int .u8 0, .int .u8 0, .int .u8 0, .int .u8 0, .int .u8 0, .int .u8 0, .int .u8 0, .int .u8 0, .int .u8 0, .int .u8 0, .int .u8 0, .int .u8 0]) (t := 25) ?hr ?_; (case hd => rfl); (case hg => rfl); (case hr => first | (go_simp; done) | (go_simp; rfl)); intro gb214 hg w15 hbox hb; have n0_ := Aside0.mk (blk_below (g := gb213) (o := .cells #[.bool false, .int .u8 a0_1, .int .u8 a0_2, .int .u8 a0_3, .int .u8 a0_4, .int .u8 a0_5, .int .u8 a0_6, .int .u8 a0_7, .int .u8 a0_8, .int .u8 a0_9, .int .u8 a0_10, .int .u8 a0_11, .int .u8 a0_12, .int .u8 a0_13, .int .u8 a0_14, .int .u8 a0_15, .int .u8 a0_16] 25 (0, 0)) (by (with_reducible repeat (first | refine blk_drewN ?_ _ | refine blk_drew ?_ | refine blk_alloc ?_ _)); exact BK213.out) hb); have n1_ := Aside0.mk (below_step (by repeat (first | (with_reducible first | exact HB.out | apply below_alloc | apply pw_below_drewN | apply below_drew1 | refine below_set ?_ GE213.out) | exact HB.out)) hb); have n2_ := Aside0.mk (hbox); have n3_ := Aside0.mk ((by rw [hg]; exact (below_size (by repeat (first | (with_reducible first | exact HB.out | apply below_alloc | apply pw_below_drewN | apply below_drew1 | refine below_set ?_ GE213.out) | exact HB.out))) : w.heap.size ≤ gb214)); have n4_ := Aside0.mk ((by rw [hg]; exact (below_size (by repeat (first | (with_reducible first | exact HB.out | apply below_alloc | apply pw_below_drewN | apply below_drew1 | refine below_set ?_ GE213.out) | exact HB.out))) : w.heap.size ≤ gb214)); have n5_ := Aside0.mk ((by rw [hg]; exact Nat.ne_of_lt (blk_lt (g := gb213) (o := .cells #[.bool false, .int .u8 a0_1, .int .u8 a0_2, .int .u8 a0_3, .int .u8 a0_4, .int .u8 a0_5, .int .u8 a0_6, .int .u8 a0_7, .int .u8 a0_8, .int .u8 a0_9, .int .u8 a0_10, .int .u8 a0_11, .int .u8 a0_12, .int .u8 a0_13, .int .u8 a0_14, .int .u8 a0_15, .int .u8 a0_16] 25 (0, 0)) (by (with_reducible repeat (first | refine blk_drewN ?_ _ | refine blk_drew ?_ | refine blk_alloc ?_ _)); exact BK213.out)) : gb213 ≠ gb214)); have n6_ := Aside0.mk ((by rw [hg]; exact Nat.ne_of_gt (blk_lt (g := gb213) (o := .cells #[.bool false, .int .u8 a0_1, .int .u8 a0_2, .int .u8 a0_3, .int .u8 a0_4, .int .u8 a0_5, .int .u8 a0_6, .int .u8 a0_7, .int .u8 a0_8, .int .u8 a0_9, .int .u8 a0_10, .int .u8 a0_11, .int .u8 a0_12, .int .u8 a0_13, .int .u8 a0_14, .int .u8 a0_15, .int .u8 a0_16] 25 (0, 0)) (by (with_reducible repeat (first | refine blk_drewN ?_ _ | refine blk_drew ?_ | refine blk_alloc ?_ _)); exact BK213.out)) : gb214 ≠ gb213)); clear BK213; clear HB; have BK213 := n0_; have HB := n1_; have BK214 := n2_; have GW214 := n3_; have GE214 := n4_; have NB213_214 := n5_; have NB214_213 := n6_; clear n0_ n1_ n2_ n3_ n4_ n5_ n6_; clear hb hbox hg; have hnb16 := NB214_213.out; have hnc16 := NB213_214.out; have hcz17_0 : w15.cell? ⟨gb214, 0, none⟩ = some (.bool false) := (blk_cell BK214.out 0).trans rfl; have hcz17_1 : w15.cell? ⟨gb214, 1, none⟩ = some (.int .u8 0) := (blk_cell BK214.out 1).trans rfl; have hcz17_2 : w15.cell? ⟨gb214, 2, none⟩ = some (.int .u8 0) := (blk_cell BK214.out 2).trans rfl; have hcz17_3 : w15.cell? ⟨gb214, 3, none⟩ = some (.int .u8 0) := (blk_cell BK214.out 3).trans rfl; have hcz17_4 : w15.cell? ⟨gb214, 4, none⟩ = some (.int .u8 0) := (blk_cell BK214.out 4).trans rfl; have hcz17_5 : w15.cell? ⟨gb214, 5, none⟩ = some (.int .u8 0) := (blk_cell BK214.out 5).trans rfl; have hcz17_6 : w15.cell? ⟨gb214, 6, none⟩ = some (.int .u8 0) := (blk_cell BK214.out 6).trans rfl; have hcz17_7 : w15.cell? ⟨gb214, 7, none⟩ = some (.int .u8 0) := (blk_cell BK214.out 7).trans rfl; have hcz17_8 : w15.cell? ⟨gb214, 8, none⟩ = some (.int .u8 0) := (blk_cell BK214.out 8).trans rfl; have hcz17_9 : w15.cell? ⟨gb214, 9, none⟩ = some (.int .u8 0) := (blk_cell BK214.out 9).trans rfl; have hcz17_10 : w15.cell? ⟨gb214, 10, none⟩ = some (.int .u8 0) := (blk_cell BK214.out 10).trans rfl; have hcz17_11 : w15.cell? ⟨gb214, 11, none⟩ = some (.int .u8 0) := (blk_cell BK214.out 11).trans rfl; have hcz17_12 : w15.cell? ⟨gb214, 12, none⟩ = some (.int .u8 0) := (blk_cell BK214.out 12).trans rfl; have hcz17_13 : w15.cell? ⟨gb214, 13, none⟩ = some (.int .u8 0) := (blk_cell BK214.out 13).trans rfl; have hcz17_14 : w15.cell? ⟨gb214, 14, none⟩ = some (.int .u8 0) := (blk_cell BK214.out 14).trans rfl; have hcz17_15 : w15.cell? ⟨gb214, 15, none⟩ = some (.int .u8 0) := (blk_cell BK214.out 15).trans rfl; have hcz17_16 : w15.cell? ⟨gb214, 16, none⟩ = some (.int .u8 0) := (blk_cell BK214.out 16).trans rfl; have hfz17_0 := blk_frozen BK214.out 0; have hfz17_1 := blk_frozen BK214.out 1; have hfz17_2 := blk_frozen BK214.out 2; have hfz17_3 := blk_frozen BK214.out 3; have hfz17_4 := blk_frozen BK214.out 4; have hfz17_5 := blk_frozen BK214.out 5; have hfz17_6 := blk_frozen BK214.out 6; have hfz17_7 := blk_frozen BK214.out 7; have hfz17_8 := blk_frozen BK214.out 8; have hfz17_9 := blk_frozen BK214.out 9; have hfz17_10 := blk_frozen BK214.out 10; have hfz17_11 := blk_frozen BK214.out 11; have hfz17_12 := blk_frozen BK214.out 12; have hfz17_13 := blk_frozen BK214.out 13; have hfz17_14 := blk_frozen BK214.out 14; have hfz17_15 := blk_frozen BK214.out 15; have hfz17_16 := blk_frozen BK214.out 16) | ((with_reducible refine gate_store (t := 25) (p := 3) rfl ?_); refine store_all ?hg 25 3 _ rfl rfl gb214 [.bool false, .int .u8 0, .int .u8 0, .int .u8 0, .int .u8 0, .int .u8 0, .int .u8 0, .int .u8 0, .int .u8 0, .int .u8 0, .int .u8 0, .int .u8 0, .int .u8 0, .int .u8 0, .int .u8 0, .int .u8 0, .int .u8 0] [.bool false, .int .u8 a0_1, .int .u8 a0_2, .int .u8 a0_3, .int .u8 a0_4, .int .u8 a0_5, .int .u8 a0_6, .int .u8 a0_7, .int .u8 a0_8, .int .u8 a0_9, .int .u8 a0_10, .int .u8 a0_11, .int .u8 a0_12, .int .u8 a0_13, .int .u8 a0_14, .int .u8 a0_15, .int .u8 a0_16] BK214.out rfl rfl rfl (by kernel_rfl) rfl ?_; (case hg => rfl); intro w18 hw; have n0_ : Aside0 (w18.heap[gb213]? = some (.cells #[.bool false, .int .u8 a0_1, .int .u8 a0_2, .int .u8 a0_3, .int .u8 a0_4, .int .u8 a0_5, .int .u8 a0_6, .int .u8 a0_7, .int .u8 a0_8, .int .u8 a0_9, .int .u8 a0_10, .int .u8 a0_11, .int .u8 a0_12, .int .u8 a0_13, .int .u8 a0_14, .int .u8 a0_15, .int .u8 a0_16] 25 (0, 0))) := ⟨(by rw [hw]; exact (by (with_reducible repeat (first | refine blk_drewN ?_ _ | refine blk_drew ?_ | refine blk_alloc ?_ _)); refine blk_farC NB213_214.out _ _ ?_; (with_reducible repeat (first | refine blk_drewN ?_ _ | refine blk_drew ?_ | refine blk_alloc ?_ _)); exact BK213.out))⟩; have n1_ : Aside0 (w18.heap[gb214]? = some (.cells #[.bool false, .int .u8 a0_1, .int .u8 a0_2, .int .u8 a0_3, .int .u8 a0_4, .int .u8 a0_5, .int .u8 a0_6, .int .u8 a0_7, .int .u8 a0_8, .int .u8 a0_9, .int .u8 a0_10, .int .u8 a0_11, .int .u8 a0_12, .int .u8 a0_13, .int .u8 a0_14, .int .u8 a0_15, .int .u8 a0_16] 25 (0, 0))) := ⟨(by rw [hw]; exact (by (with_reducible repeat (first | refine blk_drewN ?_ _ | refine blk_drew ?_ | refine blk_alloc ?_ _)); refine blk_part [.bool false, .int .u8 a0_1, .int .u8 a0_2, .int .u8 a0_3, .int .u8 a0_4, .int .u8 a0_5, .int .u8 a0_6, .int .u8 a0_7, .int .u8 a0_8, .int .u8 a0_9, .int .u8 a0_10, .int .u8 a0_11, .int .u8 a0_12, .int .u8 a0_13, .int .u8 a0_14, .int .u8 a0_15, .int .u8 a0_16] [.bool false, .int .u8 0, .int .u8 0, .int .u8 0, .int .u8 0, .int .u8 0, .int .u8 0, .int .u8 0, .int .u8 0, .int .u8 0, .int .u8 0, .int .u8 0, .int .u8 0, .int .u8 0, .int .u8 0, .int .u8 0, .int .u8 0] [] [] (cs := #[.bool false, .int .u8 0, .int .u8 0, .int .u8 0, .int .u8 0, .int .u8 0, .int .u8 0, .int .u8 0, .int .u8 0, .int .u8 0, .int .u8 0, .int .u8 0, .int .u8 0, .int .u8 0, .int .u8 0, .int .u8 0, .int .u8 0]) ?_ rfl rfl rfl; (with_reducible repeat (first | refine blk_drewN ?_ _ | refine blk_drew ?_ | refine blk_alloc ?_ _)); exact BK214.out))⟩; have n2_ : Aside0 (Below w.heap.size w w18) := ⟨(by rw [hw]; exact (by repeat (first | (with_reducible first | exact HB.out | apply below_alloc | apply pw_below_drewN | apply below_drew1 | refine below_set ?_ GE213.out | refine below_set ?_ GE214.out | refine below_setC GE213.out _ _ ?_ | refine below_setC GE214.out _ _ ?_) | exact HB.out)))⟩; clear hw; clear BK213; clear BK214; clear HB; have BK213 := n0_; have BK214 := n1_; have HB := n2_; clear n0_ n1_ n2_) | ((with_reducible refine gate_dst (N := 7) rfl ?_); refine Kd.R_lit (Kd.int .u8) _ 5 ?hg (N := 7) ?hd (xs := ([0, 0, 0, 0, 0, 0, 0, 0, 0, 0, 255, 255] : List Int)) (inner := [.int .u8 0, .int .u8 0, .int .u8 0, .int .u8 0, .int .u8 0, .int .u8 0, .int .u8 0, .int .u8 0, .int .u8 0, .int .u8 0, .int .u8 255, .int .u8 255]) (ok := fun _ => True) (okp := fun _ => True) ?hr ?hp (fun _ hk => hk) trivial (Below.refl _ _) (Nat.le_refl _) (by simp) ?_; (case hd => rfl); (case hg => rfl); (case hr => first | (go_simp; done) | (go_simp; rfl)); (case hp => exact (Reps.one (show Kd.M (Kd.int .u8) _ _ _ 0 [.int .u8 0] from rfl) (Reps.one (show Kd.M (Kd.int .u8) _ _ _ 0 [.int .u8 0] from rfl) (Reps.one (show Kd.M (Kd.int .u8) _ _ _ 0 [.int .u8 0] from rfl) (Reps.one (show Kd.M (Kd.int .u8) _ _ _ 0 [.int .u8 0] from rfl) (Reps.one (show Kd.M (Kd.int .u8) _ _ _ 0 [.int .u8 0] from rfl) (Reps.one (show Kd.M (Kd.int .u8) _ _ _ 0 [.int .u8 0] from rfl) (Reps.one (show Kd.M (Kd.int .u8) _ _ _ 0 [.int .u8 0] from rfl) (Reps.one (show Kd.M (Kd.int .u8) _ _ _ 0 [.int .u8 0] from rfl) (Reps.one (show Kd.M (Kd.int .u8) _ _ _ 0 [.int .u8 0] from rfl) (Reps.one (show Kd.M (Kd.int .u8) _ _ _ 0 [.int .u8 0] from rfl) (Reps.one (show Kd.M (Kd.int .u8) _ _ _ 255 [.int .u8 255] from rfl) (Reps.one (show Kd.M (Kd.int .u8) _ _ _ 255 [.int .u8 255] from rfl) (Reps.none _ _)))))))))))))); intro v216 w19 ho20 hb hg_ hnew_; clear hg_ hnew_; (first | rw [← Ny215.out] at ho20 | (simp only [Int.reduceToNat] at ho20; rw [← Ny215.out] at ho20)); have n0_ := Aside0.mk (Kd.R_lower ho20 (below_size (by repeat (first | (with_reducible first | exact HB.out | apply below_alloc | apply pw_below_drewN | apply below_drew1 | refine below_set ?_ GE213.out | refine below_set ?_ GE214.out) | exact HB.out)))); have n1_ := Aside0.mk (blk_below (g := gb213) (o := .cells #[.bool false, .int .u8 a0_1, .int .u8 a0_2, .int .u8 a0_3, .int .u8 a0_4, .int .u8 a0_5, .int .u8 a0_6, .int .u8 a0_7, .int .u8 a0_8, .int .u8 a0_9, .int .u8 a0_10, .int .u8 a0_11, .int .u8 a0_12, .int .u8 a0_13, .int .u8 a0_14, .int .u8 a0_15, .int .u8 a0_16] 25 (0, 0)) (by (with_reducible repeat (first | refine blk_drewN ?_ _ | refine blk_drew ?_ | refine blk_alloc ?_ _)); exact BK213.out) hb); have n2_ := Aside0.mk (blk_below (g := gb214) (o := .cells #[.bool false, .int .u8 a0_1, .int .u8 a0_2, .int .u8 a0_3, .int .u8 a0_4, .int .u8 a0_5, .int .u8 a0_6, .int .u8 a0_7, .int .u8 a0_8, .int .u8 a0_9, .int .u8 a0_10, .int .u8 a0_11, .int .u8 a0_12, .int .u8 a0_13, .int .u8 a0_14, .int .u8 a0_15, .int .u8 a0_16] 25 (0, 0)) (by (with_reducible repeat (first | refine blk_drewN ?_ _ | refine blk_drew ?_ | refine blk_alloc ?_ _)); exact BK214.out) hb); have n3_ := Aside0.mk (below_step (by repeat (first | (with_reducible first | exact HB.out | apply below_alloc | apply pw_below_drewN | apply below_drew1 | refine below_set ?_ GE213.out | refine below_set ?_ GE214.out) | exact HB.out)) hb); clear BK213; clear BK214; clear HB; have HO217 := n0_; have BK213 := n1_; have BK214 := n2_; have HB := n3_; clear n0_ n1_ n2_ n3_; clear hb ho20; obtain ⟨Ao21, co21, eo21⟩ := Kd.R_slice HO217.out; subst eo21; have hcz22_0 : w19.cell? ⟨gb214, 0, none⟩ = some (.bool false) := (blk_cell BK214.out 0).trans rfl; have hcz22_1 : w19.cell? ⟨gb214, 1, none⟩ = some (.int .u8 a0_1) := (blk_cell BK214.out 1).trans rfl; have hcz22_2 : w19.cell? ⟨gb214, 2, none⟩ = some (.int .u8 a0_2) := (blk_cell BK214.out 2).trans rfl; have hcz22_3 : w19.cell? ⟨gb214, 3, none⟩ = some (.int .u8 a0_3) := (blk_cell BK214.out 3).trans rfl; have hcz22_4 : w19.cell? ⟨gb214, 4, none⟩ = some (.int .u8 a0_4) := (blk_cell BK214.out 4).trans rfl; have hcz22_5 : w19.cell? ⟨gb214, 5, none⟩ = some (.int .u8 a0_5) := (blk_cell BK214.out 5).trans rfl; have hcz22_6 : w19.cell? ⟨gb214, 6, none⟩ = some (.int .u8 a0_6) := (blk_cell BK214.out 6).trans rfl; have hcz22_7 : w19.cell? ⟨gb214, 7, none⟩ = some (.int .u8 a0_7) := (blk_cell BK214.out 7).trans rfl; have hcz22_8 : w19.cell? ⟨gb214, 8, none⟩ = some (.int .u8 a0_8) := (blk_cell BK214.out 8).trans rfl; have hcz22_9 : w19.cell? ⟨gb214, 9, none⟩ = some (.int .u8 a0_9) := (blk_cell BK214.out 9).trans rfl; have hcz22_10 : w19.cell? ⟨gb214, 10, none⟩ = some (.int .u8 a0_10) := (blk_cell BK214.out 10).trans rfl; have hcz22_11 : w19.cell? ⟨gb214, 11, none⟩ = some (.int .u8 a0_11) := (blk_cell BK214.out 11).trans rfl; have hcz22_12 : w19.cell? ⟨gb214, 12, none⟩ = some (.int .u8 a0_12) := (blk_cell BK214.out 12).trans rfl; have hcz22_13 : w19.cell? ⟨gb214, 13, none⟩ = some (.int .u8 a0_13) := (blk_cell BK214.out 13).trans rfl; have hcz22_14 : w19.cell? ⟨gb214, 14, none⟩ = some (.int .u8 a0_14) := (blk_cell BK214.out 14).trans rfl; have hcz22_15 : w19.cell? ⟨gb214, 15, none⟩ = some (.int .u8 a0_15) := (blk_cell BK214.out 15).trans rfl; have hcz22_16 : w19.cell? ⟨gb214, 16, none⟩ = some (.int .u8 a0_16) := (blk_cell BK214.out 16).trans rfl; have hfz22_0 := blk_frozen BK214.out 0; have hfz22_1 := blk_frozen BK214.out 1; have hfz22_2 := blk_frozen BK214.out 2; have hfz22_3 := blk_frozen BK214.out 3; have hfz22_4 := blk_frozen BK214.out 4; have hfz22_5 := blk_frozen BK214.out 5; have hfz22_6 := blk_frozen BK214.out 6; have hfz22_7 := blk_frozen BK214.out 7; have hfz22_8 := blk_frozen BK214.out 8; have hfz22_9 := blk_frozen BK214.out 9; have hfz22_10 := blk_frozen BK214.out 10; have hfz22_11 := blk_frozen BK214.out 11; have hfz22_12 := blk_frozen BK214.out 12; have hfz22_13 := blk_frozen BK214.out 13; have hfz22_14 := blk_frozen BK214.out 14; have hfz22_15 := blk_frozen BK214.out 15; have hfz22_16 := blk_frozen BK214.out 16) | ((with_reducible refine gate_dst (N := 8) rfl ?_); obtain ⟨vcp_, hcw_⟩ := copy_world (P := Tryd.prog) (dT := 62) (sT := 62) (ty := 3) (c := co21) Tryd.underlying62 (info_size info5) BK214.out .u8 [.bool false] [a0_1, a0_2, a0_3, a0_4, a0_5, a0_6, a0_7, a0_8, a0_9, a0_10, a0_11, a0_12, a0_13, a0_14, a0_15, a0_16] [] rfl 0 12 12 16 (by decide) (by decide) (by show 12 ≤ 16; decide) (by have h_ := HO217.out; first | exact (Kd.R_reads' h_).2.2 | exact (Kd.R_reads' (by (with_reducible repeat (first | apply Kd.R_alloc | apply Kd.R_drewN | apply Kd.R_drew)); exact HO217.out)).2.2) (q := 1) (Or.inl rfl); refine run_ev ?hg (N := 8) ?hd vcp_ (w1 := (w19.setCells gb214 1 ((cpyL 0 12 y215 0 [a0_1, a0_2, a0_3, a0_4, a0_5, a0_6, a0_7, a0_8, a0_9, a0_10, a0_11, a0_12, a0_13, a0_14, a0_15, a0_16]).map (Value.int .u8)))) ?hr ?_; (case hd => rfl); (case hg => rfl); (case hr => first | (go_simp; done) | (go_simp; rw [hcw_]; rfl)); clear hcw_; intro w23 hw; have n0_ : Aside0 (Kd.R (Kd.int .u8) 5 w23 w.heap.size (fun _ => True) (.slice Ao21 y215.length co21) y215) := ⟨(by rw [hw]; exact (by (with_reducible repeat (first | apply Kd.R_alloc | apply Kd.R_drewN | apply Kd.R_drew)); exact Kd.R_mono (R_farC (g := gb214) (fun _ hk => hk.2) (Kd.R_types HO217.out BK214.out (by decide)) ((cpyL 0 12 y215 0 [a0_1, a0_2, a0_3, a0_4, a0_5, a0_6, a0_7, a0_8, a0_9, a0_10, a0_11, a0_12, a0_13, a0_14, a0_15, a0_16]).map (Value.int .u8)) 1) (fun _ hk => trivial)))⟩; have n1_ : Aside0 (w23.heap[gb213]? = some (.cells #[.bool false, .int .u8 a0_1, .int .u8 a0_2, .int .u8 a0_3, .int .u8 a0_4, .int .u8 a0_5, .int .u8 a0_6, .int .u8 a0_7, .int .u8 a0_8, .int .u8 a0_9, .int .u8 a0_10, .int .u8 a0_11, .int .u8 a0_12, .int .u8 a0_13, .int .u8 a0_14, .int .u8 a0_15, .int .u8 a0_16] 25 (0, 0))) := ⟨(by rw [hw]; exact (by (with_reducible repeat (first | refine blk_drewN ?_ _ | refine blk_drew ?_ | refine blk_alloc ?_ _)); refine blk_farC NB213_214.out _ _ ?_; (with_reducible repeat (first | refine blk_drewN ?_ _ | refine blk_drew ?_ | refine blk_alloc ?_ _)); exact BK213.out))⟩; have n2_ : Aside0 (w23.heap[gb214]? = some (.cells #[.bool false, .int .u8 (cpy 0 12 0 y215 a0_1), .int .u8 (cpy 0 12 1 y215 a0_2), .int .u8 (cpy 0 12 2 y215 a0_3), .int .u8 (cpy 0 12 3 y215 a0_4), .int .u8 (cpy 0 12 4 y215 a0_5), .int .u8 (cpy 0 12 5 y215 a0_6), .int .u8 (cpy 0 12 6 y215 a0_7), .int .u8 (cpy 0 12 7 y215 a0_8), .int .u8 (cpy 0 12 8 y215 a0_9), .int .u8 (cpy 0 12 9 y215 a0_10), .int .u8 (cpy 0 12 10 y215 a0_11), .int .u8 (cpy 0 12 11 y215 a0_12), .int .u8 (cpy 0 12 12 y215 a0_13), .int .u8 (cpy 0 12 13 y215 a0_14), .int .u8 (cpy 0 12 14 y215 a0_15), .int .u8 (cpy 0 12 15 y215 a0_16)] 25 (0, 0))) := ⟨(by rw [hw]; exact (by (with_reducible repeat (first | refine blk_drewN ?_ _ | refine blk_drew ?_ | refine blk_alloc ?_ _)); refine blk_part ((cpyL 0 12 y215 0 [a0_1, a0_2, a0_3, a0_4, a0_5, a0_6, a0_7, a0_8, a0_9, a0_10, a0_11, a0_12, a0_13, a0_14, a0_15, a0_16]).map (Value.int .u8)) [.int .u8 a0_1, .int .u8 a0_2, .int .u8 a0_3, .int .u8 a0_4, .int .u8 a0_5, .int .u8 a0_6, .int .u8 a0_7, .int .u8 a0_8, .int .u8 a0_9, .int .u8 a0_10, .int .u8 a0_11, .int .u8 a0_12, .int .u8 a0_13, .int .u8 a0_14, .int .u8 a0_15, .int .u8 a0_16] [.bool false] [] (cs := #[.bool false, .int .u8 a0_1, .int .u8 a0_2, .int .u8 a0_3, .int .u8 a0_4, .int .u8 a0_5, .int .u8 a0_6, .int .u8 a0_7, .int .u8 a0_8, .int .u8 a0_9, .int .u8 a0_10, .int .u8 a0_11, .int .u8 a0_12, .int .u8 a0_13, .int .u8 a0_14, .int .u8 a0_15, .int .u8 a0_16]) ?_ rfl rfl rfl; (with_reducible repeat (first | refine blk_drewN ?_ _ | refine blk_drew ?_ | refine blk_alloc ?_ _)); exact BK214.out))⟩; have n3_ : Aside0 (Below w.heap.size w w23) := ⟨(by rw [hw]; exact (by repeat (first | (with_reducible first | exact HB.out | apply below_alloc | apply pw_below_drewN | apply below_drew1 | refine below_set ?_ GE213.out | refine below_set ?_ GE214.out | refine below_setC GE213.out _ _ ?_ | refine below_setC GE214.out _ _ ?_) | exact HB.out)))⟩; clear hw; clear HO217; clear BK213; clear BK214; clear HB; have HO217 := n0_; have BK213 := n1_; have BK214 := n2_; have HB := n3_; clear n0_ n1_ n2_ n3_; have hcz24_0 : w23.cell? ⟨gb213, 0, none⟩ = some (.bool false) := (blk_cell BK213.out 0).trans rfl; have hcz24_1 : w23.cell? ⟨gb213, 1, none⟩ = some (.int .u8 a0_1) := (blk_cell BK213.out 1).trans rfl; have hcz24_2 : w23.cell? ⟨gb213, 2, none⟩ = some (.int .u8 a0_2) := (blk_cell BK213.out 2).trans rfl; have hcz24_3 : w23.cell? ⟨gb213, 3, none⟩ = some (.int .u8 a0_3) := (blk_cell BK213.out 3).trans rfl; have hcz24_4 : w23.cell? ⟨gb213, 4, none⟩ = some (.int .u8 a0_4) := (blk_cell BK213.out 4).trans rfl; have hcz24_5 : w23.cell? ⟨gb213, 5, none⟩ = some (.int .u8 a0_5) := (blk_cell BK213.out 5).trans rfl; have hcz24_6 : w23.cell? ⟨gb213, 6, none⟩ = some (.int .u8 a0_6) := (blk_cell BK213.out 6).trans rfl; have hcz24_7 : w23.cell? ⟨gb213, 7, none⟩ = some (.int .u8 a0_7) := (blk_cell BK213.out 7).trans rfl; have hcz24_8 : w23.cell? ⟨gb213, 8, none⟩ = some (.int .u8 a0_8) := (blk_cell BK213.out 8).trans rfl; have hcz24_9 : w23.cell? ⟨gb213, 9, none⟩ = some (.int .u8 a0_9) := (blk_cell BK213.out 9).trans rfl; have hcz24_10 : w23.cell? ⟨gb213, 10, none⟩ = some (.int .u8 a0_10) := (blk_cell BK213.out 10).trans rfl; have hcz24_11 : w23.cell? ⟨gb213, 11, none⟩ = some (.int .u8 a0_11) := (blk_cell BK213.out 11).trans rfl; have hcz24_12 : w23.cell? ⟨gb213, 12, none⟩ = some (.int .u8 a0_12) := (blk_cell BK213.out 12).trans rfl; have hcz24_13 : w23.cell? ⟨gb213, 13, none⟩ = some (.int .u8 a0_13) := (blk_cell BK213.out 13).trans rfl; have hcz24_14 : w23.cell? ⟨gb213, 14, none⟩ = some (.int .u8 a0_14) := (blk_cell BK213.out 14).trans rfl; have hcz24_15 : w23.cell? ⟨gb213, 15, none⟩ = some (.int .u8 a0_15) := (blk_cell BK213.out 15).trans rfl; have hcz24_16 : w23.cell? ⟨gb213, 16, none⟩ = some (.int .u8 a0_16) := (blk_cell BK213.out 16).trans rfl; have hfz24_0 := blk_frozen BK213.out 0; have hfz24_1 := blk_frozen BK213.out 1; have hfz24_2 := blk_frozen BK213.out 2; have hfz24_3 := blk_frozen BK213.out 3; have hfz24_4 := blk_frozen BK213.out 4; have hfz24_5 := blk_frozen BK213.out 5; have hfz24_6 := blk_frozen BK213.out 6; have hfz24_7 := blk_frozen BK213.out 7; have hfz24_8 := blk_frozen BK213.out 8; have hfz24_9 := blk_frozen BK213.out 9; have hfz24_10 := blk_frozen BK213.out 10; have hfz24_11 := blk_frozen BK213.out 11; have hfz24_12 := blk_frozen BK213.out 12; have hfz24_13 := blk_frozen BK213.out 13; have hfz24_14 := blk_frozen BK213.out 14; have hfz24_15 := blk_frozen BK213.out 15; have hfz24_16 := blk_frozen BK213.out 16))
  go_ret
  exact ⟨by first | rfl | (simp [errW_none, errW_some] <;> rfl) | (simp [*, errW_none, errW_some] <;> rfl) | (simp [errW_none, errW_some]; first | exact isEmpty_bne _ | exact isEmpty_beq _ | exact (isEmpty_bne _).symm), by repeat (first | (with_reducible first | exact HB.out | apply below_alloc | apply pw_below_drewN | apply below_drew1 | refine below_set ?_ GE213.out | refine below_set ?_ GE214.out) | exact HB.out)⟩

mutual
def ip_longest.l0 : Nat → List Int → Int → Int → Int → Int → Option (Int × Int)
 | 0, _, _, _, _, _ => none
 | k + 1, x0, x2, x3, x7, x8 => if x8 < x7 then (ip_longest.l1 k x0 x2 x3 x8 0 x7 x8) else (some (x2, x3))
def ip_longest.l1 : Nat → List Int → Int → Int → Int → Int → Int → Int → Option (Int × Int)
 | 0, _, _, _, _, _, _, _ => none
 | k + 1, x0, x2, x3, x4, x5, x7, x8 => if (wrap64 (x4 + x5)) < (x0.length : Int) then (if 0 ≤ (wrap64 (x4 + x5)) then (if (rd x0 (wrap64 (x4 + x5))) = 0 then (ip_longest.l1 k x0 x2 x3 x4 (wrap64 (x5 + 1)) x7 x8) else (if x5 > x3 then (ip_longest.l0 k x0 x4 x5 x7 (wrap64 (x8 + 1))) else (ip_longest.l0 k x0 x2 x3 x7 (wrap64 (x8 + 1))))) else (none)) else (if x5 > x3 then (ip_longest.l0 k x0 x4 x5 x7 (wrap64 (x8 + 1))) else (ip_longest.l0 k x0 x2 x3 x7 (wrap64 (x8 + 1))))
end
def ip_longest.f (k : Nat) (l0 : List Int) : Option (Int × Int) := ip_longest.l0 k l0 0 0 (l0.length : Int) 0
theorem ip_longest.mono_l : ∀ k, (∀ y0 y1 y2 y3 y4, LeO (ip_longest.l0 k y0 y1 y2 y3 y4) (ip_longest.l0 (k + 1) y0 y1 y2 y3 y4)) ∧ (∀ y0 y1 y2 y3 y4 y5 y6, LeO (ip_longest.l1 k y0 y1 y2 y3 y4 y5 y6) (ip_longest.l1 (k + 1) y0 y1 y2 y3 y4 y5 y6))
 | 0 => ⟨fun _ _ _ _ _ r h => by simp [ip_longest.l0] at h, fun _ _ _ _ _ _ _ r h => by simp [ip_longest.l1] at h⟩
 | k + 1 => by
  obtain ⟨ih0, ih1⟩ := ip_longest.mono_l k
  refine ⟨?_, ?_⟩
  ·intro y0 y1 y2 y3 y4
   unfold ip_longest.l0
   repeat' first
   | (with_reducible exact ih0 _ _ _ _ _)
   | (with_reducible exact ih1 _ _ _ _ _ _ _)
   | (with_reducible exact LeO.refl _)
   | (with_reducible exact LeO.none _)
   | (with_reducible refine LeO.ite ?_ ?_)
   | (with_reducible refine LeO.bind ?_ (fun _ => ?_))
   | exact ih0 _ _ _ _ _
   | exact ih1 _ _ _ _ _ _ _
   | exact LeO.none _
   | refine LeO.ite ?_ ?_
   | refine LeO.bind ?_ (fun _ => ?_)
  ·intro y0 y1 y2 y3 y4 y5 y6
   unfold ip_longest.l1
   repeat' first
   | (with_reducible exact ih0 _ _ _ _ _)
   | (with_reducible exact ih1 _ _ _ _ _ _ _)
   | (with_reducible exact LeO.refl _)
   | (with_reducible exact LeO.none _)
   | (with_reducible refine LeO.ite ?_ ?_)
   | (with_reducible refine LeO.bind ?_ (fun _ => ?_))
   | exact ih0 _ _ _ _ _
   | exact ih1 _ _ _ _ _ _ _
   | exact LeO.none _
   | refine LeO.ite ?_ ?_
   | refine LeO.bind ?_ (fun _ => ?_)
theorem ip_longest.mono : ∀ a0 k, LeO (ip_longest.f k a0) (ip_longest.f (k + 1) a0) := by
 intro a0 k
 obtain ⟨ih0, ih1⟩ := ip_longest.mono_l k
 unfold ip_longest.f
 repeat' first
   | (with_reducible exact ih0 _ _ _ _ _)
   | (with_reducible exact ih1 _ _ _ _ _ _ _)
   | (with_reducible exact LeO.refl _)
   | (with_reducible exact LeO.none _)
   | (with_reducible refine LeO.ite ?_ ?_)
   | (with_reducible refine LeO.bind ?_ (fun _ => ?_))
   | exact ih0 _ _ _ _ _
   | exact ih1 _ _ _ _ _ _ _
   | exact LeO.none _
   | refine LeO.ite ?_ ?_
   | refine LeO.bind ?_ (fun _ => ?_)
end Go.Proofs.YtfiefecjcmcejaaDoor.P
