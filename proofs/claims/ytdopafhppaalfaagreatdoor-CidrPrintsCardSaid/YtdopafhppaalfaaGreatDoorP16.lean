-- Written by a program of this session (wip/gen/lprint.py over the kit's print.py) out of the translation. Lean checks it.
import Derived.Test.YtdopafhppaalfaaGreatDoorP0
import Derived.Test.YtdopafhppaalfaaGreatDoorP15
import Derived.Test.YtdopafhppaalfaaGreatDoorZ
namespace Go.Proofs.YtdopafhppaalfaaGreatDoor.P
open Go.Proofs.YtdopafhppaalfaaGreatDoorZ
open Go.Proofs.YtdopafhppaalfaaGreatDoor.E Go.Proofs.YtdopafhppaalfaaGreatDoorV
open Go.RowKit Go.Proofs.YtdopafhppaalfaaGreatDoorW.PrintWords Go.Proofs.YtdopafhppaalfaaGreatDoorW.PrintLast Go.Proofs.YtdopafhppaalfaaGreatDoorW.PrintMore
attribute [local go_sem] max2_int min2_int max_two min_two max_three min_three max_four min_four   -- for this text's walks alone
set_option linter.unusedVariables false
set_option linter.unusedSimpArgs false

def lanternref06_Digits.f : Nat → Int → Option (ByteArray)
 | 0, _ => none
 | k + 1, a0 => if a0 < 10 then (if 0 ≤ a0 then (if a0 ≤ (wrap64 (a0 + 1)) then (if (wrap64 (a0 + 1)) ≤ 10 then (some ((⟨#[48, 49, 50, 51, 52, 53, 54, 55, 56, 57]⟩ : ByteArray).extract (a0 : Int).toNat ((wrap64 (a0 + 1)) : Int).toNat)) else (none)) else (none)) else (none)) else ((lanternref06_Digits.f k (wrap64 (Int.tdiv a0 10))).bind fun t502 => ((lanternref06_Digits.f k (Int.tmod a0 10)).bind fun t503 => (if t502.size + t503.size ≤ 9223372036854775807 then (some (t502 ++ t503)) else (none))))
theorem lanternref06_Digits.mono_l : ∀ k, (∀ y0, LeO (lanternref06_Digits.f k y0) (lanternref06_Digits.f (k + 1) y0))
 | 0 => fun _ r h => by simp [lanternref06_Digits.f] at h
 | k + 1 => by
  have ih0 := lanternref06_Digits.mono_l k
  ·intro y0
   unfold lanternref06_Digits.f
   repeat' first
   | (with_reducible exact ih0 _)
   | (with_reducible exact LeO.refl _)
   | (with_reducible exact LeO.none _)
   | (with_reducible refine LeO.ite ?_ ?_)
   | (with_reducible refine LeO.bind ?_ (fun _ => ?_))
   | exact ih0 _
   | exact LeO.none _
   | refine LeO.ite ?_ ?_
   | refine LeO.bind ?_ (fun _ => ?_)
theorem lanternref06_Digits.mono : ∀ a0 k, LeO (lanternref06_Digits.f k a0) (lanternref06_Digits.f (k + 1) a0) := by
 intro a0 k
 have ih0 := lanternref06_Digits.mono_l k
 exact ih0 a0
set_option maxHeartbeats 8000000 in
set_option maxRecDepth 100000 in
theorem lanternref06_Digits.calls (k : Nat) : ∀ (a0 : Int) (r : ByteArray) (w : World) (hLW : LW w) (h : lanternref06_Digits.f k a0 = some r),
  Calls Tryz.prog 25 #[.int .i64 a0] w fun e w' => e = .returned (.string r) ∧ Drawn0 w w' := by
 induction k using Nat.strongRecOn with
 | _ k ih =>
 intro a0 r w hLW h
 cases k with
 | zero => exact absurd h (by simp [lanternref06_Digits.f])
 | succ k =>
 simp only [lanternref06_Digits.f] at h
 have HLW := Aside0.mk hLW
 clear hLW
 have H := h
 clear h
 by_cases c2 : a0 < 10
 ·rw [if_pos c2] at H
  have c2b0 := decide_eq_true c2
  clear c2
  by_cases c3 : 0 ≤ a0
  ·rw [if_pos c3] at H
   have c3b0 := eq_true c3
   have c3b1 := decide_eq_true c3
   clear c3
   by_cases c4 : a0 ≤ (wrap64 (a0 + 1))
   ·rw [if_pos c4] at H
    have c4b0 := eq_true c4
    have c4b1 := decide_eq_true c4
    by_cases c5 : (wrap64 (a0 + 1)) ≤ 10
    ·rw [if_pos c5] at H
     have c5b0 := eq_true c5
     have c5b1 := decide_eq_true c5
     obtain rfl := Option.some.inj H
     go_enter Tryz.func25, Tryz.ntmps25
     go_wp2
     go_ret
     exact ⟨by first | rfl | (simp; done) | (simp [*]; done) | (simp; exact isEmpty_bne _) | (simp; exact isEmpty_beq _), by repeat (first | exact Drawn0.refl _ | apply Drawn0.step)⟩
    ·rw [if_neg c5] at H
     exact absurd H (by simp)
   ·rw [if_neg c4] at H
    exact absurd H (by simp)
  ·rw [if_neg c3] at H
   exact absurd H (by simp)
 ·rw [if_neg c2] at H
  have c2b0 := decide_eq_false c2
  clear c2
  replace H := Option.bind_eq_some_iff.mp H
  obtain ⟨t502, A60, H⟩ := H
  (try dsimp only at H)
  have A6 := Aside0.mk A60
  clear A60
  replace H := Option.bind_eq_some_iff.mp H
  obtain ⟨t503, A70, H⟩ := H
  (try dsimp only at H)
  have A7 := Aside0.mk A70
  clear A70
  by_cases c8 : t502.size + t503.size ≤ 9223372036854775807
  ·rw [if_pos c8] at H
   have c8b0 := eq_true c8
   have c8b1 := decide_eq_true c8
   try have c8b2 : (9223372036854775807 < t502.size + t503.size) = False := eq_false (Nat.not_lt.2 c8)
   obtain rfl := Option.some.inj H
   go_enter Tryz.func25, Tryz.ntmps25
   go_wp2_with (first | ((with_reducible refine gate_callee (f := 25) rfl ?_); refine goesL_ (some 11) rfl rfl Tryz.func25 (by kernel_rfl) rfl #[.int .i64 (wrap64 (Int.tdiv a0 10))] rfl lq_ ?_; (with_reducible refine (ih k (by omega) (wrap64 (Int.tdiv a0 10)) t502 _ ?side1 A6.out).mono ?_); (case side1 => repeat (first | exact HLW.out | apply LW.drewN | apply LW.drew)); rintro e w' ⟨rfl, ⟨nd, rfl⟩⟩; refine ⟨_, rfl, ?_⟩) | ((with_reducible refine gate_callee (f := 25) rfl ?_); refine goesL_ (some 14) rfl rfl Tryz.func25 (by kernel_rfl) rfl #[.int .i64 (Int.tmod a0 10)] rfl lq_ ?_; (with_reducible refine (ih k (by omega) (Int.tmod a0 10) t503 _ ?side1 A7.out).mono ?_); (case side1 => repeat (first | exact HLW.out | apply LW.drewN | apply LW.drew)); rintro e w' ⟨rfl, ⟨nd, rfl⟩⟩; refine ⟨_, rfl, ?_⟩))
   go_ret
   exact ⟨by first | rfl | (simp; done) | (simp [*]; done) | (simp; exact isEmpty_bne _) | (simp; exact isEmpty_beq _), by repeat (first | exact Drawn0.refl _ | apply Drawn0.step)⟩
  ·rw [if_neg c8] at H
   exact absurd H (by simp)

def lanternref06_Print.f (k : Nat) (z0 : Bool) (z1 : Int) (z2 : Int) (z3 : Int) (z4 : Int) (z5 : Int) (z6 : Int) (z7 : Int) (z8 : Int) (z9 : Int) (za : Int) (zb : Int) (zc : Int) (zd : Int) (ze : Int) (zf : Int) (zg : Int) (zh : Int) : Option (ByteArray) := (lanternref05_Print.f k z0 z1 z2 z3 z4 z5 z6 z7 z8 z9 za zb zc zd ze zf zg).bind fun t505 => (if t505.size + 1 ≤ 9223372036854775807 then ((lanternref06_Digits.f k zh).bind fun t506 => (if (t505 ++ (⟨#[47]⟩ : ByteArray)).size + t506.size ≤ 9223372036854775807 then (some ((t505 ++ (⟨#[47]⟩ : ByteArray)) ++ t506)) else (none))) else (none))
theorem lanternref06_Print.mono : ∀ a0 a1 a2 a3 a4 a5 a6 a7 a8 a9 a10 a11 a12 a13 a14 a15 a16 a17 k, LeO (lanternref06_Print.f k a0 a1 a2 a3 a4 a5 a6 a7 a8 a9 a10 a11 a12 a13 a14 a15 a16 a17) (lanternref06_Print.f (k + 1) a0 a1 a2 a3 a4 a5 a6 a7 a8 a9 a10 a11 a12 a13 a14 a15 a16 a17) := by
 intro a0 a1 a2 a3 a4 a5 a6 a7 a8 a9 a10 a11 a12 a13 a14 a15 a16 a17 k
 unfold lanternref06_Print.f
 repeat' first
   | (with_reducible exact lanternref05_Print.mono _ _ _ _ _ _ _ _ _ _ _ _ _ _ _ _ _ _)
   | (with_reducible exact lanternref06_Digits.mono _ _)
   | (with_reducible exact LeO.refl _)
   | (with_reducible exact LeO.none _)
   | (with_reducible refine LeO.ite ?_ ?_)
   | (with_reducible refine LeO.bind ?_ (fun _ => ?_))
   | exact lanternref05_Print.mono _ _ _ _ _ _ _ _ _ _ _ _ _ _ _ _ _ _
   | exact lanternref06_Digits.mono _ _
   | exact LeO.none _
   | refine LeO.ite ?_ ?_
   | refine LeO.bind ?_ (fun _ => ?_)
def lanternref06_Print.T1 : Bool × List (List Nat × List Nat) := (true, [([], []), ([0], [0]), ([1], [1]), ([2], [2]), ([], []), ([4], [4]), ([5, 2], [5]), ([3, 6], [3, 6]), ([7, 6, 0, 1, 2, 3, 4, 5, 6, 7], [7])])
def lanternref06_Print.B1 : List Nat := [0, 1, 3, 7, 0, 16, 55, 127, 255]
theorem lanternref06_Print.tab1 : rtab .any (opsOf Tryz.f9 1) = lanternref06_Print.T1 := by kernel_rfl
theorem lanternref06_Print.bits1 : waitsOk lanternref06_Print.T1.2 lanternref06_Print.B1 = true := by kernel_rfl
set_option maxHeartbeats 8000000 in
set_option maxRecDepth 100000 in
theorem lanternref06_Print.calls (k : Nat) (z0 : Bool) (z1 : Int) (z2 : Int) (z3 : Int) (z4 : Int) (z5 : Int) (z6 : Int) (z7 : Int) (z8 : Int) (z9 : Int) (za : Int) (zb : Int) (zc : Int) (zd : Int) (ze : Int) (zf : Int) (zg : Int) (zh : Int) (r : ByteArray) (w : World) (hLW : LW w) (h : lanternref06_Print.f k z0 z1 z2 z3 z4 z5 z6 z7 z8 z9 za zb zc zd ze zf zg zh = some r) :
  Calls Tryz.prog 9 #[.agg (nr_ z0 z1 z2 z3 z4 z5 z6 z7 z8 z9 za zb zc zd ze zf zg zh)] w fun e w' => e = .returned (.string r) ∧ Below w.heap.size w w' := by
 have hu26 := Tryz.underlying26
 have hu24 := Tryz.underlying24
 have HLW := Aside0.mk hLW
 clear hLW
 have HB := Aside0.mk (Below.refl w.heap.size w)
 have H := h
 unfold lanternref06_Print.f at H
 clear h
 replace H := Option.bind_eq_some_iff.mp H
 obtain ⟨t505, A20, H⟩ := H
 (try dsimp only at H)
 have A2 := Aside0.mk A20
 clear A20
 by_cases c3 : t505.size + 1 ≤ 9223372036854775807
 ·rw [if_pos c3] at H
  have c3b0 := eq_true c3
  have c3b1 := decide_eq_true c3
  try have c3b2 : (9223372036854775807 < t505.size + 1) = False := eq_false (Nat.not_lt.2 c3)
  replace H := Option.bind_eq_some_iff.mp H
  obtain ⟨t506, A40, H⟩ := H
  (try dsimp only at H)
  have A4 := Aside0.mk A40
  clear A40
  by_cases c5 : (t505 ++ (⟨#[47]⟩ : ByteArray)).size + t506.size ≤ 9223372036854775807
  ·rw [if_pos c5] at H
   have c5b0 := eq_true c5
   have c5b1 := decide_eq_true c5
   try have c5b2 : (9223372036854775807 < (t505 ++ (⟨#[47]⟩ : ByteArray)).size + t506.size) = False := eq_false (Nat.not_lt.2 c5)
   try have c5b8 : (9223372036854775807 < t505.size + 1 + t506.size) = False := eq_false (by have hq := of_eq_true c5b0; simp only [ByteArray.size_append, ByteArray.size_extract] at hq; have hz0 : (⟨#[47]⟩ : ByteArray).size = 1 := rfl; omega)
   obtain rfl := Option.some.inj H
   go_enter Tryz.func9, Tryz.ntmps9
   try go_wp2_with (first | ((with_reducible refine gate_dst (N := 1) rfl ?_); refine bx_ 1 (nr_ z0 z1 z2 z3 z4 z5 z6 z7 z8 z9 za zb zc zd ze zf zg zh) 26 ?_; intro gb504 hg w6 hbox hb; have BK504 := Aside0.mk (hbox); have GW504 := Aside0.mk (ge_ (w := w) hg); have GE504 := Aside0.mk (ge_ (w := w) hg); replace HB := Aside0.mk (below_step bq_ hb); clear hb hbox hg))
   replace BK504 := Aside0.mk (blk_drew BK504.out)
   replace HB := Aside0.mk (below_drew1 HB.out)
   refine start_ (n := 9) (S := fun w' => w'.cell? ⟨gb504, 0, none⟩ = some (.bool z0) ∧ w'.cell? ⟨gb504, 1, none⟩ = some (.int .u8 z1) ∧ w'.cell? ⟨gb504, 2, none⟩ = some (.int .u8 z2) ∧ w'.cell? ⟨gb504, 3, none⟩ = some (.int .u8 z3) ∧ w'.cell? ⟨gb504, 4, none⟩ = some (.int .u8 z4) ∧ w'.cell? ⟨gb504, 5, none⟩ = some (.int .u8 z5) ∧ w'.cell? ⟨gb504, 6, none⟩ = some (.int .u8 z6) ∧ w'.cell? ⟨gb504, 7, none⟩ = some (.int .u8 z7) ∧ w'.cell? ⟨gb504, 8, none⟩ = some (.int .u8 z8) ∧ w'.cell? ⟨gb504, 9, none⟩ = some (.int .u8 z9) ∧ w'.cell? ⟨gb504, 10, none⟩ = some (.int .u8 za) ∧ w'.cell? ⟨gb504, 11, none⟩ = some (.int .u8 zb) ∧ w'.cell? ⟨gb504, 12, none⟩ = some (.int .u8 zc) ∧ w'.cell? ⟨gb504, 13, none⟩ = some (.int .u8 zd) ∧ w'.cell? ⟨gb504, 14, none⟩ = some (.int .u8 ze) ∧ w'.cell? ⟨gb504, 15, none⟩ = some (.int .u8 zf) ∧ w'.cell? ⟨gb504, 16, none⟩ = some (.int .u8 zg) ∧ w'.cell? ⟨gb504, 17, none⟩ = some (.int .i64 zh) ∧ (Instr.loadAt 24 (.pointer (some ⟨gb504, 0, none⟩))).run Tryz.prog w' = .ok (.agg (ag_ z0 z1 z2 z3 z4 z5 z6 z7 z8 z9 za zb zc zd ze zf zg)) w') (ds := []) (bv_ 0 9) (by kernel_rfl) rfl rfl ⟨(blk_cell BK504.out 0).trans rfl, (blk_cell BK504.out 1).trans rfl, (blk_cell BK504.out 2).trans rfl, (blk_cell BK504.out 3).trans rfl, (blk_cell BK504.out 4).trans rfl, (blk_cell BK504.out 5).trans rfl, (blk_cell BK504.out 6).trans rfl, (blk_cell BK504.out 7).trans rfl, (blk_cell BK504.out 8).trans rfl, (blk_cell BK504.out 9).trans rfl, (blk_cell BK504.out 10).trans rfl, (blk_cell BK504.out 11).trans rfl, (blk_cell BK504.out 12).trans rfl, (blk_cell BK504.out 13).trans rfl, (blk_cell BK504.out 14).trans rfl, (blk_cell BK504.out 15).trans rfl, (blk_cell BK504.out 16).trans rfl, (blk_cell BK504.out 17).trans rfl, (run_load_box BK504.out 24 [] (al_ z0 z1 z2 z3 z4 z5 z6 z7 z8 z9 za zb zc zd ze zf zg) [.int .i64 zh] rfl 0 rfl Tryz.underlying24 rfl (by kernel_rfl))⟩ (fun hHeld => ?_); refine with_tabW lanternref06_Print.tab1 lanternref06_Print.bits1 (fun HT_ HW_ => ?_)
   generalize w6.drew = w7 at BK504 HB hHeld ⊢
   refine pl_ 0 3 ?_ 1 8 HT_ ?_ ?_ ?_ ?_
   rotate_left
   ·intro w'
    go_simp
    with_reducible rfl
   rotate_left
   ·simp only [Act.put, sa_, s0_, s1_, i64_w, i32_w]
    rfl
   refine pure_ (i := 4) (N := some 7) (v := ?_) (a' := ?_) #[true, false, false, false, true, false, false, false, false] rfl rfl (any_of HT_.out (by kernel_rfl)) (fun _ _ _ h => h) (Or.inl ⟨by rfl, ?_⟩) ?_ ?_
   rotate_left
   ·intro w'
    go_simp
    with_reducible rfl
   rotate_left
   ·simp only [Act.put, sa_, s0_, s1_, i64_w, i32_w]
    rfl
   refine take_ (i := 1) (N := some 4) (v := ?_) (a' := ?_) #[true, true, false, false, true, false, false, false, false] rfl rfl (take_ofW HT_.out HW_.out (by kernel_rfl)) (fun _ _ _ h => h) (Or.inl ⟨by rfl, ?_⟩) hHeld ?_ ?_
   rotate_left
   ·rintro w' ⟨s0, s1, s2, s3, s4, s5, s6, s7, s8, s9, s10, s11, s12, s13, s14, s15, s16, s17, s18⟩
    refine (load_exec rfl rfl s18).trans ?_; with_reducible rfl
   rotate_left
   ·simp only [Act.put, sa_, s0_, s1_, i64_w, i32_w]
    rfl
   refine take_ (i := 5) (N := some 8) (v := ?_) (a' := ?_) #[true, true, false, false, true, true, false, false, false] rfl rfl (take_ofW HT_.out HW_.out (by kernel_rfl)) (fun _ _ _ h => h) (Or.inl ⟨by rfl, ?_⟩) hHeld ?_ ?_
   rotate_left
   ·rintro w' ⟨s0, s1, s2, s3, s4, s5, s6, s7, s8, s9, s10, s11, s12, s13, s14, s15, s16, s17, s18⟩
    go_simp; with_reducible rfl
   rotate_left
   ·simp only [Act.put, sa_, s0_, s1_, i64_w, i32_w]
    rfl
   refine one_ (i := 2) (N := some 5) #[true, true, true, false, true, true, false, false, false] rfl rfl (one_of HT_.out (by kernel_rfl)) (by decide) (fun K hK => ?_)
   refine goes_ Tryz.func24 (by kernel_rfl) rfl #[.agg (ag_ z0 z1 z2 z3 z4 z5 z6 z7 z8 z9 za zb zc zd ze zf zg)] (by rfl) rfl rfl lq_ ?_
   with_reducible refine (lanternref05_Print.calls k z0 z1 z2 z3 z4 z5 z6 z7 z8 z9 za zb zc zd ze zf zg t505 _ ?side1 A2.out).mono ?_
   (case side1 => exact lg_)
   rintro e w8 ⟨rfl, hb⟩
   refine ⟨_, rfl, ?_⟩
   replace BK504 := Aside0.mk (bb_ BK504 hb)
   replace HB := Aside0.mk (below_step bg_ hb)
   (try clear hb)
   (try clear hb2)
   (try clear hk)
   (try clear hi)
   refine hK.out _ _ ⟨(blk_cell BK504.out 0).trans rfl, (blk_cell BK504.out 1).trans rfl, (blk_cell BK504.out 2).trans rfl, (blk_cell BK504.out 3).trans rfl, (blk_cell BK504.out 4).trans rfl, (blk_cell BK504.out 5).trans rfl, (blk_cell BK504.out 6).trans rfl, (blk_cell BK504.out 7).trans rfl, (blk_cell BK504.out 8).trans rfl, (blk_cell BK504.out 9).trans rfl, (blk_cell BK504.out 10).trans rfl, (blk_cell BK504.out 11).trans rfl, (blk_cell BK504.out 12).trans rfl, (blk_cell BK504.out 13).trans rfl, (blk_cell BK504.out 14).trans rfl, (blk_cell BK504.out 15).trans rfl, (blk_cell BK504.out 16).trans rfl, (blk_cell BK504.out 17).trans rfl, (run_load_box BK504.out 24 [] (al_ z0 z1 z2 z3 z4 z5 z6 z7 z8 z9 za zb zc zd ze zf zg) [.int .i64 zh] rfl 0 rfl Tryz.underlying24 rfl (by kernel_rfl))⟩ (fun hHeld => ?_)
   clear hK K
   refine norm_ (a' := ?_) ?_ ?_
   rotate_left
   ·show Act.put _ (some 5) _ = _
    simp only [Act.put, sa_, s0_, s1_, i64_w, i32_w]
    rfl
   refine pl_ 3 6 ?_ 6 3 HT_ ?_ ?_ ?_ ?_
   rotate_left
   ·intro w'
    go_simp
    with_reducible rfl
   rotate_left
   ·simp only [Act.put, sa_, s0_, s1_, i64_w, i32_w]
    rfl
   refine one_ (i := 6) (N := some 9) (bv_ 7 2) rfl rfl (one_of HT_.out (by kernel_rfl)) (by decide) (fun K hK => ?_)
   refine goes_ Tryz.func25 (by kernel_rfl) rfl #[.int .i64 zh] (by rfl) rfl rfl lq_ ?_
   with_reducible refine (lanternref06_Digits.calls k zh t506 _ ?side1 A4.out).mono ?_
   (case side1 => exact lg_)
   rintro e w' ⟨rfl, ⟨nd, rfl⟩⟩
   refine ⟨_, rfl, ?_⟩
   refine hK.out _ _ ⟨(blk_cell BK504.out 0).trans rfl, (blk_cell BK504.out 1).trans rfl, (blk_cell BK504.out 2).trans rfl, (blk_cell BK504.out 3).trans rfl, (blk_cell BK504.out 4).trans rfl, (blk_cell BK504.out 5).trans rfl, (blk_cell BK504.out 6).trans rfl, (blk_cell BK504.out 7).trans rfl, (blk_cell BK504.out 8).trans rfl, (blk_cell BK504.out 9).trans rfl, (blk_cell BK504.out 10).trans rfl, (blk_cell BK504.out 11).trans rfl, (blk_cell BK504.out 12).trans rfl, (blk_cell BK504.out 13).trans rfl, (blk_cell BK504.out 14).trans rfl, (blk_cell BK504.out 15).trans rfl, (blk_cell BK504.out 16).trans rfl, (blk_cell BK504.out 17).trans rfl, (run_load_box (blk_drewN BK504.out _) 24 [] (al_ z0 z1 z2 z3 z4 z5 z6 z7 z8 z9 za zb zc zd ze zf zg) [.int .i64 zh] rfl 0 rfl Tryz.underlying24 rfl (by kernel_rfl))⟩ (fun hHeld => ?_)
   clear hK K
   refine norm_ (a' := ?_) ?_ ?_
   rotate_left
   ·show Act.put _ (some 9) _ = _
    simp only [Act.put, sa_, s0_, s1_, i64_w, i32_w]
    rfl
   refine pl_ 7 10 ?_ 8 1 HT_ ?_ ?_ ?_ ?_
   rotate_left
   ·intro w'
    go_simp
    with_reducible rfl
   rotate_left
   ·simp only [Act.put, sa_, s0_, s1_, i64_w, i32_w]
    rfl
   refine pl_ 8 2 ?_ 9 0 HT_ ?_ ?_ ?_ ?_
   rotate_left
   ·intro w'
    go_simp
    with_reducible rfl
   rotate_left
   ·simp only [Act.put, sa_, s0_, s1_, i64_w, i32_w]
    rfl
   refine done_ (done_of HT_.out (by kernel_rfl)) ?_
   try go_wp2
   go_ret
   exact ⟨rq_, bg_⟩
  ·rw [if_neg c5] at H
   exact absurd H (by simp)
 ·rw [if_neg c3] at H
  exact absurd H (by simp)

-- NOT PRINTED: function 3 (lanternlaw06_CidrPrints)

end Go.Proofs.YtdopafhppaalfaaGreatDoor.P
