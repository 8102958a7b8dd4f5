-- Written by a program of this session (wip/gen/lprint.py over the kit's print.py) out of the translation. Lean checks it.
import Derived.Test.YtdopafhppaalfaaDoorK0
import Derived.Test.YtdopafhppaalfaaDoorG3
import Derived.Test.YtdopafhppaalfaaDoorM7
import Derived.Test.YtdopafhppaalfaaDoorL1
import Derived.Test.YtdopafhppaalfaaDoorK2
import Derived.Test.YtdopafhppaalfaaDoorK7
import Derived.Test.YtdopafhppaalfaaDoorZ
namespace Go.Proofs.YtdopafhppaalfaaDoor.K
open Go.Proofs.YtdopafhppaalfaaDoorZ
open Go.Proofs.YtdopafhppaalfaaDoor.E Go.Proofs.YtdopafhppaalfaaDoorV
open Go.Proofs.YtdopafhppaalfaaDoor.P
open Go.Proofs.YtdopafhppaalfaaDoor.G
open Go.Proofs.YtdopafhppaalfaaDoor.L
open Go.RowKit Go.Proofs.YtdopafhppaalfaaDoorW.PrintWords Go.Proofs.YtdopafhppaalfaaDoorW.PrintLast Go.Proofs.YtdopafhppaalfaaDoorW.PrintMore
attribute [local go_sem] max2_int min2_int max_two min_two max_three min_three max_four min_four   -- for this text's walks alone
set_option linter.unusedVariables false
set_option linter.unusedSimpArgs false
theorem quiet_load {P : Program} {C : World → Prop} {a : Act} {o : Oper} {K : Act → Prop} (ty : TypeId) (x : Operand) (ho : o.op = .load ty x) (v : Value) (h : ∀ w, C w → (Instr.loadAt ty (a.eval x)).run P w = .ok v w) (hk : K (a.put o.dst v)) : o.quiet P a C K :=
 ⟨v, fun w hw => by unfold Oper.quietAt; rw [load_exec ho rfl (h w hw)]; exact ⟨rfl, rfl⟩, hk⟩

attribute [local go_sem high] eqA34
def lanternref06_Same.l0 : Nat → List (S34) → List (S34) → Int → Option (Bool)
 | 0, _, _, _ => none
 | k + 1, x0, x1, x5 => if x5 < (x0.length : Int) then (if 0 ≤ x5 then (if x5 < (x1.length : Int) then (if ((!(((rd_T34 x0 x5).f0.f0) == ((rd_T34 x1 x5).f0.f0)) || ((!(((rd_T34 x0 x5).f0.f1.f0) == ((rd_T34 x1 x5).f0.f1.f0)) || (!(((rd_T34 x0 x5).f0.f1.f1) == ((rd_T34 x1 x5).f0.f1.f1)) || (!(((rd_T34 x0 x5).f0.f1.f2) == ((rd_T34 x1 x5).f0.f1.f2)) || (!(((rd_T34 x0 x5).f0.f1.f3) == ((rd_T34 x1 x5).f0.f1.f3)) || (!(((rd_T34 x0 x5).f0.f1.f4) == ((rd_T34 x1 x5).f0.f1.f4)) || (!(((rd_T34 x0 x5).f0.f1.f5) == ((rd_T34 x1 x5).f0.f1.f5)) || (!(((rd_T34 x0 x5).f0.f1.f6) == ((rd_T34 x1 x5).f0.f1.f6)) || (!(((rd_T34 x0 x5).f0.f1.f7) == ((rd_T34 x1 x5).f0.f1.f7)) || (!(((rd_T34 x0 x5).f0.f1.f8) == ((rd_T34 x1 x5).f0.f1.f8)) || (!(((rd_T34 x0 x5).f0.f1.f9) == ((rd_T34 x1 x5).f0.f1.f9)) || (!(((rd_T34 x0 x5).f0.f1.f10) == ((rd_T34 x1 x5).f0.f1.f10)) || (!(((rd_T34 x0 x5).f0.f1.f11) == ((rd_T34 x1 x5).f0.f1.f11)) || (!(((rd_T34 x0 x5).f0.f1.f12) == ((rd_T34 x1 x5).f0.f1.f12)) || (!(((rd_T34 x0 x5).f0.f1.f13) == ((rd_T34 x1 x5).f0.f1.f13)) || (!(((rd_T34 x0 x5).f0.f1.f14) == ((rd_T34 x1 x5).f0.f1.f14)) || (!(((rd_T34 x0 x5).f0.f1.f15) == ((rd_T34 x1 x5).f0.f1.f15)))))))))))))))))))) || (!(((rd_T34 x0 x5).f1) == ((rd_T34 x1 x5).f1)))) = true then (none) else (lanternref06_Same.l0 k x0 x1 (wrap64 (x5 + 1)))) else (none)) else (none)) else (some true)
def lanternref06_Same.f (k : Nat) (l0 : List (S34)) (l1 : List (S34)) : Option (Bool) := if (l0.length : Int) = (l1.length : Int) then (lanternref06_Same.l0 k l0 l1 0) else (none)
theorem lanternref06_Same.mono_l : ∀ k, (∀ y0 y1 y2, LeO (lanternref06_Same.l0 k y0 y1 y2) (lanternref06_Same.l0 (k + 1) y0 y1 y2))
 | 0 => fun _ _ _ r h => by simp [lanternref06_Same.l0] at h
 | k + 1 => by
  have ih0 := lanternref06_Same.mono_l k
  ·intro y0 y1 y2
   unfold lanternref06_Same.l0
   repeat' first
   | (with_reducible exact ih0 _ _ _)
   | (with_reducible exact LeO.refl _)
   | (with_reducible exact LeO.none _)
   | (with_reducible refine LeO.ite ?_ ?_)
   | (with_reducible refine LeO.bind ?_ (fun _ => ?_))
   | exact ih0 _ _ _
   | exact LeO.none _
   | refine LeO.ite ?_ ?_
   | refine LeO.bind ?_ (fun _ => ?_)
theorem lanternref06_Same.mono : ∀ a0 a1 k, LeO (lanternref06_Same.f k a0 a1) (lanternref06_Same.f (k + 1) a0 a1) := by
 intro a0 a1 k
 have ih0 := lanternref06_Same.mono_l k
 unfold lanternref06_Same.f
 repeat' first
   | (with_reducible exact ih0 _ _ _)
   | (with_reducible exact LeO.refl _)
   | (with_reducible exact LeO.none _)
   | (with_reducible refine LeO.ite ?_ ?_)
   | (with_reducible refine LeO.bind ?_ (fun _ => ?_))
   | exact ih0 _ _ _
   | exact LeO.none _
   | refine LeO.ite ?_ ?_
   | refine LeO.bind ?_ (fun _ => ?_)
set_option maxHeartbeats 8000000 in
set_option maxRecDepth 100000 in
theorem lanternref06_Same.calls (k : Nat) (A0 : Option Addr) (c0 : Nat) (l0 : List (S34)) (A1 : Option Addr) (c1 : Nat) (l1 : List (S34)) (r : Bool) (w : World) (hLW : LW w) (hr0 : Kd.C k34 w A0 l0.length l0) (hc0 : l0.length ≤ c0) (hr1 : Kd.C k34 w A1 l1.length l1) (hc1 : l1.length ≤ c1) (h : lanternref06_Same.f k l0 l1 = some r) :
  Calls Tryd.prog 9 #[.slice A0 l0.length c0, .slice A1 l1.length c1] w fun e w' => e = .returned (.bool r) ∧ Drawn0 w w' := by
 have hu34 := Tryd.underlying34
 have HLW := Aside0.mk hLW
 clear hLW
 have HR0 := Aside0.mk hr0
 have HC0 := Aside0.mk hc0
 clear hr0 hc0
 have HR1 := Aside0.mk hr1
 have HC1 := Aside0.mk hc1
 clear hr1 hc1
 have H := h
 unfold lanternref06_Same.f at H
 clear h
 by_cases c3 : (l0.length : Int) = (l1.length : Int)
 ·rw [if_pos c3] at H
  have c3b0 := beq_iff_eq.mpr c3
  have c3b1 := bne_eq_false_iff_eq.mpr c3
  have c3b2 : (l0.length == l1.length) = true := by first | simpa using c3 | (simp at c3 ⊢; omega)
  clear c3
  have H' := Aside0.mk H
  clear H
  go_enter Tryd.func9, Tryd.ntmps9
  go_wp2
  repeat (go_quiet (fail); try go_wp2)
  go_loopg [5] k (fun kq v5 w' => ∃ (x5_1 : Int), v5 = .int .i64 x5_1 ∧ Aside0 (lanternref06_Same.l0 kq l0 l1 x5_1 = some r) ∧ Aside0 (kq ≤ k) ∧ Drawn0 w w')
  case atStart => exact ⟨(0), sq_, H', ⟨Nat.le_refl _⟩, by repeat (first | exact Drawn0.refl _ | apply Drawn0.step)⟩
  case round =>
   clear H'
   try clear c1
   try clear p2
   try clear c3
   try clear c3b0
   try clear c3b1
   try clear c3b2
   obtain ⟨x5_1, rfl, HA, HK1, ⟨m1, rfl⟩⟩ := hrel
   cases gk with
   | zero => exact absurd HA.out (by simp [lanternref06_Same.l0])
   | succ k1 =>
    have H := HA.out
    clear HA
    simp only [lanternref06_Same.l0] at H
    by_cases c4 : x5_1 < (l0.length : Int)
    ·rw [if_pos c4] at H
     have c4b0 := decide_eq_true c4
     clear c4
     by_cases c5 : 0 ≤ x5_1
     ·rw [if_pos c5] at H
      have c5b0 := decide_eq_true c5
      clear c5
      by_cases c6 : x5_1 < (l1.length : Int)
      ·rw [if_pos c6] at H
       have c6b0 := decide_eq_true c6
       clear c6
       by_cases c7 : ((!(((rd_T34 l0 x5_1).f0.f0) == ((rd_T34 l1 x5_1).f0.f0)) || ((!(((rd_T34 l0 x5_1).f0.f1.f0) == ((rd_T34 l1 x5_1).f0.f1.f0)) || (!(((rd_T34 l0 x5_1).f0.f1.f1) == ((rd_T34 l1 x5_1).f0.f1.f1)) || (!(((rd_T34 l0 x5_1).f0.f1.f2) == ((rd_T34 l1 x5_1).f0.f1.f2)) || (!(((rd_T34 l0 x5_1).f0.f1.f3) == ((rd_T34 l1 x5_1).f0.f1.f3)) || (!(((rd_T34 l0 x5_1).f0.f1.f4) == ((rd_T34 l1 x5_1).f0.f1.f4)) || (!(((rd_T34 l0 x5_1).f0.f1.f5) == ((rd_T34 l1 x5_1).f0.f1.f5)) || (!(((rd_T34 l0 x5_1).f0.f1.f6) == ((rd_T34 l1 x5_1).f0.f1.f6)) || (!(((rd_T34 l0 x5_1).f0.f1.f7) == ((rd_T34 l1 x5_1).f0.f1.f7)) || (!(((rd_T34 l0 x5_1).f0.f1.f8) == ((rd_T34 l1 x5_1).f0.f1.f8)) || (!(((rd_T34 l0 x5_1).f0.f1.f9) == ((rd_T34 l1 x5_1).f0.f1.f9)) || (!(((rd_T34 l0 x5_1).f0.f1.f10) == ((rd_T34 l1 x5_1).f0.f1.f10)) || (!(((rd_T34 l0 x5_1).f0.f1.f11) == ((rd_T34 l1 x5_1).f0.f1.f11)) || (!(((rd_T34 l0 x5_1).f0.f1.f12) == ((rd_T34 l1 x5_1).f0.f1.f12)) || (!(((rd_T34 l0 x5_1).f0.f1.f13) == ((rd_T34 l1 x5_1).f0.f1.f13)) || (!(((rd_T34 l0 x5_1).f0.f1.f14) == ((rd_T34 l1 x5_1).f0.f1.f14)) || (!(((rd_T34 l0 x5_1).f0.f1.f15) == ((rd_T34 l1 x5_1).f0.f1.f15)))))))))))))))))))) || (!(((rd_T34 l0 x5_1).f1) == ((rd_T34 l1 x5_1).f1)))) = true
       ·rw [if_pos c7] at H
        exact absurd H (by simp)
       ·rw [if_neg c7] at H
        have c7b0 : ((!(((rd_T34 l0 x5_1).f0.f0) == ((rd_T34 l1 x5_1).f0.f0)) || ((!(((rd_T34 l0 x5_1).f0.f1.f0) == ((rd_T34 l1 x5_1).f0.f1.f0)) || (!(((rd_T34 l0 x5_1).f0.f1.f1) == ((rd_T34 l1 x5_1).f0.f1.f1)) || (!(((rd_T34 l0 x5_1).f0.f1.f2) == ((rd_T34 l1 x5_1).f0.f1.f2)) || (!(((rd_T34 l0 x5_1).f0.f1.f3) == ((rd_T34 l1 x5_1).f0.f1.f3)) || (!(((rd_T34 l0 x5_1).f0.f1.f4) == ((rd_T34 l1 x5_1).f0.f1.f4)) || (!(((rd_T34 l0 x5_1).f0.f1.f5) == ((rd_T34 l1 x5_1).f0.f1.f5)) || (!(((rd_T34 l0 x5_1).f0.f1.f6) == ((rd_T34 l1 x5_1).f0.f1.f6)) || (!(((rd_T34 l0 x5_1).f0.f1.f7) == ((rd_T34 l1 x5_1).f0.f1.f7)) || (!(((rd_T34 l0 x5_1).f0.f1.f8) == ((rd_T34 l1 x5_1).f0.f1.f8)) || (!(((rd_T34 l0 x5_1).f0.f1.f9) == ((rd_T34 l1 x5_1).f0.f1.f9)) || (!(((rd_T34 l0 x5_1).f0.f1.f10) == ((rd_T34 l1 x5_1).f0.f1.f10)) || (!(((rd_T34 l0 x5_1).f0.f1.f11) == ((rd_T34 l1 x5_1).f0.f1.f11)) || (!(((rd_T34 l0 x5_1).f0.f1.f12) == ((rd_T34 l1 x5_1).f0.f1.f12)) || (!(((rd_T34 l0 x5_1).f0.f1.f13) == ((rd_T34 l1 x5_1).f0.f1.f13)) || (!(((rd_T34 l0 x5_1).f0.f1.f14) == ((rd_T34 l1 x5_1).f0.f1.f14)) || (!(((rd_T34 l0 x5_1).f0.f1.f15) == ((rd_T34 l1 x5_1).f0.f1.f15)))))))))))))))))))) || (!(((rd_T34 l0 x5_1).f1) == ((rd_T34 l1 x5_1).f1)))) = false := by simpa using c7
        clear c7
        have H' := Aside0.mk H
        clear H
        have p209 : 0 ≤ (x5_1 : Int) := of_decide_eq_true as_
        have q209 : x5_1 < (l0.length : Int) := of_decide_eq_true as_
        obtain ⟨ad209, e209, hx209_0, hx209_1, hx209_2, hx209_3, hx209_4, hx209_5, hx209_6, hx209_7, hx209_8, hx209_9, hx209_10, hx209_11, hx209_12, hx209_13, hx209_14, hx209_15, hx209_16, hx209_17⟩ := at_T34 HR0.out x5_1 p209 q209
        cases e209
        replace p209 := eq_true p209
        replace q209 := eq_true q209
        have p210 : 0 ≤ (x5_1 : Int) := of_decide_eq_true as_
        have q210 : x5_1 < (l1.length : Int) := of_decide_eq_true as_
        obtain ⟨ad210, e210, hx210_0, hx210_1, hx210_2, hx210_3, hx210_4, hx210_5, hx210_6, hx210_7, hx210_8, hx210_9, hx210_10, hx210_11, hx210_12, hx210_13, hx210_14, hx210_15, hx210_16, hx210_17⟩ := at_T34 HR1.out x5_1 p210 q210
        cases e210
        replace p210 := eq_true p210
        replace q210 := eq_true q210
        go_wp2
        refine wp_region_quiet_lit (by kernel_rfl) (by kernel_rfl) ?_
        quiet_step (fail)
        quiet_step (fail)
        quiet_step (fail)
        refine BigFrame.wpQuiet_want (by rfl) (fun K hK => quiet_load 34 _ rfl _ (fun w' hw' => by obtain ⟨nw, rfl⟩ := hw'; exact row_T34 (by repeat (first | (with_reducible exact HR0.out) | (with_reducible refine Kd.C_drewN ?_ _) | (with_reducible refine Kd.C_drew ?_) | exact HR0.out)) x5_1 p209 q209) (hK _ ?_))
        quiet_step (fail)
        quiet_step (fail)
        quiet_step (fail)
        refine BigFrame.wpQuiet_want (by rfl) (fun K hK => quiet_load 34 _ rfl _ (fun w' hw' => by obtain ⟨nw, rfl⟩ := hw'; exact row_T34 (by repeat (first | (with_reducible exact HR1.out) | (with_reducible refine Kd.C_drewN ?_ _) | (with_reducible refine Kd.C_drew ?_) | exact HR1.out)) x5_1 p210 q210) (hK _ ?_))
        quiet_step (fail)
        refine wpQuiet_nil ?_
        rintro _ ⟨nq, rfl⟩
        try go_wp2
        repeat (go_quiet (fail); try go_wp2)
        go_roundg k1
        case measure => have := HK1.out; omega
        case rel => exact ⟨(wrap64 (x5_1 + 1)), sq_, H', ⟨by have := HK1.out; omega⟩, by repeat (first | exact Drawn0.refl _ | apply Drawn0.step)⟩
      ·rw [if_neg c6] at H
       exact absurd H (by simp)
     ·rw [if_neg c5] at H
      exact absurd H (by simp)
    ·rw [if_neg c4] at H
     have c4b0 := decide_eq_false c4
     clear c4
     obtain rfl := Option.some.inj H
     go_wp2
     repeat (go_quiet (fail); try go_wp2)
     go_ret
     exact ⟨by first | rfl | (simp; done) | (simp [*]; done) | (simp; exact isEmpty_bne _) | (simp; exact isEmpty_beq _), by repeat (first | exact Drawn0.refl _ | apply Drawn0.step)⟩
 ·rw [if_neg c3] at H
  exact absurd H (by simp)

def lanternlaw06_CidrAllows.f (k : Nat) (z0 : Bool) (z1 : Int) (z2 : Int) (z3 : Int) (z4 : Int) (z5 : Int) (z6 : Int) (z7 : Int) (z8 : Int) (z9 : Int) (za : Int) (zb : Int) (zc : Int) (zd : Int) (ze : Int) (zf : Int) (zg : Int) (l1 : List (S34)) : Option (Bool) := if (l1.length : Int) > 100 then ((lanternlaw06_awake.f k).bind fun t212 => (some t212)) else ((some (([] : List (S34)) : List (S34))).bind fun y213 => (if y213.length + l1.length < 4398046511104 then ((cidr_Allow.f k z0 z1 z2 z3 z4 z5 z6 z7 z8 z9 za zb zc zd ze zf zg (y213 ++ l1)).bind fun t219 => ((lanternref06_Allow.f k z0 z1 z2 z3 z4 z5 z6 z7 z8 z9 za zb zc zd ze zf zg l1).bind fun t220 => (if t219 = t220 then ((cidr_Forbidden.f k).bind fun t221 => ((lanternref06_Forbidden.f k).bind fun t224 => ((lanternref06_Same.f k t221 t224).bind fun t227 => (if t227 = true then ((lanternlaw06_awake.f k).bind fun t228 => (some t228)) else (none))))) else (none)))) else (none)))
theorem lanternlaw06_CidrAllows.mono : ∀ a0 a1 a2 a3 a4 a5 a6 a7 a8 a9 a10 a11 a12 a13 a14 a15 a16 a17 k, LeO (lanternlaw06_CidrAllows.f k a0 a1 a2 a3 a4 a5 a6 a7 a8 a9 a10 a11 a12 a13 a14 a15 a16 a17) (lanternlaw06_CidrAllows.f (k + 1) a0 a1 a2 a3 a4 a5 a6 a7 a8 a9 a10 a11 a12 a13 a14 a15 a16 a17) := by
 intro a0 a1 a2 a3 a4 a5 a6 a7 a8 a9 a10 a11 a12 a13 a14 a15 a16 a17 k
 unfold lanternlaw06_CidrAllows.f
 repeat' first
   | (with_reducible exact cidr_Allow.mono _ _ _ _ _ _ _ _ _ _ _ _ _ _ _ _ _ _ _)
   | (with_reducible exact cidr_Forbidden.mono _)
   | (with_reducible exact lanternlaw06_awake.mono _)
   | (with_reducible exact lanternref06_Allow.mono _ _ _ _ _ _ _ _ _ _ _ _ _ _ _ _ _ _ _)
   | (with_reducible exact lanternref06_Forbidden.mono _)
   | (with_reducible exact lanternref06_Same.mono _ _ _)
   | (with_reducible exact LeO.refl _)
   | (with_reducible exact LeO.none _)
   | (with_reducible refine LeO.ite ?_ ?_)
   | (with_reducible refine LeO.bind ?_ (fun _ => ?_))
   | exact cidr_Allow.mono _ _ _ _ _ _ _ _ _ _ _ _ _ _ _ _ _ _ _
   | exact cidr_Forbidden.mono _
   | exact lanternlaw06_awake.mono _
   | exact lanternref06_Allow.mono _ _ _ _ _ _ _ _ _ _ _ _ _ _ _ _ _ _ _
   | exact lanternref06_Forbidden.mono _
   | exact lanternref06_Same.mono _ _ _
   | exact LeO.none _
   | refine LeO.ite ?_ ?_
   | refine LeO.bind ?_ (fun _ => ?_)
def lanternlaw06_CidrAllows.T3 : Bool × List (List Nat × List Nat) := (true, [([], []), ([], []), ([], []), ([1, 2], [1, 2]), ([0, 3, 3], [0, 3]), ([], []), ([], []), ([5, 6, 4], [5, 6]), ([4, 7], [4, 7]), ([8, 7], [8]), ([9, 9], [9]), ([10, 9], [9]), ([10, 11, 11, 9], [9, 10, 11]), ([9, 12], [9, 12]), ([13, 12], [13]), ([14, 14], [14]), ([14, 15], [14, 15]), ([16, 15, 0, 1, 2, 3, 4, 5, 6, 7, 8, 9, 10, 11, 12, 13, 14, 15, 16], [16])])
def lanternlaw06_CidrAllows.B3 : List Nat := [0, 0, 0, 6, 15, 0, 0, 127, 255, 511, 1023, 2047, 4095, 8191, 16383, 32767, 65535, 131071]
theorem lanternlaw06_CidrAllows.tab3 : rtab .any (opsOf Tryd.f3 3) = lanternlaw06_CidrAllows.T3 := by kernel_rfl
theorem lanternlaw06_CidrAllows.bits3 : waitsOk lanternlaw06_CidrAllows.T3.2 lanternlaw06_CidrAllows.B3 = true := by kernel_rfl
set_option maxHeartbeats 8000000 in
set_option maxRecDepth 100000 in
theorem lanternlaw06_CidrAllows.calls (k : Nat) (z0 : Bool) (z1 : Int) (z2 : Int) (z3 : Int) (z4 : Int) (z5 : Int) (z6 : Int) (z7 : Int) (z8 : Int) (z9 : Int) (za : Int) (zb : Int) (zc : Int) (zd : Int) (ze : Int) (zf : Int) (zg : Int) (A1 : Option Addr) (c1 : Nat) (l1 : List (S34)) (r : Bool) (w : World) (hLW : LW w) (hr1 : Kd.C k34 w A1 l1.length l1) (hc1 : l1.length ≤ c1) (h : lanternlaw06_CidrAllows.f k z0 z1 z2 z3 z4 z5 z6 z7 z8 z9 za zb zc zd ze zf zg l1 = some r) :
  Calls Tryd.prog 3 #[.agg (ag_ z0 z1 z2 z3 z4 z5 z6 z7 z8 z9 za zb zc zd ze zf zg), .slice A1 l1.length c1] w fun e w' => e = .returned (.bool r) ∧ Below w.heap.size w w' := by
 have hu24 := Tryd.underlying24
 have HLW := Aside0.mk hLW
 clear hLW
 have HR1 := Aside0.mk hr1
 have HC1 := Aside0.mk hc1
 clear hr1 hc1
 have HB := Aside0.mk (Below.refl w.heap.size w)
 have H := h
 unfold lanternlaw06_CidrAllows.f at H
 clear h
 by_cases c3 : (l1.length : Int) > 100
 ·rw [if_pos c3] at H
  have c3b0 := decide_eq_true c3
  have c3b1 : decide (100 < l1.length) = true := decide_eq_true (by omega)
  clear c3
  replace H := Option.bind_eq_some_iff.mp H
  obtain ⟨t212, A40, H⟩ := H
  (try dsimp only at H)
  have A4 := Aside0.mk A40
  clear A40
  obtain rfl := Option.some.inj H
  go_enter Tryd.func3, Tryd.ntmps3
  go_wp2_with (first | ((with_reducible refine gate_dst (N := 2) rfl ?_); refine bx_ 2 (ag_ z0 z1 z2 z3 z4 z5 z6 z7 z8 z9 za zb zc zd ze zf zg) 24 ?_; intro gb211 hg w5 hbox hb; have BK211 := Aside0.mk (hbox); have GW211 := Aside0.mk (ge_ (w := w) hg); have GE211 := Aside0.mk (ge_ (w := w) hg); replace HB := Aside0.mk (below_step bq_ hb); clear hb hbox hg) | ((with_reducible refine gate_callee (f := 6) rfl ?_); refine goesL_ (some 8) rfl rfl Tryd.func6 (by kernel_rfl) rfl #[] rfl lq_ ?_; (with_reducible refine (lanternlaw06_awake.calls k  t212 _ ?side1 A4.out).mono ?_); (case side1 => exact lg_); rintro e w6 ⟨rfl, hb⟩; refine ⟨_, rfl, ?_⟩; replace BK211 := Aside0.mk (bb_ BK211 hb); replace HB := Aside0.mk (below_step bg_ hb); (try clear hb); (try clear hb2); (try clear hk); (try clear hi)))
  go_ret
  exact ⟨rq_, bg_⟩
 ·rw [if_neg c3] at H
  have c3b0 := decide_eq_false c3
  have c3b1 : decide (100 < l1.length) = false := decide_eq_false (by omega)
  clear c3
  obtain ⟨y213, hy213⟩ : ∃ y_ : List (S34), y_ = (([] : List (S34))) := ⟨_, rfl⟩
  replace H : (if y213.length + l1.length < 4398046511104 then ((cidr_Allow.f k z0 z1 z2 z3 z4 z5 z6 z7 z8 z9 za zb zc zd ze zf zg (y213 ++ l1)).bind fun t219 => ((lanternref06_Allow.f k z0 z1 z2 z3 z4 z5 z6 z7 z8 z9 za zb zc zd ze zf zg l1).bind fun t220 => (if t219 = t220 then ((cidr_Forbidden.f k).bind fun t221 => ((lanternref06_Forbidden.f k).bind fun t224 => ((lanternref06_Same.f k t221 t224).bind fun t227 => (if t227 = true then ((lanternlaw06_awake.f k).bind fun t228 => (some t228)) else (none))))) else (none)))) else (none)) = some r := by first | (rw [hy213]; with_reducible exact H) | (have H2_ := (Option.bind_some _ _).symm.trans H; rw [hy213]; with_reducible exact H2_) | (have H2_ := (Option.bind_some _ _).symm.trans H; with_reducible exact H2_) | with_reducible exact H | (rw [hy213]; exact H) | exact H
  have Ny213 := Aside0.mk hy213
  clear hy213
  by_cases c7 : y213.length + l1.length < 4398046511104
  ·rw [if_pos c7] at H
   have LMc7 := Aside0.mk c7
   clear c7
   obtain ⟨y216, hy216⟩ : ∃ y_ : List (S34), y_ = (y213 ++ l1) := ⟨_, rfl⟩
   replace H : ((cidr_Allow.f k z0 z1 z2 z3 z4 z5 z6 z7 z8 z9 za zb zc zd ze zf zg y216).bind fun t219 => ((lanternref06_Allow.f k z0 z1 z2 z3 z4 z5 z6 z7 z8 z9 za zb zc zd ze zf zg l1).bind fun t220 => (if t219 = t220 then ((cidr_Forbidden.f k).bind fun t221 => ((lanternref06_Forbidden.f k).bind fun t224 => ((lanternref06_Same.f k t221 t224).bind fun t227 => (if t227 = true then ((lanternlaw06_awake.f k).bind fun t228 => (some t228)) else (none))))) else (none)))) = some r := by first | (rw [hy216]; with_reducible exact H) | (have H2_ := (Option.bind_some _ _).symm.trans H; rw [hy216]; with_reducible exact H2_) | (have H2_ := (Option.bind_some _ _).symm.trans H; with_reducible exact H2_) | with_reducible exact H | (rw [hy216]; exact H) | exact H
   have Ny216 := Aside0.mk hy216
   clear hy216
   replace H := Option.bind_eq_some_iff.mp H
   obtain ⟨t219, A80, H⟩ := H
   (try dsimp only at H)
   have A8 := Aside0.mk A80
   clear A80
   replace H := Option.bind_eq_some_iff.mp H
   obtain ⟨t220, A90, H⟩ := H
   (try dsimp only at H)
   have A9 := Aside0.mk A90
   clear A90
   by_cases c10 : t219 = t220
   ·rw [if_pos c10] at H
    have c10b0 := beq_iff_eq.mpr c10
    have c10b1 := bne_eq_false_iff_eq.mpr c10
    clear c10
    replace H := Option.bind_eq_some_iff.mp H
    obtain ⟨t221, A110, H⟩ := H
    (try dsimp only at H)
    have A11 := Aside0.mk A110
    clear A110
    replace H := Option.bind_eq_some_iff.mp H
    obtain ⟨t224, A120, H⟩ := H
    (try dsimp only at H)
    have A12 := Aside0.mk A120
    clear A120
    replace H := Option.bind_eq_some_iff.mp H
    obtain ⟨t227, A130, H⟩ := H
    (try dsimp only at H)
    have A13 := Aside0.mk A130
    clear A130
    by_cases c14 : t227 = true
    ·subst c14
     replace H := ifT_ H
     replace H := Option.bind_eq_some_iff.mp H
     obtain ⟨t228, A150, H⟩ := H
     (try dsimp only at H)
     have A15 := Aside0.mk A150
     clear A150
     obtain rfl := Option.some.inj H
     go_enter Tryd.func3, Tryd.ntmps3
     try go_wp2_with (first | ((with_reducible refine gate_dst (N := 2) rfl ?_); refine bx_ 2 (ag_ z0 z1 z2 z3 z4 z5 z6 z7 z8 z9 za zb zc zd ze zf zg) 24 ?_; intro gb211 hg w16 hbox hb; have BK211 := Aside0.mk (hbox); have GW211 := Aside0.mk (ge_ (w := w) hg); have GE211 := Aside0.mk (ge_ (w := w) hg); replace HB := Aside0.mk (below_step bq_ hb); clear hb hbox hg))
     replace BK211 := Aside0.mk (blk_drew BK211.out)
     replace HB := Aside0.mk (below_drew1 HB.out)
     refine start_ (n := 18) (S := fun w' => (Instr.loadAt 24 (.pointer (some ⟨gb211, 0, none⟩))).run Tryd.prog w' = .ok (.agg (ag_ z0 z1 z2 z3 z4 z5 z6 z7 z8 z9 za zb zc zd ze zf zg)) w' ∧ (Instr.loadAt 24 (.pointer (some ⟨gb211, 0, none⟩))).run Tryd.prog w' = .ok (.agg (ag_ z0 z1 z2 z3 z4 z5 z6 z7 z8 z9 za zb zc zd ze zf zg)) w') (ds := []) (bv_ 0 18) (by kernel_rfl) rfl rfl ⟨(run_load_box BK211.out 24 [] (al_ z0 z1 z2 z3 z4 z5 z6 z7 z8 z9 za zb zc zd ze zf zg) [] rfl 0 rfl Tryd.underlying24 rfl (by kernel_rfl)), (run_load_box BK211.out 24 [] (al_ z0 z1 z2 z3 z4 z5 z6 z7 z8 z9 za zb zc zd ze zf zg) [] rfl 0 rfl Tryd.underlying24 rfl (by kernel_rfl))⟩ (fun hHeld => ?_); refine with_tabW lanternlaw06_CidrAllows.tab3 lanternlaw06_CidrAllows.bits3 (fun HT_ HW_ => ?_)
     generalize w16.drew = w17 at BK211 HB hHeld ⊢
     refine pure_ (i := 2) (N := some 11) (v := ?_) (a' := ?_) #[false, false, true, false, false, false, false, false, false, false, false, false, false, false, false, false, false, false] rfl rfl (any_of HT_.out (by kernel_rfl)) (fun _ _ _ h => h) (Or.inl ⟨by rfl, ?_⟩) ?_ ?_
     rotate_left
     ·intro w'
      go_simp
      with_reducible rfl
     rotate_left
     ·simp only [Act.put, sa_, s0_, s1_, i64_w, i32_w]
      rfl
     refine pure_ (i := 6) (N := some 15) (v := ?_) (a' := ?_) #[false, false, true, false, false, false, true, false, false, false, false, false, false, false, false, false, false, false] rfl rfl (any_of HT_.out (by kernel_rfl)) (fun _ _ _ h => h) (Or.inl ⟨by rfl, ?_⟩) ?_ ?_
     rotate_left
     ·intro w'
      go_simp
      with_reducible rfl
     rotate_left
     ·simp only [Act.put, sa_, s0_, s1_, i64_w, i32_w]
      rfl
     refine take_ (i := 0) (N := some 9) (v := ?_) (a' := ?_) #[true, false, true, false, false, false, true, false, false, false, false, false, false, false, false, false, false, false] rfl rfl (take_ofW HT_.out HW_.out (by kernel_rfl)) (fun _ _ _ h => h) (Or.inl ⟨by rfl, ?_⟩) hHeld ?_ ?_
     rotate_left
     ·rintro w' ⟨s0, s1⟩
      refine (load_exec rfl rfl s0).trans ?_; with_reducible rfl
     rotate_left
     ·simp only [Act.put, sa_, s0_, s1_, i64_w, i32_w]
      rfl
     refine take_ (i := 5) (N := some 14) (v := ?_) (a' := ?_) #[true, false, true, false, false, true, true, false, false, false, false, false, false, false, false, false, false, false] rfl rfl (take_ofW HT_.out HW_.out (by kernel_rfl)) (fun _ _ _ h => h) (Or.inl ⟨by rfl, ?_⟩) hHeld ?_ ?_
     rotate_left
     ·rintro w' ⟨s0, s1⟩
      refine (load_exec rfl rfl s1).trans ?_; with_reducible rfl
     rotate_left
     ·simp only [Act.put, sa_, s0_, s1_, i64_w, i32_w]
      rfl
     refine one_ (i := 1) (N := some 10) #[true, true, true, false, false, true, true, false, false, false, false, false, false, false, false, false, false, false] rfl rfl (one_of HT_.out (by kernel_rfl)) (by decide) (fun K hK => ?_)
     refine Kd.R_lit_step k34 _ 34 ?hg (N := 10) ?hd (xs := ([] : List (S34))) (inner := []) (ok := fun _ => True) (okp := fun _ => True) ?hr ?hp (fun _ hk => hk) trivial (Below.refl _ _) (Nat.le_refl _) (by simp) ?_; (case hd => rfl); (case hg => rfl); (case hr => first | (go_simp; done) | (go_simp; rfl)); (case hp => exact (Reps.none _ _))
     intro v214 w18 ho19 hb hg_ hnew_
     clear hg_ hnew_
     (first | rw [← Ny213.out] at ho19 | (simp only [Int.reduceToNat] at ho19; rw [← Ny213.out] at ho19))
     have HO215 := Aside0.mk (Kd.R_lower ho19 (below_size bg_))
     replace BK211 := Aside0.mk (bb_ BK211 hb)
     replace HB := Aside0.mk (below_step bg_ hb)
     clear hb ho19
     refine hK.out _ _ ⟨(run_load_box BK211.out 24 [] (al_ z0 z1 z2 z3 z4 z5 z6 z7 z8 z9 za zb zc zd ze zf zg) [] rfl 0 rfl Tryd.underlying24 rfl (by kernel_rfl)), (run_load_box BK211.out 24 [] (al_ z0 z1 z2 z3 z4 z5 z6 z7 z8 z9 za zb zc zd ze zf zg) [] rfl 0 rfl Tryd.underlying24 rfl (by kernel_rfl))⟩ (fun hHeld => ?_)
     clear hK K
     refine norm_ (a' := ?_) ?_ ?_
     rotate_left
     ·show Act.put _ (some 10) _ = _
      simp only [Act.put, sa_, s0_, s1_, i64_w, i32_w]
      rfl
     refine one_ (i := 3) (N := some 12) #[true, true, true, true, false, true, true, false, false, false, false, false, false, false, false, false, false, false] rfl rfl (one_of HT_.out (by kernel_rfl)) (by decide) (fun K hK => ?_)
     refine Kd.R_append_rows_step k34 (w0 := w) w.heap.size (by rfl) (.tmp 10) (.tmp 11) 25 34 (.agg #[(.bool false), (.int .u8 0), (.int .u8 0), (.int .u8 0), (.int .u8 0), (.int .u8 0), (.int .u8 0), (.int .u8 0), (.int .u8 0), (.int .u8 0), (.int .u8 0), (.int .u8 0), (.int .u8 0), (.int .u8 0), (.int .u8 0), (.int .u8 0), (.int .u8 0), (.int .i64 0)]) 32 rfl Tryd.underlying25 info34 rfl (by decide) (by omega) v214 y213 l1 _ _ _ (fun _ => True) (fun _ => False) rfl rfl ?aO ?aR (fun _ _ h => h) (fun _ h => h.elim) ?aF ?aB ?aS ?aL ?_
     (case aR => repeat (first | exact (Kd.C_below HR1.out HB.out) | (with_reducible refine Kd.C_alloc ?_ _) | (with_reducible refine Kd.C_drewN ?_ _) | (with_reducible refine Kd.C_drew ?_)))
     (case aB => exact bg_)
     (case aF => exact (fun _ _ => trivial))
     (case aO => exact (by (with_reducible repeat (first | apply Kd.R_alloc | apply Kd.R_drewN | apply Kd.R_drew)); exact HO215.out))
     (case aS => exact (below_size bg_))
     (case aL => have := LMc7.out; omega)
     intro v217 w20 ho hb hg hat
     rw [← Ny216.out] at ho
     replace BK211 := Aside0.mk (blk_grown (g := gb211) (o := .cells (ag_ z0 z1 z2 z3 z4 z5 z6 z7 z8 z9 za zb zc zd ze zf zg) 24 (0, 0)) bk_ hg (Kd.R_ne HO215.out BK211.out (by decide)))
     have HO218 := Aside0.mk (ho)
     replace HB := Aside0.mk (hb)
     clear HO215 ho hb hg hat
     obtain ⟨Ao21, co21, eo21⟩ := Kd.R_slice HO218.out
     (first | subst eo21 | (injection eo21 with f1_ f2_ f3_; have f4_ := f1_.symm; have f5_ := f3_.symm; clear f1_ f2_ f3_; subst f4_; subst f5_))
     refine hK.out _ _ ⟨(run_load_box BK211.out 24 [] (al_ z0 z1 z2 z3 z4 z5 z6 z7 z8 z9 za zb zc zd ze zf zg) [] rfl 0 rfl Tryd.underlying24 rfl (by kernel_rfl)), (run_load_box BK211.out 24 [] (al_ z0 z1 z2 z3 z4 z5 z6 z7 z8 z9 za zb zc zd ze zf zg) [] rfl 0 rfl Tryd.underlying24 rfl (by kernel_rfl))⟩ (fun hHeld => ?_)
     clear hK K
     refine norm_ (a' := ?_) ?_ ?_
     rotate_left
     ·show Act.put _ (some 12) _ = _
      simp only [Act.put, sa_, s0_, s1_, i64_w, i32_w]
      rfl
     refine one_ (i := 4) (N := some 13) (bv_ 7 11) rfl rfl (one_of HT_.out (by kernel_rfl)) (by decide) (fun K hK => ?_)
     refine goes_ Tryd.func7 (by kernel_rfl) rfl #[.agg (ag_ z0 z1 z2 z3 z4 z5 z6 z7 z8 z9 za zb zc zd ze zf zg), .slice Ao21 y216.length co21] (by rfl) rfl rfl lq_ ?_
     with_reducible refine (cidr_Allow.calls k z0 z1 z2 z3 z4 z5 z6 z7 z8 z9 za zb zc zd ze zf zg _ _ y216 t219 _ ?side3 ?side1 ?side2 A8.out).mono ?_
     (case side1 => repeat (first | exact (Kd.R_reads' HO218.out).2.2 | (with_reducible refine Kd.C_alloc ?_ _) | (with_reducible refine Kd.C_drewN ?_ _) | (with_reducible refine Kd.C_drew ?_)))
     (case side2 => exact (Kd.R_reads' HO218.out).2.1)
     (case side3 => exact lg_)
     rintro e w22 ⟨rfl, hb⟩
     refine ⟨_, rfl, ?_⟩
     replace HO218 := Aside0.mk (Kd.R_below (by (with_reducible repeat (first | apply Kd.R_alloc | apply Kd.R_drewN | apply Kd.R_drew)); exact HO218.out) hb)
     replace BK211 := Aside0.mk (bb_ BK211 hb)
     replace HB := Aside0.mk (below_step bg_ hb)
     (try clear hb)
     (try clear hb2)
     (try clear hk)
     (try clear hi)
     refine hK.out _ _ ⟨(run_load_box BK211.out 24 [] (al_ z0 z1 z2 z3 z4 z5 z6 z7 z8 z9 za zb zc zd ze zf zg) [] rfl 0 rfl Tryd.underlying24 rfl (by kernel_rfl)), (run_load_box BK211.out 24 [] (al_ z0 z1 z2 z3 z4 z5 z6 z7 z8 z9 za zb zc zd ze zf zg) [] rfl 0 rfl Tryd.underlying24 rfl (by kernel_rfl))⟩ (fun hHeld => ?_)
     clear hK K
     refine norm_ (a' := ?_) ?_ ?_
     rotate_left
     ·show Act.put _ (some 13) _ = _
      simp only [Act.put, sa_, s0_, s1_, i64_w, i32_w]
      rfl
     refine one_ (i := 7) (N := some 16) (bv_ 8 10) rfl rfl (one_of HT_.out (by kernel_rfl)) (by decide) (fun K hK => ?_)
     refine goes_ Tryd.func8 (by kernel_rfl) rfl #[.agg (ag_ z0 z1 z2 z3 z4 z5 z6 z7 z8 z9 za zb zc zd ze zf zg), .slice A1 l1.length c1] (by rfl) rfl rfl lq_ ?_
     with_reducible refine (lanternref06_Allow.calls k z0 z1 z2 z3 z4 z5 z6 z7 z8 z9 za zb zc zd ze zf zg _ _ l1 t220 _ ?side3 ?side1 ?side2 A9.out).mono ?_
     (case side1 => repeat (first | exact (Kd.C_below HR1.out HB.out) | (with_reducible refine Kd.C_alloc ?_ _) | (with_reducible refine Kd.C_drewN ?_ _) | (with_reducible refine Kd.C_drew ?_)))
     (case side2 => exact HC1.out)
     (case side3 => exact lg_)
     rintro e w23 ⟨rfl, hb⟩
     refine ⟨_, rfl, ?_⟩
     replace HO218 := Aside0.mk (Kd.R_below (by (with_reducible repeat (first | apply Kd.R_alloc | apply Kd.R_drewN | apply Kd.R_drew)); exact HO218.out) hb)
     replace BK211 := Aside0.mk (bb_ BK211 hb)
     replace HB := Aside0.mk (below_step bg_ hb)
     (try clear hb)
     (try clear hb2)
     (try clear hk)
     (try clear hi)
     refine hK.out _ _ ⟨(run_load_box BK211.out 24 [] (al_ z0 z1 z2 z3 z4 z5 z6 z7 z8 z9 za zb zc zd ze zf zg) [] rfl 0 rfl Tryd.underlying24 rfl (by kernel_rfl)), (run_load_box BK211.out 24 [] (al_ z0 z1 z2 z3 z4 z5 z6 z7 z8 z9 za zb zc zd ze zf zg) [] rfl 0 rfl Tryd.underlying24 rfl (by kernel_rfl))⟩ (fun hHeld => ?_)
     clear hK K
     refine norm_ (a' := ?_) ?_ ?_
     rotate_left
     ·show Act.put _ (some 16) _ = _
      simp only [Act.put, sa_, s0_, s1_, i64_w, i32_w]
      rfl
     refine pl_ 8 17 ?_ 9 9 HT_ ?_ ?_ ?_ ?_
     rotate_left
     ·intro w'
      go_simp
      with_reducible rfl
     rotate_left
     ·simp only [Act.put, sa_, s0_, s1_, i64_w, i32_w]
      rfl
     refine pl_ 9 18 ?_ 10 8 HT_ ?_ ?_ ?_ ?_
     rotate_left
     ·intro w'
      go_simp
      with_reducible rfl
     rotate_left
     ·simp only [Act.put, sa_, s0_, s1_, i64_w, i32_w]
      rfl
     refine one_ (i := 10) (N := some 19) (bv_ 11 7) rfl rfl (one_of HT_.out (by kernel_rfl)) (by decide) (fun K hK => ?_)
     refine goes_ Tryd.func10 (by kernel_rfl) rfl #[] (by rfl) rfl rfl lq_ ?_
     with_reducible refine (cidr_Forbidden.calls k  t221 _ ?side1 A11.out).mono ?_
     (case side1 => exact lg_)
     rintro e w24 ⟨v222, rfl, ho0, hb⟩
     refine ⟨_, rfl, ?_⟩
     have n0_ := Aside0.mk (Kd.R_elder' (by (with_reducible repeat (first | apply Kd.R_alloc | apply Kd.R_drewN | apply Kd.R_drew)); exact HO218.out) (Kd.R_base ho0) hb)
     have n1_ := Aside0.mk (Kd.R_lower (Kd.R_new' ho0 (Kd.R_lt (by (with_reducible repeat (first | apply Kd.R_alloc | apply Kd.R_drewN | apply Kd.R_drew)); exact HO218.out))) (below_size bg_))
     have n2_ := Aside0.mk (bb_ BK211 hb)
     have n3_ := Aside0.mk (below_step bg_ hb)
     clear HO218 BK211 HB
     have HO218 := n0_
     have HO223 := n1_
     have BK211 := n2_
     have HB := n3_
     clear n0_ n1_ n2_ n3_
     (try clear hb)
     (try clear hb2)
     (try clear hk)
     (try clear hi)
     (try clear ho0)
     refine hK.out _ _ ⟨(run_load_box BK211.out 24 [] (al_ z0 z1 z2 z3 z4 z5 z6 z7 z8 z9 za zb zc zd ze zf zg) [] rfl 0 rfl Tryd.underlying24 rfl (by kernel_rfl)), (run_load_box BK211.out 24 [] (al_ z0 z1 z2 z3 z4 z5 z6 z7 z8 z9 za zb zc zd ze zf zg) [] rfl 0 rfl Tryd.underlying24 rfl (by kernel_rfl))⟩ (fun hHeld => ?_)
     clear hK K
     refine norm_ (a' := ?_) ?_ ?_
     rotate_left
     ·show Act.put _ (some 19) _ = _
      simp only [Act.put, sa_, s0_, s1_, i64_w, i32_w]
      rfl
     refine one_ (i := 11) (N := some 20) (bv_ 12 6) rfl rfl (one_of HT_.out (by kernel_rfl)) (by decide) (fun K hK => ?_)
     refine goes_ Tryd.func11 (by kernel_rfl) rfl #[] (by rfl) rfl rfl lq_ ?_
     with_reducible refine (lanternref06_Forbidden.calls k  t224 _ ?side1 A12.out).mono ?_
     (case side1 => exact lg_)
     rintro e w25 ⟨v225, rfl, ho0, hb⟩
     refine ⟨_, rfl, ?_⟩
     have n0_ := Aside0.mk (Kd.R_elder' (by (with_reducible repeat (first | apply Kd.R_alloc | apply Kd.R_drewN | apply Kd.R_drew)); exact HO218.out) (Kd.R_base ho0) hb)
     have n1_ := Aside0.mk (Kd.R_elder' (by (with_reducible repeat (first | apply Kd.R_alloc | apply Kd.R_drewN | apply Kd.R_drew)); exact HO223.out) (Kd.R_base ho0) hb)
     have n2_ := Aside0.mk (Kd.R_lower (Kd.R_new' (Kd.R_new' ho0 (Kd.R_lt (by (with_reducible repeat (first | apply Kd.R_alloc | apply Kd.R_drewN | apply Kd.R_drew)); exact HO218.out))) (Kd.R_lt (by (with_reducible repeat (first | apply Kd.R_alloc | apply Kd.R_drewN | apply Kd.R_drew)); exact HO223.out))) (below_size bg_))
     have n3_ := Aside0.mk (bb_ BK211 hb)
     have n4_ := Aside0.mk (below_step bg_ hb)
     clear HO218 HO223 BK211 HB
     have HO218 := n0_
     have HO223 := n1_
     have HO226 := n2_
     have BK211 := n3_
     have HB := n4_
     clear n0_ n1_ n2_ n3_ n4_
     (try clear hb)
     (try clear hb2)
     (try clear hk)
     (try clear hi)
     (try clear ho0)
     obtain ⟨Ao26, co26, eo26⟩ := Kd.R_slice HO223.out
     (first | subst eo26 | (injection eo26 with f1_ f2_ f3_; have f4_ := f1_.symm; have f5_ := f3_.symm; clear f1_ f2_ f3_; subst f4_; subst f5_))
     obtain ⟨Ao27, co27, eo27⟩ := Kd.R_slice HO226.out
     (first | subst eo27 | (injection eo27 with f1_ f2_ f3_; have f4_ := f1_.symm; have f5_ := f3_.symm; clear f1_ f2_ f3_; subst f4_; subst f5_))
     refine hK.out _ _ ⟨(run_load_box BK211.out 24 [] (al_ z0 z1 z2 z3 z4 z5 z6 z7 z8 z9 za zb zc zd ze zf zg) [] rfl 0 rfl Tryd.underlying24 rfl (by kernel_rfl)), (run_load_box BK211.out 24 [] (al_ z0 z1 z2 z3 z4 z5 z6 z7 z8 z9 za zb zc zd ze zf zg) [] rfl 0 rfl Tryd.underlying24 rfl (by kernel_rfl))⟩ (fun hHeld => ?_)
     clear hK K
     refine norm_ (a' := ?_) ?_ ?_
     rotate_left
     ·show Act.put _ (some 20) _ = _
      simp only [Act.put, sa_, s0_, s1_, i64_w, i32_w]
      rfl
     refine one_ (i := 12) (N := some 21) (bv_ 13 5) rfl rfl (one_of HT_.out (by kernel_rfl)) (by decide) (fun K hK => ?_)
     refine goes_ Tryd.func9 (by kernel_rfl) rfl #[.slice Ao26 t221.length co26, .slice Ao27 t224.length co27] (by rfl) rfl rfl lq_ ?_
     with_reducible refine (lanternref06_Same.calls k _ _ t221 _ _ t224 true _ ?side5 ?side1 ?side2 ?side3 ?side4 A13.out).mono ?_
     (case side1 => repeat (first | exact (Kd.R_reads' HO223.out).2.2 | (with_reducible refine Kd.C_alloc ?_ _) | (with_reducible refine Kd.C_drewN ?_ _) | (with_reducible refine Kd.C_drew ?_)))
     (case side2 => exact (Kd.R_reads' HO223.out).2.1)
     (case side3 => repeat (first | exact (Kd.R_reads' HO226.out).2.2 | (with_reducible refine Kd.C_alloc ?_ _) | (with_reducible refine Kd.C_drewN ?_ _) | (with_reducible refine Kd.C_drew ?_)))
     (case side4 => exact (Kd.R_reads' HO226.out).2.1)
     (case side5 => exact lg_)
     rintro e w' ⟨rfl, ⟨nd, rfl⟩⟩
     refine ⟨_, rfl, ?_⟩
     refine hK.out _ _ ⟨(run_load_box (blk_drewN BK211.out _) 24 [] (al_ z0 z1 z2 z3 z4 z5 z6 z7 z8 z9 za zb zc zd ze zf zg) [] rfl 0 rfl Tryd.underlying24 rfl (by kernel_rfl)), (run_load_box (blk_drewN BK211.out _) 24 [] (al_ z0 z1 z2 z3 z4 z5 z6 z7 z8 z9 za zb zc zd ze zf zg) [] rfl 0 rfl Tryd.underlying24 rfl (by kernel_rfl))⟩ (fun hHeld => ?_)
     clear hK K
     refine norm_ (a' := ?_) ?_ ?_
     rotate_left
     ·show Act.put _ (some 21) _ = _
      simp only [Act.put, sa_, s0_, s1_, i64_w, i32_w]
      rfl
     refine pl_ 13 22 ?_ 14 4 HT_ ?_ ?_ ?_ ?_
     rotate_left
     ·intro w'
      go_simp
      with_reducible rfl
     rotate_left
     ·simp only [Act.put, sa_, s0_, s1_, i64_w, i32_w]
      rfl
     refine pl_ 14 23 ?_ 15 3 HT_ ?_ ?_ ?_ ?_
     rotate_left
     ·intro w'
      go_simp
      with_reducible rfl
     rotate_left
     ·simp only [Act.put, sa_, s0_, s1_, i64_w, i32_w]
      rfl
     refine one_ (i := 15) (N := some 24) (bv_ 16 2) rfl rfl (one_of HT_.out (by kernel_rfl)) (by decide) (fun K hK => ?_)
     refine goes_ Tryd.func6 (by kernel_rfl) rfl #[] (by rfl) rfl rfl lq_ ?_
     with_reducible refine (lanternlaw06_awake.calls k  t228 _ ?side1 A15.out).mono ?_
     (case side1 => exact lg_)
     rintro e w28 ⟨rfl, hb⟩
     refine ⟨_, rfl, ?_⟩
     replace HO218 := Aside0.mk (Kd.R_below (by (with_reducible repeat (first | apply Kd.R_alloc | apply Kd.R_drewN | apply Kd.R_drew)); exact HO218.out) hb)
     replace HO223 := Aside0.mk (Kd.R_below (by (with_reducible repeat (first | apply Kd.R_alloc | apply Kd.R_drewN | apply Kd.R_drew)); exact HO223.out) hb)
     replace HO226 := Aside0.mk (Kd.R_below (by (with_reducible repeat (first | apply Kd.R_alloc | apply Kd.R_drewN | apply Kd.R_drew)); exact HO226.out) hb)
     replace BK211 := Aside0.mk (bb_ BK211 hb)
     replace HB := Aside0.mk (below_step bg_ hb)
     (try clear hb)
     (try clear hb2)
     (try clear hk)
     (try clear hi)
     refine hK.out _ _ ⟨(run_load_box BK211.out 24 [] (al_ z0 z1 z2 z3 z4 z5 z6 z7 z8 z9 za zb zc zd ze zf zg) [] rfl 0 rfl Tryd.underlying24 rfl (by kernel_rfl)), (run_load_box BK211.out 24 [] (al_ z0 z1 z2 z3 z4 z5 z6 z7 z8 z9 za zb zc zd ze zf zg) [] rfl 0 rfl Tryd.underlying24 rfl (by kernel_rfl))⟩ (fun hHeld => ?_)
     clear hK K
     refine norm_ (a' := ?_) ?_ ?_
     rotate_left
     ·show Act.put _ (some 24) _ = _
      simp only [Act.put, sa_, s0_, s1_, i64_w, i32_w]
      rfl
     refine pl_ 16 25 ?_ 17 1 HT_ ?_ ?_ ?_ ?_
     rotate_left
     ·intro w'
      go_simp
      with_reducible rfl
     rotate_left
     ·simp only [Act.put, sa_, s0_, s1_, i64_w, i32_w]
      rfl
     refine pl_ 17 4 ?_ 18 0 HT_ ?_ ?_ ?_ ?_
     rotate_left
     ·intro w'
      go_simp
      with_reducible rfl
     rotate_left
     ·simp only [Act.put, sa_, s0_, s1_, i64_w, i32_w]
      rfl
     refine done_ (done_of HT_.out (by kernel_rfl)) ?_
     try go_wp2
     go_ret
     exact ⟨rq_, bg_⟩
    ·replace c14 := Bool.eq_false_iff.mpr c14
     subst c14
     replace H := ifF_ H
     exact absurd H (by simp)
   ·rw [if_neg c10] at H
    exact absurd H (by simp)
  ·rw [if_neg c7] at H
   exact absurd H (by simp)

end Go.Proofs.YtdopafhppaalfaaDoor.K
