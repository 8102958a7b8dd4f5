-- Written by a program of this session (wip/gen/lprint.py over the kit's print.py) out of the translation. Lean checks it.
import Derived.Test.YtdopafhppaalfaaGreatDoorG0
import Derived.Test.YtdopafhppaalfaaGreatDoorG2
import Derived.Test.YtdopafhppaalfaaGreatDoorZ
namespace Go.Proofs.YtdopafhppaalfaaGreatDoor.G
open Go.Proofs.YtdopafhppaalfaaGreatDoorZ
open Go.Proofs.YtdopafhppaalfaaGreatDoor.E Go.Proofs.YtdopafhppaalfaaGreatDoorV
open Go.Proofs.YtdopafhppaalfaaGreatDoor.P
open Go.RowKit Go.Proofs.YtdopafhppaalfaaGreatDoorW.PrintWords Go.Proofs.YtdopafhppaalfaaGreatDoorW.PrintLast Go.Proofs.YtdopafhppaalfaaGreatDoorW.PrintMore
attribute [local go_sem] max2_int min2_int max_two min_two max_three min_three max_four min_four   -- for this text's walks alone
set_option linter.unusedVariables false
set_option linter.unusedSimpArgs false

def cidr_Print.f (k : Nat) (z0 : Bool) (z1 : Int) (z2 : Int) (z3 : Int) (z4 : Int) (z5 : Int) (z6 : Int) (z7 : Int) (z8 : Int) (z9 : Int) (za : Int) (zb : Int) (zc : Int) (zd : Int) (ze : Int) (zf : Int) (zg : Int) (zh : Int) : Option (ByteArray × Int) := (cidr_Check.f z0 z1 z2 z3 z4 z5 z6 z7 z8 z9 za zb zc zd ze zf zg zh).bind fun t123 => (if t123 = 0 then ((ip_Print.f k z0 z1 z2 z3 z4 z5 z6 z7 z8 z9 za zb zc zd ze zf zg).bind fun bt124 => (if bt124.1.size + 1 ≤ 9223372036854775807 then ((strconv_Itoa.f zh).bind fun t126 => (if (bt124.1 ++ (⟨#[47]⟩ : ByteArray)).size + t126.size ≤ 9223372036854775807 then (some ((bt124.1 ++ (⟨#[47]⟩ : ByteArray)) ++ t126, bt124.2)) else (none))) else (none))) else (some ((⟨#[]⟩ : ByteArray), t123)))
theorem cidr_Print.mono : ∀ a0 a1 a2 a3 a4 a5 a6 a7 a8 a9 a10 a11 a12 a13 a14 a15 a16 a17 k, LeO (cidr_Print.f k a0 a1 a2 a3 a4 a5 a6 a7 a8 a9 a10 a11 a12 a13 a14 a15 a16 a17) (cidr_Print.f (k + 1) a0 a1 a2 a3 a4 a5 a6 a7 a8 a9 a10 a11 a12 a13 a14 a15 a16 a17) := by
 intro a0 a1 a2 a3 a4 a5 a6 a7 a8 a9 a10 a11 a12 a13 a14 a15 a16 a17 k
 unfold cidr_Print.f
 repeat' first
   | (with_reducible exact ip_Print.mono _ _ _ _ _ _ _ _ _ _ _ _ _ _ _ _ _ _)
   | (with_reducible exact LeO.refl _)
   | (with_reducible exact LeO.none _)
   | (with_reducible refine LeO.ite ?_ ?_)
   | (with_reducible refine LeO.bind ?_ (fun _ => ?_))
   | exact ip_Print.mono _ _ _ _ _ _ _ _ _ _ _ _ _ _ _ _ _ _
   | exact LeO.none _
   | refine LeO.ite ?_ ?_
   | refine LeO.bind ?_ (fun _ => ?_)
set_option maxHeartbeats 8000000 in
set_option maxRecDepth 100000 in
theorem cidr_Print.calls (k : Nat) (z0 : Bool) (z1 : Int) (z2 : Int) (z3 : Int) (z4 : Int) (z5 : Int) (z6 : Int) (z7 : Int) (z8 : Int) (z9 : Int) (za : Int) (zb : Int) (zc : Int) (zd : Int) (ze : Int) (zf : Int) (zg : Int) (zh : Int) (r1 : ByteArray) (r2 : Int) (w : World) (hLW : LW w) (h : cidr_Print.f k z0 z1 z2 z3 z4 z5 z6 z7 z8 z9 za zb zc zd ze zf zg zh = some (r1, r2)) :
  Calls Tryz.prog 4 #[.agg (nr_ z0 z1 z2 z3 z4 z5 z6 z7 z8 z9 za zb zc zd ze zf zg zh)] w fun e w' => e = .returned (.tuple #[.string r1, .int .i64 r2]) ∧ Below w.heap.size w w' := by
 have hu26 := Tryz.underlying26
 have hu24 := Tryz.underlying24
 have HLW := Aside0.mk hLW
 clear hLW
 have HB := Aside0.mk (Below.refl w.heap.size w)
 have H := h
 unfold cidr_Print.f at H
 clear h
 replace H := Option.bind_eq_some_iff.mp H
 obtain ⟨t123, A20, H⟩ := H
 (try dsimp only at H)
 have A2 := Aside0.mk A20
 clear A20
 by_cases c3 : t123 = 0
 ·rw [if_pos c3] at H
  have c3b0 := beq_iff_eq.mpr c3
  have c3b1 := bne_eq_false_iff_eq.mpr c3
  clear c3
  replace H := Option.bind_eq_some_iff.mp H
  obtain ⟨⟨t124, t125⟩, A40, H⟩ := H
  (try dsimp only at H)
  have A4 := Aside0.mk A40
  clear A40
  by_cases c5 : t124.size + 1 ≤ 9223372036854775807
  ·rw [if_pos c5] at H
   have c5b0 := eq_true c5
   have c5b1 := decide_eq_true c5
   try have c5b2 : (9223372036854775807 < t124.size + 1) = False := eq_false (Nat.not_lt.2 c5)
   replace H := Option.bind_eq_some_iff.mp H
   obtain ⟨t126, A60, H⟩ := H
   (try dsimp only at H)
   have A6 := Aside0.mk A60
   clear A60
   by_cases c7 : (t124 ++ (⟨#[47]⟩ : ByteArray)).size + t126.size ≤ 9223372036854775807
   ·rw [if_pos c7] at H
    have c7b0 := eq_true c7
    have c7b1 := decide_eq_true c7
    try have c7b2 : (9223372036854775807 < (t124 ++ (⟨#[47]⟩ : ByteArray)).size + t126.size) = False := eq_false (Nat.not_lt.2 c7)
    try have c7b8 : (9223372036854775807 < t124.size + 1 + t126.size) = False := eq_false (by have hq := of_eq_true c7b0; simp only [ByteArray.size_append, ByteArray.size_extract] at hq; have hz0 : (⟨#[47]⟩ : ByteArray).size = 1 := rfl; omega)
    simp only [Option.some.injEq, Prod.mk.injEq] at H
    obtain ⟨rfl, rfl⟩ := H
    go_enter Tryz.func4, Tryz.ntmps4
    go_wp2_with (first | ((with_reducible refine gate_dst (N := 1) rfl ?_); refine bx_ 1 (nr_ z0 z1 z2 z3 z4 z5 z6 z7 z8 z9 za zb zc zd ze zf zg zh) 26 ?_; intro gb122 hg w8 hbox hb; have BK122 := Aside0.mk (hbox); have GW122 := Aside0.mk (ge_ (w := w) hg); have GE122 := Aside0.mk (ge_ (w := w) hg); replace HB := Aside0.mk (below_step bq_ hb); clear hb hbox hg) | ((with_reducible refine gate_dst (N := 7) rfl ?_); (try (refine gate_guard (by rfl) ?_; dsimp only)); refine load_box ?hg 26 (.tmp 1) rfl BK122.out [] (nt_ z0 z1 z2 z3 z4 z5 z6 z7 z8 z9 za zb zc zd ze zf zg zh) [] rfl 0 rfl rfl Tryz.underlying26 rfl (by kernel_rfl) ?_; (case hg => rfl)) | ((with_reducible refine gate_callee (f := 6) rfl ?_); refine goesL_ (some 8) rfl rfl Tryz.func6 (by kernel_rfl) rfl #[.agg (nr_ z0 z1 z2 z3 z4 z5 z6 z7 z8 z9 za zb zc zd ze zf zg zh)] rfl lq_ ?_; (with_reducible refine (cidr_Check.calls z0 z1 z2 z3 z4 z5 z6 z7 z8 z9 za zb zc zd ze zf zg zh t123 _ ?side1 A2.out).mono ?_); (case side1 => exact lg_); rintro e w9 ⟨rfl, hb⟩; refine ⟨_, rfl, ?_⟩; replace BK122 := Aside0.mk (bb_ BK122 hb); replace HB := Aside0.mk (below_step bg_ hb); (try clear hb); (try clear hb2); (try clear hk); (try clear hi)) | ((with_reducible refine gate_dst (N := 14) rfl ?_); (try (refine gate_guard (by rfl) ?_; dsimp only)); refine load_box ?hg 24 (.tmp 13) rfl BK122.out [] (al_ z0 z1 z2 z3 z4 z5 z6 z7 z8 z9 za zb zc zd ze zf zg) [.int .i64 zh] rfl 0 rfl rfl Tryz.underlying24 rfl (by kernel_rfl) ?_; (case hg => rfl)) | ((with_reducible refine gate_callee (f := 10) rfl ?_); refine goesL_ (some 15) rfl rfl Tryz.func10 (by kernel_rfl) rfl #[.agg (ag_ z0 z1 z2 z3 z4 z5 z6 z7 z8 z9 za zb zc zd ze zf zg)] rfl lq_ ?_; (with_reducible refine (ip_Print.calls k z0 z1 z2 z3 z4 z5 z6 z7 z8 z9 za zb zc zd ze zf zg t124 t125 _ ?side1 A4.out).mono ?_); (case side1 => exact lg_); rintro e w10 ⟨rfl, hb⟩; refine ⟨_, rfl, ?_⟩; replace BK122 := Aside0.mk (bb_ BK122 hb); replace HB := Aside0.mk (below_step bg_ hb); (try clear hb); (try clear hb2); (try clear hk); (try clear hi); obtain ⟨hcz11_0, hcz11_1, hcz11_2, hcz11_3, hcz11_4, hcz11_5, hcz11_6, hcz11_7, hcz11_8, hcz11_9, hcz11_10, hcz11_11, hcz11_12, hcz11_13, hcz11_14, hcz11_15, hcz11_16, hcz11_17⟩ := c18_ BK122; have hfz11_0 := bf_ BK122 0; have hfz11_1 := bf_ BK122 1; have hfz11_2 := bf_ BK122 2; have hfz11_3 := bf_ BK122 3; have hfz11_4 := bf_ BK122 4; have hfz11_5 := bf_ BK122 5; have hfz11_6 := bf_ BK122 6; have hfz11_7 := bf_ BK122 7; have hfz11_8 := bf_ BK122 8; have hfz11_9 := bf_ BK122 9; have hfz11_10 := bf_ BK122 10; have hfz11_11 := bf_ BK122 11; have hfz11_12 := bf_ BK122 12; have hfz11_13 := bf_ BK122 13; have hfz11_14 := bf_ BK122 14; have hfz11_15 := bf_ BK122 15; have hfz11_16 := bf_ BK122 16; have hfz11_17 := bf_ BK122 17) | ((with_reducible refine gate_callee (f := 11) rfl ?_); refine goesL_ (some 22) rfl rfl Tryz.func11 (by kernel_rfl) rfl #[.int .i64 zh] rfl lq_ ?_; (with_reducible refine (strconv_Itoa.calls zh t126 _ ?side1 A6.out).mono ?_); (case side1 => exact lg_); rintro e w12 ⟨rfl, hb⟩; refine ⟨_, rfl, ?_⟩; replace BK122 := Aside0.mk (bb_ BK122 hb); replace HB := Aside0.mk (below_step bg_ hb); (try clear hb); (try clear hb2); (try clear hk); (try clear hi)))
    go_ret2
    exact ⟨rq_, bg_⟩
   ·rw [if_neg c7] at H
    exact absurd H (by simp)
  ·rw [if_neg c5] at H
   exact absurd H (by simp)
 ·rw [if_neg c3] at H
  have c3b0 := beq_eq_false_iff_ne.mpr c3
  have c3b1 := bne_iff_ne.mpr c3
  simp only [Option.some.injEq, Prod.mk.injEq] at H
  obtain ⟨rfl, rfl⟩ := H
  go_enter Tryz.func4, Tryz.ntmps4
  go_wp2_with (first | ((with_reducible refine gate_dst (N := 1) rfl ?_); refine bx_ 1 (nr_ z0 z1 z2 z3 z4 z5 z6 z7 z8 z9 za zb zc zd ze zf zg zh) 26 ?_; intro gb122 hg w13 hbox hb; have BK122 := Aside0.mk (hbox); have GW122 := Aside0.mk (ge_ (w := w) hg); have GE122 := Aside0.mk (ge_ (w := w) hg); replace HB := Aside0.mk (below_step bq_ hb); clear hb hbox hg) | ((with_reducible refine gate_dst (N := 7) rfl ?_); (try (refine gate_guard (by rfl) ?_; dsimp only)); refine load_box ?hg 26 (.tmp 1) rfl BK122.out [] (nt_ z0 z1 z2 z3 z4 z5 z6 z7 z8 z9 za zb zc zd ze zf zg zh) [] rfl 0 rfl rfl Tryz.underlying26 rfl (by kernel_rfl) ?_; (case hg => rfl)) | ((with_reducible refine gate_callee (f := 6) rfl ?_); refine goesL_ (some 8) rfl rfl Tryz.func6 (by kernel_rfl) rfl #[.agg (nr_ z0 z1 z2 z3 z4 z5 z6 z7 z8 z9 za zb zc zd ze zf zg zh)] rfl lq_ ?_; (with_reducible refine (cidr_Check.calls z0 z1 z2 z3 z4 z5 z6 z7 z8 z9 za zb zc zd ze zf zg zh t123 _ ?side1 A2.out).mono ?_); (case side1 => exact lg_); rintro e w14 ⟨rfl, hb⟩; refine ⟨_, rfl, ?_⟩; replace BK122 := Aside0.mk (bb_ BK122 hb); replace HB := Aside0.mk (below_step bg_ hb); (try clear hb); (try clear hb2); (try clear hk); (try clear hi)))
  go_ret2
  exact ⟨rq_, bg_⟩

def cidr_Parse.f (k : Nat) (a0 : ByteArray) : Option (Bool × Int × Int × Int × Int × Int × Int × Int × Int × Int × Int × Int × Int × Int × Int × Int × Int × Int × Int) := (strings_Cut.f a0 (⟨#[47]⟩ : ByteArray)).bind fun bt128 => ((ip_Parse.f k bt128.1).bind fun bt131 => ((strconv_Atoi.f bt128.2.1).bind fun bt150 => (if bt128.2.2 = true then (if bt131.2.2.2.2.2.2.2.2.2.2.2.2.2.2.2.2.2 = 0 then (if bt150.2.isNone = true then ((strconv_Itoa.f bt150.1).bind fun t154 => (if t154.toList = bt128.2.1.toList then ((cidr_Check.f bt131.1 bt131.2.1 bt131.2.2.1 bt131.2.2.2.1 bt131.2.2.2.2.1 bt131.2.2.2.2.2.1 bt131.2.2.2.2.2.2.1 bt131.2.2.2.2.2.2.2.1 bt131.2.2.2.2.2.2.2.2.1 bt131.2.2.2.2.2.2.2.2.2.1 bt131.2.2.2.2.2.2.2.2.2.2.1 bt131.2.2.2.2.2.2.2.2.2.2.2.1 bt131.2.2.2.2.2.2.2.2.2.2.2.2.1 bt131.2.2.2.2.2.2.2.2.2.2.2.2.2.1 bt131.2.2.2.2.2.2.2.2.2.2.2.2.2.2.1 bt131.2.2.2.2.2.2.2.2.2.2.2.2.2.2.2.1 bt131.2.2.2.2.2.2.2.2.2.2.2.2.2.2.2.2.1 bt150.1).bind fun t155 => (if t155 = 0 then (some (bt131.1, bt131.2.1, bt131.2.2.1, bt131.2.2.2.1, bt131.2.2.2.2.1, bt131.2.2.2.2.2.1, bt131.2.2.2.2.2.2.1, bt131.2.2.2.2.2.2.2.1, bt131.2.2.2.2.2.2.2.2.1, bt131.2.2.2.2.2.2.2.2.2.1, bt131.2.2.2.2.2.2.2.2.2.2.1, bt131.2.2.2.2.2.2.2.2.2.2.2.1, bt131.2.2.2.2.2.2.2.2.2.2.2.2.1, bt131.2.2.2.2.2.2.2.2.2.2.2.2.2.1, bt131.2.2.2.2.2.2.2.2.2.2.2.2.2.2.1, bt131.2.2.2.2.2.2.2.2.2.2.2.2.2.2.2.1, bt131.2.2.2.2.2.2.2.2.2.2.2.2.2.2.2.2.1, bt150.1, 0)) else (none))) else (none))) else (some (false, 0, 0, 0, 0, 0, 0, 0, 0, 0, 0, 0, 0, 0, 0, 0, 0, 0, 5))) else (none)) else (none))))
theorem cidr_Parse.mono : ∀ a0 k, LeO (cidr_Parse.f k a0) (cidr_Parse.f (k + 1) a0) := by
 intro a0 k
 unfold cidr_Parse.f
 repeat' first
   | (with_reducible exact ip_Parse.mono _ _)
   | (with_reducible exact LeO.refl _)
   | (with_reducible exact LeO.none _)
   | (with_reducible refine LeO.ite ?_ ?_)
   | (with_reducible refine LeO.bind ?_ (fun _ => ?_))
   | exact ip_Parse.mono _ _
   | exact LeO.none _
   | refine LeO.ite ?_ ?_
   | refine LeO.bind ?_ (fun _ => ?_)
set_option maxHeartbeats 8000000 in
set_option maxRecDepth 100000 in
theorem cidr_Parse.calls (k : Nat) (a0 : ByteArray) (r1 : Bool) (r2 : Int) (r3 : Int) (r4 : Int) (r5 : Int) (r6 : Int) (r7 : Int) (r8 : Int) (r9 : Int) (r10 : Int) (r11 : Int) (r12 : Int) (r13 : Int) (r14 : Int) (r15 : Int) (r16 : Int) (r17 : Int) (r18 : Int) (r19 : Int) (w : World) (hLW : LW w) (h : cidr_Parse.f k a0 = some (r1, r2, r3, r4, r5, r6, r7, r8, r9, r10, r11, r12, r13, r14, r15, r16, r17, r18, r19)) :
  Calls Tryz.prog 8 #[.string a0] w fun e w' => e = .returned (.tuple #[.agg (nr_ r1 r2 r3 r4 r5 r6 r7 r8 r9 r10 r11 r12 r13 r14 r15 r16 r17 r18), .int .i64 r19]) ∧ Below w.heap.size w w' := by
 have hu26 := Tryz.underlying26
 have hu24 := Tryz.underlying24
 have hu55 := Tryz.underlying55
 have HLW := Aside0.mk hLW
 clear hLW
 have HB := Aside0.mk (Below.refl w.heap.size w)
 have H := h
 unfold cidr_Parse.f at H
 clear h
 replace H := Option.bind_eq_some_iff.mp H
 obtain ⟨⟨t128, t129, t130⟩, A20, H⟩ := H
 (try dsimp only at H)
 have A2 := Aside0.mk A20
 clear A20
 replace H := Option.bind_eq_some_iff.mp H
 obtain ⟨⟨t131, t132, t133, t134, t135, t136, t137, t138, t139, t140, t141, t142, t143, t144, t145, t146, t147, t148⟩, A30, H⟩ := H
 (try dsimp only at H)
 have A3 := Aside0.mk A30
 clear A30
 replace H := Option.bind_eq_some_iff.mp H
 obtain ⟨⟨t150, t151⟩, A40, H⟩ := H
 (try dsimp only at H)
 have A4 := Aside0.mk A40
 clear A40
 by_cases c5 : t130 = true
 ·subst c5
  replace H := ifT_ H
  by_cases c6 : t148 = 0
  ·rw [if_pos c6] at H
   have c6b0 := beq_iff_eq.mpr c6
   have c6b1 := bne_eq_false_iff_eq.mpr c6
   clear c6
   rcases t151 with _ | q153
   ·have H1 : ((strconv_Itoa.f t150).bind fun t154 => (if t154.toList = t129.toList then ((cidr_Check.f t131 t132 t133 t134 t135 t136 t137 t138 t139 t140 t141 t142 t143 t144 t145 t146 t147 t150).bind fun t155 => (if t155 = 0 then (some (t131, t132, t133, t134, t135, t136, t137, t138, t139, t140, t141, t142, t143, t144, t145, t146, t147, t150, 0)) else (none))) else (none))) = some (r1, r2, r3, r4, r5, r6, r7, r8, r9, r10, r11, r12, r13, r14, r15, r16, r17, r18, r19) := by rw [if_pos (show (none : Option Int).isNone = true by rfl)] at H; exact H
    clear H
    have H := H1
    clear H1
    try simp only [errW_none, errW_some]
    replace H := Option.bind_eq_some_iff.mp H
    obtain ⟨t154, A70, H⟩ := H
    (try dsimp only at H)
    have A7 := Aside0.mk A70
    clear A70
    by_cases c8 : t154.toList = t129.toList
    ·rw [if_pos c8] at H
     have c8b0 := beq_iff_eq.mpr c8
     have c8b1 := bne_eq_false_iff_eq.mpr c8
     clear c8
     replace H := Option.bind_eq_some_iff.mp H
     obtain ⟨t155, A90, H⟩ := H
     (try dsimp only at H)
     have A9 := Aside0.mk A90
     clear A90
     by_cases c10 : t155 = 0
     ·rw [if_pos c10] at H
      have c10b0 := beq_iff_eq.mpr c10
      have c10b1 := bne_eq_false_iff_eq.mpr c10
      clear c10
      simp only [Option.some.injEq, Prod.mk.injEq] at H
      obtain ⟨rfl, rfl, rfl, rfl, rfl, rfl, rfl, rfl, rfl, rfl, rfl, rfl, rfl, rfl, rfl, rfl, rfl, rfl, rfl⟩ := H
      go_enter Tryz.func8, Tryz.ntmps8
      go_wp2_with (first | ((with_reducible refine gate_dst (N := 2) rfl ?_); refine bx_ 2 (nr_ false 0 0 0 0 0 0 0 0 0 0 0 0 0 0 0 0 0) 26 ?_; intro gb127 hg w11 hbox hb; have BK127 := Aside0.mk (hbox); have GW127 := Aside0.mk (ge_ (w := w) hg); have GE127 := Aside0.mk (ge_ (w := w) hg); replace HB := Aside0.mk (below_step bq_ hb); clear hb hbox hg) | ((with_reducible refine gate_callee (f := 21) rfl ?_); refine goesL_ (some 14) rfl rfl Tryz.func21 (by kernel_rfl) rfl #[.string a0, .string (⟨#[47]⟩ : ByteArray)] rfl lq_ ?_; (with_reducible refine (strings_Cut.calls a0 (⟨#[47]⟩ : ByteArray) t128 t129 true _ ?side1 A2.out).mono ?_); (case side1 => exact lg_); rintro e w12 ⟨rfl, hb⟩; refine ⟨_, rfl, ?_⟩; replace BK127 := Aside0.mk (bb_ BK127 hb); replace HB := Aside0.mk (below_step bg_ hb); (try clear hb); (try clear hb2); (try clear hk); (try clear hi)) | ((with_reducible refine gate_callee (f := 22) rfl ?_); refine goesL_ (some 20) rfl rfl Tryz.func22 (by kernel_rfl) rfl #[.string t128] rfl lq_ ?_; (with_reducible refine (ip_Parse.calls k t128 t131 t132 t133 t134 t135 t136 t137 t138 t139 t140 t141 t142 t143 t144 t145 t146 t147 t148 _ ?side1 A3.out).mono ?_); (case side1 => exact lg_); rintro e w13 ⟨rfl, hb⟩; refine ⟨_, rfl, ?_⟩; replace BK127 := Aside0.mk (bb_ BK127 hb); replace HB := Aside0.mk (below_step bg_ hb); (try clear hb); (try clear hb2); (try clear hk); (try clear hi)) | ((with_reducible refine gate_dst (N := 7) rfl ?_); refine bx_ 7 az_ 24 ?_; intro gb149 hg w14 hbox hb; have n0_ := Aside0.mk (bb_ BK127 hb); have n1_ := Aside0.mk (below_step bg_ hb); have n2_ := Aside0.mk (hbox); have n3_ := Aside0.mk (gg_ (w := w) hg); have n4_ := Aside0.mk (gg_ (w := w) hg); have n5_ := Aside0.mk (nl_ BK127 hg); have n6_ := Aside0.mk (ng_ BK127 hg); clear BK127; clear HB; have BK127 := n0_; have HB := n1_; have BK149 := n2_; have GW149 := n3_; have GE149 := n4_; have NB127_149 := n5_; have NB149_127 := n6_; clear n0_ n1_ n2_ n3_ n4_ n5_ n6_; clear hb hbox hg; have hnb15 := NB149_127.out; have hnc15 := NB127_149.out; obtain ⟨hcz16_0, hcz16_1, hcz16_2, hcz16_3, hcz16_4, hcz16_5, hcz16_6, hcz16_7, hcz16_8, hcz16_9, hcz16_10, hcz16_11, hcz16_12, hcz16_13, hcz16_14, hcz16_15, hcz16_16⟩ := c17_ BK149; obtain ⟨hfz16_0, hfz16_1, hfz16_2, hfz16_3, hfz16_4, hfz16_5, hfz16_6, hfz16_7, hfz16_8, hfz16_9, hfz16_10, hfz16_11, hfz16_12, hfz16_13, hfz16_14, hfz16_15, hfz16_16⟩ := f17_ BK149) | ((with_reducible refine gate_store (t := 24) (p := 7) rfl ?_); refine store_all ?hg 24 7 _ rfl rfl gb149 ay_ (al_ t131 t132 t133 t134 t135 t136 t137 t138 t139 t140 t141 t142 t143 t144 t145 t146 t147) BK149.out rfl rfl rfl (by kernel_rfl) rfl ?_; (case hg => rfl); intro w17 hw; replace BK127 := Aside0.mk (sf_ BK127 NB127_149 hw); replace BK149 := Aside0.mk (show w17.heap[gb149]? = some (.cells (ag_ t131 t132 t133 t134 t135 t136 t137 t138 t139 t140 t141 t142 t143 t144 t145 t146 t147) 24 (0, 0)) from ss_ BK149 hw); replace HB := Aside0.mk (sb_ hw); clear hw) | ((with_reducible refine gate_callee (f := 23) rfl ?_); refine goesL_ (some 25) rfl rfl Tryz.func23 (by kernel_rfl) rfl #[.string t129] rfl lq_ ?_; (with_reducible refine (strconv_Atoi.calls t129 t150 none _ ?side1 A4.out).mono ?_); (case side1 => exact lg_); rintro e w18 ⟨rfl, hb⟩; refine ⟨_, rfl, ?_⟩; replace BK127 := Aside0.mk (bb_ BK127 hb); replace BK149 := Aside0.mk (bb_ BK149 hb); replace HB := Aside0.mk (below_step bg_ hb); (try clear hb); (try clear hb2); (try clear hk); (try clear hi); (try simp only [errW_none, errW_some])) | ((with_reducible refine gate_dst (N := 28) rfl ?_); (try (refine gate_guard (by rfl) ?_; dsimp only)); refine load_box ?hg 24 (.tmp 7) rfl BK149.out [] (al_ t131 t132 t133 t134 t135 t136 t137 t138 t139 t140 t141 t142 t143 t144 t145 t146 t147) [] rfl 0 rfl rfl Tryz.underlying24 rfl (by kernel_rfl) ?_; (case hg => rfl)) | ((with_reducible refine gate_dst (N := 11) rfl ?_); refine bx_ 11 (nr_ false 0 0 0 0 0 0 0 0 0 0 0 0 0 0 0 0 0) 26 ?_; intro gb152 hg w19 hbox hb; have n0_ := Aside0.mk (bb_ BK127 hb); have n1_ := Aside0.mk (bb_ BK149 hb); have n2_ := Aside0.mk (below_step bg_ hb); have n3_ := Aside0.mk (hbox); have n4_ := Aside0.mk (gg_ (w := w) hg); have n5_ := Aside0.mk (gg_ (w := w) hg); have n6_ := Aside0.mk (nl_ BK127 hg); have n7_ := Aside0.mk (ng_ BK127 hg); have n8_ := Aside0.mk (nl_ BK149 hg); have n9_ := Aside0.mk (ng_ BK149 hg); clear BK127; clear BK149; clear HB; have BK127 := n0_; have BK149 := n1_; have HB := n2_; have BK152 := n3_; have GW152 := n4_; have GE152 := n5_; have NB127_152 := n6_; have NB152_127 := n7_; have NB149_152 := n8_; have NB152_149 := n9_; clear n0_ n1_ n2_ n3_ n4_ n5_ n6_ n7_ n8_ n9_; clear hb hbox hg; have hnb20 := NB152_127.out; have hnc20 := NB127_152.out; have hnb21 := NB152_149.out; have hnc21 := NB149_152.out; obtain ⟨hcz22_0, hcz22_1, hcz22_2, hcz22_3, hcz22_4, hcz22_5, hcz22_6, hcz22_7, hcz22_8, hcz22_9, hcz22_10, hcz22_11, hcz22_12, hcz22_13, hcz22_14, hcz22_15, hcz22_16, hcz22_17⟩ := c18_ BK152; have hfz22_0 := bf_ BK152 0; have hfz22_1 := bf_ BK152 1; have hfz22_2 := bf_ BK152 2; have hfz22_3 := bf_ BK152 3; have hfz22_4 := bf_ BK152 4; have hfz22_5 := bf_ BK152 5; have hfz22_6 := bf_ BK152 6; have hfz22_7 := bf_ BK152 7; have hfz22_8 := bf_ BK152 8; have hfz22_9 := bf_ BK152 9; have hfz22_10 := bf_ BK152 10; have hfz22_11 := bf_ BK152 11; have hfz22_12 := bf_ BK152 12; have hfz22_13 := bf_ BK152 13; have hfz22_14 := bf_ BK152 14; have hfz22_15 := bf_ BK152 15; have hfz22_16 := bf_ BK152 16; have hfz22_17 := bf_ BK152 17) | ((with_reducible refine gate_store (t := 26) (p := 11) rfl ?_); refine store_all ?hg 26 11 _ rfl rfl gb152 (nt_ false 0 0 0 0 0 0 0 0 0 0 0 0 0 0 0 0 0) (nt_ t131 t132 t133 t134 t135 t136 t137 t138 t139 t140 t141 t142 t143 t144 t145 t146 t147 t150) BK152.out rfl rfl rfl (by kernel_rfl) rfl ?_; (case hg => rfl); intro w23 hw; replace BK127 := Aside0.mk (sf_ BK127 NB127_152 hw); replace BK149 := Aside0.mk (sf_ BK149 NB149_152 hw); replace BK152 := Aside0.mk (show w23.heap[gb152]? = some (.cells (nr_ t131 t132 t133 t134 t135 t136 t137 t138 t139 t140 t141 t142 t143 t144 t145 t146 t147 t150) 26 (0, 0)) from ss_ BK152 hw); replace HB := Aside0.mk (sb_ hw); clear hw) | (go_at_call 11; (with_reducible refine (strconv_Itoa.calls t150 t154 _ ?side1 A7.out).mono ?_); (case side1 => exact lg_); rintro e w24 ⟨rfl, hb⟩; replace BK127 := Aside0.mk (bb_ BK127 hb); replace BK149 := Aside0.mk (bb_ BK149 hb); replace BK152 := Aside0.mk (bb_ BK152 hb); replace HB := Aside0.mk (below_step bg_ hb); (try clear hb); (try clear hb2); (try clear hk); (try clear hi)) | ((with_reducible refine gate_dst (N := 48) rfl ?_); (try (refine gate_guard (by rfl) ?_; dsimp only)); refine load_box ?hg 26 (.tmp 11) rfl BK152.out [] (nt_ t131 t132 t133 t134 t135 t136 t137 t138 t139 t140 t141 t142 t143 t144 t145 t146 t147 t150) [] rfl 0 rfl rfl Tryz.underlying26 rfl (by kernel_rfl) ?_; (case hg => rfl)) | (go_at_call 6; (with_reducible refine (cidr_Check.calls t131 t132 t133 t134 t135 t136 t137 t138 t139 t140 t141 t142 t143 t144 t145 t146 t147 t150 t155 _ ?side1 A9.out).mono ?_); (case side1 => exact lg_); rintro e w25 ⟨rfl, hb⟩; replace BK127 := Aside0.mk (bb_ BK127 hb); replace BK149 := Aside0.mk (bb_ BK149 hb); replace BK152 := Aside0.mk (bb_ BK152 hb); replace HB := Aside0.mk (below_step bg_ hb); (try clear hb); (try clear hb2); (try clear hk); (try clear hi); obtain ⟨hcz26_0, hcz26_1, hcz26_2, hcz26_3, hcz26_4, hcz26_5, hcz26_6, hcz26_7, hcz26_8, hcz26_9, hcz26_10, hcz26_11, hcz26_12, hcz26_13, hcz26_14, hcz26_15, hcz26_16, hcz26_17⟩ := c18_ BK127; have hfz26_0 := bf_ BK127 0; have hfz26_1 := bf_ BK127 1; have hfz26_2 := bf_ BK127 2; have hfz26_3 := bf_ BK127 3; have hfz26_4 := bf_ BK127 4; have hfz26_5 := bf_ BK127 5; have hfz26_6 := bf_ BK127 6; have hfz26_7 := bf_ BK127 7; have hfz26_8 := bf_ BK127 8; have hfz26_9 := bf_ BK127 9; have hfz26_10 := bf_ BK127 10; have hfz26_11 := bf_ BK127 11; have hfz26_12 := bf_ BK127 12; have hfz26_13 := bf_ BK127 13; have hfz26_14 := bf_ BK127 14; have hfz26_15 := bf_ BK127 15; have hfz26_16 := bf_ BK127 16; have hfz26_17 := bf_ BK127 17) | ((with_reducible refine gate_dst (N := 53) rfl ?_); (try (refine gate_guard (by rfl) ?_; dsimp only)); refine load_box ?hg 26 (.tmp 11) rfl BK152.out [] (nt_ t131 t132 t133 t134 t135 t136 t137 t138 t139 t140 t141 t142 t143 t144 t145 t146 t147 t150) [] rfl 0 rfl rfl Tryz.underlying26 rfl (by kernel_rfl) ?_; (case hg => rfl)) | ((with_reducible refine gate_store (t := 26) (p := 2) rfl ?_); refine store_all ?hg 26 2 _ rfl rfl gb127 (nt_ false 0 0 0 0 0 0 0 0 0 0 0 0 0 0 0 0 0) (nt_ t131 t132 t133 t134 t135 t136 t137 t138 t139 t140 t141 t142 t143 t144 t145 t146 t147 t150) BK127.out rfl rfl rfl (by kernel_rfl) rfl ?_; (case hg => rfl); intro w27 hw; replace BK127 := Aside0.mk (show w27.heap[gb127]? = some (.cells (nr_ t131 t132 t133 t134 t135 t136 t137 t138 t139 t140 t141 t142 t143 t144 t145 t146 t147 t150) 26 (0, 0)) from ss_ BK127 hw); replace BK149 := Aside0.mk (sf_ BK149 NB149_127 hw); replace BK152 := Aside0.mk (sf_ BK152 NB152_127 hw); replace HB := Aside0.mk (sb_ hw); clear hw))
      refine bodyPost_ret (results_ct rfl _ _ gb127 26 (nr_ t131 t132 t133 t134 t135 t136 t137 t138 t139 t140 t141 t142 t143 t144 t145 t146 t147 t150) (0, 0) _ rfl bk_ Tryz.underlying26 rfl (by kernel_rfl)) rfl ?_
      exact ⟨rq_, bg_⟩
     ·rw [if_neg c10] at H
      exact absurd H (by simp)
    ·rw [if_neg c8] at H
     exact absurd H (by simp)
   ·have H1 : (some (false, 0, 0, 0, 0, 0, 0, 0, 0, 0, 0, 0, 0, 0, 0, 0, 0, 0, 5)) = some (r1, r2, r3, r4, r5, r6, r7, r8, r9, r10, r11, r12, r13, r14, r15, r16, r17, r18, r19) := by rw [if_neg (show ¬ (some q153).isNone = true by simp)] at H; exact H
    clear H
    have H := H1
    clear H1
    try simp only [errW_none, errW_some]
    simp only [Option.some.injEq, Prod.mk.injEq] at H
    obtain ⟨rfl, rfl, rfl, rfl, rfl, rfl, rfl, rfl, rfl, rfl, rfl, rfl, rfl, rfl, rfl, rfl, rfl, rfl, rfl⟩ := H
    go_enter Tryz.func8, Tryz.ntmps8
    go_wp2_with (first | ((with_reducible refine gate_dst (N := 2) rfl ?_); refine bx_ 2 (nr_ false 0 0 0 0 0 0 0 0 0 0 0 0 0 0 0 0 0) 26 ?_; intro gb127 hg w28 hbox hb; have BK127 := Aside0.mk (hbox); have GW127 := Aside0.mk (ge_ (w := w) hg); have GE127 := Aside0.mk (ge_ (w := w) hg); replace HB := Aside0.mk (below_step bq_ hb); clear hb hbox hg) | ((with_reducible refine gate_callee (f := 21) rfl ?_); refine goesL_ (some 14) rfl rfl Tryz.func21 (by kernel_rfl) rfl #[.string a0, .string (⟨#[47]⟩ : ByteArray)] rfl lq_ ?_; (with_reducible refine (strings_Cut.calls a0 (⟨#[47]⟩ : ByteArray) t128 t129 true _ ?side1 A2.out).mono ?_); (case side1 => exact lg_); rintro e w29 ⟨rfl, hb⟩; refine ⟨_, rfl, ?_⟩; replace BK127 := Aside0.mk (bb_ BK127 hb); replace HB := Aside0.mk (below_step bg_ hb); (try clear hb); (try clear hb2); (try clear hk); (try clear hi)) | ((with_reducible refine gate_callee (f := 22) rfl ?_); refine goesL_ (some 20) rfl rfl Tryz.func22 (by kernel_rfl) rfl #[.string t128] rfl lq_ ?_; (with_reducible refine (ip_Parse.calls k t128 t131 t132 t133 t134 t135 t136 t137 t138 t139 t140 t141 t142 t143 t144 t145 t146 t147 t148 _ ?side1 A3.out).mono ?_); (case side1 => exact lg_); rintro e w30 ⟨rfl, hb⟩; refine ⟨_, rfl, ?_⟩; replace BK127 := Aside0.mk (bb_ BK127 hb); replace HB := Aside0.mk (below_step bg_ hb); (try clear hb); (try clear hb2); (try clear hk); (try clear hi)) | ((with_reducible refine gate_dst (N := 7) rfl ?_); refine bx_ 7 az_ 24 ?_; intro gb149 hg w31 hbox hb; have n0_ := Aside0.mk (bb_ BK127 hb); have n1_ := Aside0.mk (below_step bg_ hb); have n2_ := Aside0.mk (hbox); have n3_ := Aside0.mk (gg_ (w := w) hg); have n4_ := Aside0.mk (gg_ (w := w) hg); have n5_ := Aside0.mk (nl_ BK127 hg); have n6_ := Aside0.mk (ng_ BK127 hg); clear BK127; clear HB; have BK127 := n0_; have HB := n1_; have BK149 := n2_; have GW149 := n3_; have GE149 := n4_; have NB127_149 := n5_; have NB149_127 := n6_; clear n0_ n1_ n2_ n3_ n4_ n5_ n6_; clear hb hbox hg; have hnb32 := NB149_127.out; have hnc32 := NB127_149.out; obtain ⟨hcz33_0, hcz33_1, hcz33_2, hcz33_3, hcz33_4, hcz33_5, hcz33_6, hcz33_7, hcz33_8, hcz33_9, hcz33_10, hcz33_11, hcz33_12, hcz33_13, hcz33_14, hcz33_15, hcz33_16⟩ := c17_ BK149; obtain ⟨hfz33_0, hfz33_1, hfz33_2, hfz33_3, hfz33_4, hfz33_5, hfz33_6, hfz33_7, hfz33_8, hfz33_9, hfz33_10, hfz33_11, hfz33_12, hfz33_13, hfz33_14, hfz33_15, hfz33_16⟩ := f17_ BK149) | ((with_reducible refine gate_store (t := 24) (p := 7) rfl ?_); refine store_all ?hg 24 7 _ rfl rfl gb149 ay_ (al_ t131 t132 t133 t134 t135 t136 t137 t138 t139 t140 t141 t142 t143 t144 t145 t146 t147) BK149.out rfl rfl rfl (by kernel_rfl) rfl ?_; (case hg => rfl); intro w34 hw; replace BK127 := Aside0.mk (sf_ BK127 NB127_149 hw); replace BK149 := Aside0.mk (show w34.heap[gb149]? = some (.cells (ag_ t131 t132 t133 t134 t135 t136 t137 t138 t139 t140 t141 t142 t143 t144 t145 t146 t147) 24 (0, 0)) from ss_ BK149 hw); replace HB := Aside0.mk (sb_ hw); clear hw) | ((with_reducible refine gate_callee (f := 23) rfl ?_); refine goesL_ (some 25) rfl rfl Tryz.func23 (by kernel_rfl) rfl #[.string t129] rfl lq_ ?_; (with_reducible refine (strconv_Atoi.calls t129 t150 (some q153) _ ?side1 A4.out).mono ?_); (case side1 => exact lg_); rintro e w35 ⟨rfl, hb⟩; refine ⟨_, rfl, ?_⟩; replace BK127 := Aside0.mk (bb_ BK127 hb); replace BK149 := Aside0.mk (bb_ BK149 hb); replace HB := Aside0.mk (below_step bg_ hb); (try clear hb); (try clear hb2); (try clear hk); (try clear hi); (try simp only [errW_none, errW_some])) | ((with_reducible refine gate_dst (N := 28) rfl ?_); (try (refine gate_guard (by rfl) ?_; dsimp only)); refine load_box ?hg 24 (.tmp 7) rfl BK149.out [] (al_ t131 t132 t133 t134 t135 t136 t137 t138 t139 t140 t141 t142 t143 t144 t145 t146 t147) [] rfl 0 rfl rfl Tryz.underlying24 rfl (by kernel_rfl) ?_; (case hg => rfl)) | ((with_reducible refine gate_dst (N := 11) rfl ?_); refine bx_ 11 (nr_ false 0 0 0 0 0 0 0 0 0 0 0 0 0 0 0 0 0) 26 ?_; intro gb152 hg w36 hbox hb; have n0_ := Aside0.mk (bb_ BK127 hb); have n1_ := Aside0.mk (bb_ BK149 hb); have n2_ := Aside0.mk (below_step bg_ hb); have n3_ := Aside0.mk (hbox); have n4_ := Aside0.mk (gg_ (w := w) hg); have n5_ := Aside0.mk (gg_ (w := w) hg); have n6_ := Aside0.mk (nl_ BK127 hg); have n7_ := Aside0.mk (ng_ BK127 hg); have n8_ := Aside0.mk (nl_ BK149 hg); have n9_ := Aside0.mk (ng_ BK149 hg); clear BK127; clear BK149; clear HB; have BK127 := n0_; have BK149 := n1_; have HB := n2_; have BK152 := n3_; have GW152 := n4_; have GE152 := n5_; have NB127_152 := n6_; have NB152_127 := n7_; have NB149_152 := n8_; have NB152_149 := n9_; clear n0_ n1_ n2_ n3_ n4_ n5_ n6_ n7_ n8_ n9_; clear hb hbox hg; have hnb37 := NB152_127.out; have hnc37 := NB127_152.out; have hnb38 := NB152_149.out; have hnc38 := NB149_152.out; obtain ⟨hcz39_0, hcz39_1, hcz39_2, hcz39_3, hcz39_4, hcz39_5, hcz39_6, hcz39_7, hcz39_8, hcz39_9, hcz39_10, hcz39_11, hcz39_12, hcz39_13, hcz39_14, hcz39_15, hcz39_16, hcz39_17⟩ := c18_ BK152; have hfz39_0 := bf_ BK152 0; have hfz39_1 := bf_ BK152 1; have hfz39_2 := bf_ BK152 2; have hfz39_3 := bf_ BK152 3; have hfz39_4 := bf_ BK152 4; have hfz39_5 := bf_ BK152 5; have hfz39_6 := bf_ BK152 6; have hfz39_7 := bf_ BK152 7; have hfz39_8 := bf_ BK152 8; have hfz39_9 := bf_ BK152 9; have hfz39_10 := bf_ BK152 10; have hfz39_11 := bf_ BK152 11; have hfz39_12 := bf_ BK152 12; have hfz39_13 := bf_ BK152 13; have hfz39_14 := bf_ BK152 14; have hfz39_15 := bf_ BK152 15; have hfz39_16 := bf_ BK152 16; have hfz39_17 := bf_ BK152 17) | ((with_reducible refine gate_store (t := 26) (p := 11) rfl ?_); refine store_all ?hg 26 11 _ rfl rfl gb152 (nt_ false 0 0 0 0 0 0 0 0 0 0 0 0 0 0 0 0 0) (nt_ t131 t132 t133 t134 t135 t136 t137 t138 t139 t140 t141 t142 t143 t144 t145 t146 t147 t150) BK152.out rfl rfl rfl (by kernel_rfl) rfl ?_; (case hg => rfl); intro w40 hw; replace BK127 := Aside0.mk (sf_ BK127 NB127_152 hw); replace BK149 := Aside0.mk (sf_ BK149 NB149_152 hw); replace BK152 := Aside0.mk (show w40.heap[gb152]? = some (.cells (nr_ t131 t132 t133 t134 t135 t136 t137 t138 t139 t140 t141 t142 t143 t144 t145 t146 t147 t150) 26 (0, 0)) from ss_ BK152 hw); replace HB := Aside0.mk (sb_ hw); clear hw; obtain ⟨hcz41_0, hcz41_1, hcz41_2, hcz41_3, hcz41_4, hcz41_5, hcz41_6, hcz41_7, hcz41_8, hcz41_9, hcz41_10, hcz41_11, hcz41_12, hcz41_13, hcz41_14, hcz41_15, hcz41_16, hcz41_17⟩ := c18_ BK127; have hfz41_0 := bf_ BK127 0; have hfz41_1 := bf_ BK127 1; have hfz41_2 := bf_ BK127 2; have hfz41_3 := bf_ BK127 3; have hfz41_4 := bf_ BK127 4; have hfz41_5 := bf_ BK127 5; have hfz41_6 := bf_ BK127 6; have hfz41_7 := bf_ BK127 7; have hfz41_8 := bf_ BK127 8; have hfz41_9 := bf_ BK127 9; have hfz41_10 := bf_ BK127 10; have hfz41_11 := bf_ BK127 11; have hfz41_12 := bf_ BK127 12; have hfz41_13 := bf_ BK127 13; have hfz41_14 := bf_ BK127 14; have hfz41_15 := bf_ BK127 15; have hfz41_16 := bf_ BK127 16; have hfz41_17 := bf_ BK127 17) | ((with_reducible refine gate_store (t := 26) (p := 2) rfl ?_); refine store_all ?hg 26 2 _ rfl rfl gb127 (nt_ false 0 0 0 0 0 0 0 0 0 0 0 0 0 0 0 0 0) (nt_ false 0 0 0 0 0 0 0 0 0 0 0 0 0 0 0 0 0) BK127.out rfl rfl rfl (by kernel_rfl) rfl ?_; (case hg => rfl); intro w42 hw; replace BK127 := Aside0.mk (show w42.heap[gb127]? = some (.cells (nr_ false 0 0 0 0 0 0 0 0 0 0 0 0 0 0 0 0 0) 26 (0, 0)) from ss_ BK127 hw); replace BK149 := Aside0.mk (sf_ BK149 NB149_127 hw); replace BK152 := Aside0.mk (sf_ BK152 NB152_127 hw); replace HB := Aside0.mk (sb_ hw); clear hw))
    refine bodyPost_ret (results_ct rfl _ _ gb127 26 (nr_ false 0 0 0 0 0 0 0 0 0 0 0 0 0 0 0 0 0) (0, 0) _ rfl bk_ Tryz.underlying26 rfl (by kernel_rfl)) rfl ?_
    exact ⟨rq_, bg_⟩
  ·rw [if_neg c6] at H
   exact absurd H (by simp)
 ·replace c5 := Bool.eq_false_iff.mpr c5
  subst c5
  replace H := ifF_ H
  exact absurd H (by simp)

def cidr_Forbidden.l0 : Nat → List (S26) → List ByteArray → Int → Int → Option ((List (S26)))
 | 0, _, _, _, _ => none
 | k + 1, x1, x6, x7, x8 => if x8 < x7 then (if 0 ≤ x8 then (if x8 < (x6.length : Int) then ((cidr_Parse.f k (rdOf ByteArray.empty x6 x8)).bind fun bt160 => (if x1.length < 4398046511104 then (cidr_Forbidden.l0 k (x1 ++ [(⟨(⟨bt160.1, (⟨bt160.2.1, bt160.2.2.1, bt160.2.2.2.1, bt160.2.2.2.2.1, bt160.2.2.2.2.2.1, bt160.2.2.2.2.2.2.1, bt160.2.2.2.2.2.2.2.1, bt160.2.2.2.2.2.2.2.2.1, bt160.2.2.2.2.2.2.2.2.2.1, bt160.2.2.2.2.2.2.2.2.2.2.1, bt160.2.2.2.2.2.2.2.2.2.2.2.1, bt160.2.2.2.2.2.2.2.2.2.2.2.2.1, bt160.2.2.2.2.2.2.2.2.2.2.2.2.2.1, bt160.2.2.2.2.2.2.2.2.2.2.2.2.2.2.1, bt160.2.2.2.2.2.2.2.2.2.2.2.2.2.2.2.1, bt160.2.2.2.2.2.2.2.2.2.2.2.2.2.2.2.2.1⟩ : S22)⟩ : S24), bt160.2.2.2.2.2.2.2.2.2.2.2.2.2.2.2.2.2.1⟩ : S26)]) x6 x7 (wrap64 (x8 + 1))) else (none))) else (none)) else (none)) else (some x1)
def cidr_Forbidden.f (k : Nat)  : Option ((List (S26))) := (strings_Split.f (⟨#[48, 46, 48, 46, 48, 46, 48, 47, 56, 32, 49, 48, 46, 48, 46, 48, 46, 48, 47, 56, 32, 49, 48, 48, 46, 54, 52, 46, 48, 46, 48, 47, 49, 48, 32, 49, 50, 55, 46, 48, 46, 48, 46, 48, 47, 56, 32, 49, 54, 57, 46, 50, 53, 52, 46, 48, 46, 48, 47, 49, 54, 32, 49, 55, 50, 46, 49, 54, 46, 48, 46, 48, 47, 49, 50, 32, 49, 57, 50, 46, 48, 46, 48, 46, 48, 47, 50, 52, 32, 49, 57, 50, 46, 48, 46, 50, 46, 48, 47, 50, 52, 32, 49, 57, 50, 46, 56, 56, 46, 57, 57, 46, 48, 47, 50, 52, 32, 49, 57, 50, 46, 49, 54, 56, 46, 48, 46, 48, 47, 49, 54, 32, 49, 57, 56, 46, 49, 56, 46, 48, 46, 48, 47, 49, 53, 32, 49, 57, 56, 46, 53, 49, 46, 49, 48, 48, 46, 48, 47, 50, 52, 32, 50, 48, 51, 46, 48, 46, 49, 49, 51, 46, 48, 47, 50, 52, 32, 50, 50, 52, 46, 48, 46, 48, 46, 48, 47, 52, 32, 50, 52, 48, 46, 48, 46, 48, 46, 48, 47, 52, 32, 58, 58, 47, 49, 50, 56, 32, 58, 58, 49, 47, 49, 50, 56, 32, 54, 52, 58, 102, 102, 57, 98, 58, 49, 58, 58, 47, 52, 56, 32, 49, 48, 48, 58, 58, 47, 54, 52, 32, 50, 48, 48, 49, 58, 58, 47, 50, 51, 32, 50, 48, 48, 49, 58, 100, 98, 56, 58, 58, 47, 51, 50, 32, 51, 102, 102, 102, 58, 58, 47, 50, 48, 32, 53, 102, 48, 48, 58, 58, 47, 49, 54, 32, 102, 99, 48, 48, 58, 58, 47, 55, 32, 102, 101, 56, 48, 58, 58, 47, 49, 48, 32, 102, 102, 48, 48, 58, 58, 47, 56]⟩ : ByteArray) (⟨#[32]⟩ : ByteArray)).bind fun t156 => (cidr_Forbidden.l0 k ([] : List (S26)) t156 (t156.length : Int) 0)
theorem cidr_Forbidden.mono_l : ∀ k, (∀ y0 y1 y2 y3, LeO (cidr_Forbidden.l0 k y0 y1 y2 y3) (cidr_Forbidden.l0 (k + 1) y0 y1 y2 y3))
 | 0 => fun _ _ _ _ r h => by simp [cidr_Forbidden.l0] at h
 | k + 1 => by
  have ih0 := cidr_Forbidden.mono_l k
  ·intro y0 y1 y2 y3
   unfold cidr_Forbidden.l0
   repeat' first
   | (with_reducible exact ih0 _ _ _ _)
   | (with_reducible exact cidr_Parse.mono _ _)
   | (with_reducible exact LeO.refl _)
   | (with_reducible exact LeO.none _)
   | (with_reducible refine LeO.ite ?_ ?_)
   | (with_reducible refine LeO.bind ?_ (fun _ => ?_))
   | exact ih0 _ _ _ _
   | exact cidr_Parse.mono _ _
   | exact LeO.none _
   | refine LeO.ite ?_ ?_
   | refine LeO.bind ?_ (fun _ => ?_)
theorem cidr_Forbidden.mono : ∀ k, LeO (cidr_Forbidden.f k ) (cidr_Forbidden.f (k + 1) ) := by
 intro  k
 have ih0 := cidr_Forbidden.mono_l k
 unfold cidr_Forbidden.f
 repeat' first
   | (with_reducible exact ih0 _ _ _ _)
   | (with_reducible exact cidr_Parse.mono _ _)
   | (with_reducible exact LeO.refl _)
   | (with_reducible exact LeO.none _)
   | (with_reducible refine LeO.ite ?_ ?_)
   | (with_reducible refine LeO.bind ?_ (fun _ => ?_))
   | exact ih0 _ _ _ _
   | exact cidr_Parse.mono _ _
   | exact LeO.none _
   | refine LeO.ite ?_ ?_
   | refine LeO.bind ?_ (fun _ => ?_)
set_option maxHeartbeats 8000000 in
set_option maxRecDepth 100000 in
theorem cidr_Forbidden.calls (k : Nat)  (r : List (S26)) (w : World) (hLW : LW w) (h : cidr_Forbidden.f k  = some r) :
  Calls Tryz.prog 20 #[] w fun e w' => ∃ v0_ : Value, e = .returned (v0_) ∧ Kd.R k26 26 w' w.heap.size (fun _ => True) v0_ r ∧ Below w.heap.size w w' := by
 have hu26 := Tryz.underlying26
 have HLW := Aside0.mk hLW
 clear hLW
 have HB := Aside0.mk (Below.refl w.heap.size w)
 have H := h
 unfold cidr_Forbidden.f at H
 clear h
 replace H := Option.bind_eq_some_iff.mp H
 obtain ⟨t156, A10, H⟩ := H
 (try dsimp only at H)
 have A1 := Aside0.mk A10
 clear A10
 have H' := Aside0.mk H
 clear H
 go_enter Tryz.func20, Tryz.ntmps20
 go_wp2_with (first | ((with_reducible refine gate_callee (f := 42) rfl ?_); refine goesL_ (some 6) rfl rfl Tryz.func42 (by kernel_rfl) rfl #[.string (⟨#[48, 46, 48, 46, 48, 46, 48, 47, 56, 32, 49, 48, 46, 48, 46, 48, 46, 48, 47, 56, 32, 49, 48, 48, 46, 54, 52, 46, 48, 46, 48, 47, 49, 48, 32, 49, 50, 55, 46, 48, 46, 48, 46, 48, 47, 56, 32, 49, 54, 57, 46, 50, 53, 52, 46, 48, 46, 48, 47, 49, 54, 32, 49, 55, 50, 46, 49, 54, 46, 48, 46, 48, 47, 49, 50, 32, 49, 57, 50, 46, 48, 46, 48, 46, 48, 47, 50, 52, 32, 49, 57, 50, 46, 48, 46, 50, 46, 48, 47, 50, 52, 32, 49, 57, 50, 46, 56, 56, 46, 57, 57, 46, 48, 47, 50, 52, 32, 49, 57, 50, 46, 49, 54, 56, 46, 48, 46, 48, 47, 49, 54, 32, 49, 57, 56, 46, 49, 56, 46, 48, 46, 48, 47, 49, 53, 32, 49, 57, 56, 46, 53, 49, 46, 49, 48, 48, 46, 48, 47, 50, 52, 32, 50, 48, 51, 46, 48, 46, 49, 49, 51, 46, 48, 47, 50, 52, 32, 50, 50, 52, 46, 48, 46, 48, 46, 48, 47, 52, 32, 50, 52, 48, 46, 48, 46, 48, 46, 48, 47, 52, 32, 58, 58, 47, 49, 50, 56, 32, 58, 58, 49, 47, 49, 50, 56, 32, 54, 52, 58, 102, 102, 57, 98, 58, 49, 58, 58, 47, 52, 56, 32, 49, 48, 48, 58, 58, 47, 54, 52, 32, 50, 48, 48, 49, 58, 58, 47, 50, 51, 32, 50, 48, 48, 49, 58, 100, 98, 56, 58, 58, 47, 51, 50, 32, 51, 102, 102, 102, 58, 58, 47, 50, 48, 32, 53, 102, 48, 48, 58, 58, 47, 49, 54, 32, 102, 99, 48, 48, 58, 58, 47, 55, 32, 102, 101, 56, 48, 58, 58, 47, 49, 48, 32, 102, 102, 48, 48, 58, 58, 47, 56]⟩ : ByteArray), .string (⟨#[32]⟩ : ByteArray)] rfl lq_ ?_; (with_reducible refine (strings_Split.calls (⟨#[48, 46, 48, 46, 48, 46, 48, 47, 56, 32, 49, 48, 46, 48, 46, 48, 46, 48, 47, 56, 32, 49, 48, 48, 46, 54, 52, 46, 48, 46, 48, 47, 49, 48, 32, 49, 50, 55, 46, 48, 46, 48, 46, 48, 47, 56, 32, 49, 54, 57, 46, 50, 53, 52, 46, 48, 46, 48, 47, 49, 54, 32, 49, 55, 50, 46, 49, 54, 46, 48, 46, 48, 47, 49, 50, 32, 49, 57, 50, 46, 48, 46, 48, 46, 48, 47, 50, 52, 32, 49, 57, 50, 46, 48, 46, 50, 46, 48, 47, 50, 52, 32, 49, 57, 50, 46, 56, 56, 46, 57, 57, 46, 48, 47, 50, 52, 32, 49, 57, 50, 46, 49, 54, 56, 46, 48, 46, 48, 47, 49, 54, 32, 49, 57, 56, 46, 49, 56, 46, 48, 46, 48, 47, 49, 53, 32, 49, 57, 56, 46, 53, 49, 46, 49, 48, 48, 46, 48, 47, 50, 52, 32, 50, 48, 51, 46, 48, 46, 49, 49, 51, 46, 48, 47, 50, 52, 32, 50, 50, 52, 46, 48, 46, 48, 46, 48, 47, 52, 32, 50, 52, 48, 46, 48, 46, 48, 46, 48, 47, 52, 32, 58, 58, 47, 49, 50, 56, 32, 58, 58, 49, 47, 49, 50, 56, 32, 54, 52, 58, 102, 102, 57, 98, 58, 49, 58, 58, 47, 52, 56, 32, 49, 48, 48, 58, 58, 47, 54, 52, 32, 50, 48, 48, 49, 58, 58, 47, 50, 51, 32, 50, 48, 48, 49, 58, 100, 98, 56, 58, 58, 47, 51, 50, 32, 51, 102, 102, 102, 58, 58, 47, 50, 48, 32, 53, 102, 48, 48, 58, 58, 47, 49, 54, 32, 102, 99, 48, 48, 58, 58, 47, 55, 32, 102, 101, 56, 48, 58, 58, 47, 49, 48, 32, 102, 102, 48, 48, 58, 58, 47, 56]⟩ : ByteArray) (⟨#[32]⟩ : ByteArray) t156 _ ?side1 A1.out).mono ?_); (case side1 => exact lw_); rintro e w2 ⟨v157, rfl, ho0, hb⟩; refine ⟨_, rfl, ?_⟩; have HO158 := Aside0.mk (Kd.R_lower ho0 (below_size bq_)); replace HB := Aside0.mk (below_step bq_ hb); (try clear hb); (try clear hb2); (try clear hk); (try clear hi); (try clear ho0); obtain ⟨Ao3, co3, eo3⟩ := Kd.R_slice HO158.out; subst eo3))
 go_loopg [1, 8] k (fun kq v1 v8 w' => ∃ (x1_1 : List (S26)) (x8_1 : Int), v8 = .int .i64 x8_1 ∧ Aside0 (cidr_Forbidden.l0 kq x1_1 t156 (t156.length : Int) x8_1 = some r) ∧ Aside0 (kq ≤ k) ∧ Aside0 (Kd.R k26 26 w' w.heap.size (fun _ => True) v1 x1_1) ∧ Aside0 (Kd.R Kd.string 9 w' w.heap.size (fun _ => True) (.slice Ao3 t156.length co3) t156) ∧ Aside0 (Below w.heap.size w w'))
 case atStart => exact ⟨(([] : List (S26))), (0), sq_, H', ⟨Nat.le_refl _⟩, ⟨by first | exact Kd.R_nil _ _ _ _ _ | exact Kd.N_nil _ _ _ _ _ | exact Kd.V_nil _ _ _ _ _ | exact Kd.Q_nil _ _ _ _ _ | exact Kd.S_nil _ _ _ _ _⟩, ⟨by (with_reducible repeat (first | apply Kd.R_alloc | apply Kd.R_drewN | apply Kd.R_drew)); exact HO158.out⟩, ⟨bq_⟩⟩
 case round =>
  clear H'
  try clear c2
  try clear p2
  obtain ⟨x1_1, x8_1, rfl, HA, HK1, HO_1, HO_6, HB⟩ := hrel
  cases gk with
  | zero => exact absurd HA.out (by simp [cidr_Forbidden.l0])
  | succ k1 =>
   have H := HA.out
   clear HA
   simp only [cidr_Forbidden.l0] at H
   by_cases c4 : x8_1 < (t156.length : Int)
   ·rw [if_pos c4] at H
    have c4b0 := decide_eq_true c4
    clear c4
    by_cases c5 : 0 ≤ x8_1
    ·rw [if_pos c5] at H
     have c5b0 := decide_eq_true c5
     clear c5
     by_cases c6 : x8_1 < (t156.length : Int)
     ·rw [if_pos c6] at H
      have c6b0 := decide_eq_true c6
      clear c6
      replace H := Option.bind_eq_some_iff.mp H
      obtain ⟨⟨t160, t161, t162, t163, t164, t165, t166, t167, t168, t169, t170, t171, t172, t173, t174, t175, t176, t177, t178⟩, A70, H⟩ := H
      (try dsimp only at H)
      have A7 := Aside0.mk A70
      clear A70
      by_cases c8 : x1_1.length < 4398046511104
      ·rw [if_pos c8] at H
       have LMc8 := Aside0.mk c8
       clear c8
       obtain ⟨y180, hy180⟩ : ∃ y_ : List (S26), y_ = (x1_1 ++ [(⟨(⟨t160, (⟨t161, t162, t163, t164, t165, t166, t167, t168, t169, t170, t171, t172, t173, t174, t175, t176⟩ : S22)⟩ : S24), t177⟩ : S26)]) := ⟨_, rfl⟩
       replace H : (cidr_Forbidden.l0 k1 y180 t156 (t156.length : Int) (wrap64 (x8_1 + 1))) = some r := by first | (rw [hy180]; with_reducible exact H) | (have H2_ := (Option.bind_some _ _).symm.trans H; rw [hy180]; with_reducible exact H2_) | (have H2_ := (Option.bind_some _ _).symm.trans H; with_reducible exact H2_) | with_reducible exact H | (rw [hy180]; exact H) | exact H
       have Ny180 := Aside0.mk hy180
       clear hy180
       have H' := Aside0.mk H
       clear H
       have p159 : 0 ≤ (x8_1 : Int) := of_decide_eq_true as_
       have q159 : x8_1 < (t156.length : Int) := of_decide_eq_true as_
       obtain ⟨ad159, e159, hx159_0⟩ := Kd.at_string (Kd.R_reads' HO_6.out).2.2 x8_1 p159 q159
       cases e159
       replace p159 := eq_true p159
       replace q159 := eq_true q159
       go_wp2_with (first | ((with_reducible refine gate_callee (f := 8) rfl ?_); refine goesL_ (some 14) rfl rfl Tryz.func8 (by kernel_rfl) rfl #[.string (rdOf ByteArray.empty t156 x8_1)] rfl lq_ ?_; (with_reducible refine (cidr_Parse.calls k1 (rdOf ByteArray.empty t156 x8_1) t160 t161 t162 t163 t164 t165 t166 t167 t168 t169 t170 t171 t172 t173 t174 t175 t176 t177 t178 _ ?side1 A7.out).mono ?_); (case side1 => exact lw_); rintro e w9 ⟨rfl, hb⟩; refine ⟨_, rfl, ?_⟩; replace HO_1 := Aside0.mk (Kd.R_below (by (with_reducible repeat (first | apply Kd.R_alloc | apply Kd.R_drewN | apply Kd.R_drew)); exact HO_1.out) hb); replace HO_6 := Aside0.mk (Kd.R_below (by (with_reducible repeat (first | apply Kd.R_alloc | apply Kd.R_drewN | apply Kd.R_drew)); exact HO_6.out) hb); replace HB := Aside0.mk (below_step bq_ hb); (try clear hb); (try clear hb2); (try clear hk); (try clear hi)) | ((with_reducible refine gate_dst (N := 4) rfl ?_); refine bx_ 4 (nr_ false 0 0 0 0 0 0 0 0 0 0 0 0 0 0 0 0 0) 26 ?_; intro gb179 hg w10 hbox hb; replace HO_1 := Aside0.mk (Kd.R_below (Kd.R_elderB (by (with_reducible repeat (first | apply Kd.R_alloc | apply Kd.R_drewN | apply Kd.R_drew)); exact HO_1.out) gb179 (Nat.le_of_eq hg.symm)) hb); replace HO_6 := Aside0.mk (Kd.R_below (by (with_reducible repeat (first | apply Kd.R_alloc | apply Kd.R_drewN | apply Kd.R_drew)); exact HO_6.out) hb); have BK179 := Aside0.mk (hbox); have GW179 := Aside0.mk (ge_ (w := w) hg); have GE179 := Aside0.mk (ge_ (w := w) hg); replace HB := Aside0.mk (below_step bq_ hb); clear hb hbox hg; obtain ⟨hcz11_0, hcz11_1, hcz11_2, hcz11_3, hcz11_4, hcz11_5, hcz11_6, hcz11_7, hcz11_8, hcz11_9, hcz11_10, hcz11_11, hcz11_12, hcz11_13, hcz11_14, hcz11_15, hcz11_16, hcz11_17⟩ := c18_ BK179; have hfz11_0 := bf_ BK179 0; have hfz11_1 := bf_ BK179 1; have hfz11_2 := bf_ BK179 2; have hfz11_3 := bf_ BK179 3; have hfz11_4 := bf_ BK179 4; have hfz11_5 := bf_ BK179 5; have hfz11_6 := bf_ BK179 6; have hfz11_7 := bf_ BK179 7; have hfz11_8 := bf_ BK179 8; have hfz11_9 := bf_ BK179 9; have hfz11_10 := bf_ BK179 10; have hfz11_11 := bf_ BK179 11; have hfz11_12 := bf_ BK179 12; have hfz11_13 := bf_ BK179 13; have hfz11_14 := bf_ BK179 14; have hfz11_15 := bf_ BK179 15; have hfz11_16 := bf_ BK179 16; have hfz11_17 := bf_ BK179 17) | ((with_reducible refine gate_store (t := 26) (p := 4) rfl ?_); refine store_all ?hg 26 4 _ rfl rfl gb179 (nt_ false 0 0 0 0 0 0 0 0 0 0 0 0 0 0 0 0 0) (nt_ t160 t161 t162 t163 t164 t165 t166 t167 t168 t169 t170 t171 t172 t173 t174 t175 t176 t177) BK179.out rfl rfl rfl (by kernel_rfl) rfl ?_; (case hg => rfl); intro w12 hw; have n0_ : Aside0 (Kd.R k26 26 w12 w.heap.size (fun k_ => k_ ≠ gb179) u1 x1_1) := ⟨(by rw [hw]; exact (by (with_reducible repeat (first | apply Kd.R_alloc | apply Kd.R_drewN | apply Kd.R_drew)); exact Kd.R_mono (R_farC (g := gb179) (fun _ hk => hk.2) (Kd.R_mono HO_1.out (fun k_ hk => (⟨hk, hk.2⟩ : _ ∧ k_ ≠ gb179))) (nt_ t160 t161 t162 t163 t164 t165 t166 t167 t168 t169 t170 t171 t172 t173 t174 t175 t176 t177) 0) (fun _ hk => hk.1.2)))⟩; have n1_ : Aside0 (Kd.R Kd.string 9 w12 w.heap.size (fun _ => True) (.slice (some ad159) t156.length co3) t156) := ⟨(by rw [hw]; exact (by (with_reducible repeat (first | apply Kd.R_alloc | apply Kd.R_drewN | apply Kd.R_drew)); exact Kd.R_mono (R_farC (g := gb179) (fun _ hk => hk.2) (Kd.R_types HO_6.out BK179.out (by decide)) (nt_ t160 t161 t162 t163 t164 t165 t166 t167 t168 t169 t170 t171 t172 t173 t174 t175 t176 t177) 0) (fun _ hk => trivial)))⟩; have n2_ := Aside0.mk (show w12.heap[gb179]? = some (.cells (nr_ t160 t161 t162 t163 t164 t165 t166 t167 t168 t169 t170 t171 t172 t173 t174 t175 t176 t177) 26 (0, 0)) from ss_ BK179 hw); have n3_ := Aside0.mk (sb_ hw); clear hw; clear HO_1; clear HO_6; clear BK179; clear HB; have HO_1 := n0_; have HO_6 := n1_; have BK179 := n2_; have HB := n3_; clear n0_ n1_ n2_ n3_) | ((with_reducible refine gate_dst (N := 18) rfl ?_); (try (refine gate_guard (by rfl) ?_; dsimp only)); refine load_box ?hg 26 (.tmp 4) rfl BK179.out [] (nt_ t160 t161 t162 t163 t164 t165 t166 t167 t168 t169 t170 t171 t172 t173 t174 t175 t176 t177) [] rfl 0 rfl rfl Tryz.underlying26 rfl (by kernel_rfl) ?_; (case hg => rfl)) | ((with_reducible refine gate_builtin (b := .append) (xs := #[.tmp 17, .tmp 19]) rfl ?_); at_builtin; refine Kd.R_append k26 (w0 := w) w.heap.size rfl (.tmp 17) (.tmp 19) 48 26 (.agg #[(.bool false), (.int .u8 0), (.int .u8 0), (.int .u8 0), (.int .u8 0), (.int .u8 0), (.int .u8 0), (.int .u8 0), (.int .u8 0), (.int .u8 0), (.int .u8 0), (.int .u8 0), (.int .u8 0), (.int .u8 0), (.int .u8 0), (.int .u8 0), (.int .u8 0), (.int .i64 0)]) 32 rfl Tryz.underlying48 info26 rfl (by decide) (by omega) u1 x1_1 (⟨(⟨t160, (⟨t161, t162, t163, t164, t165, t166, t167, t168, t169, t170, t171, t172, t173, t174, t175, t176⟩ : S22)⟩ : S24), t177⟩ : S26) (nt_ t160 t161 t162 t163 t164 t165 t166 t167 t168 t169 t170 t171 t172 t173 t174 t175 t176 t177) (fun k_ => k_ ≠ gb179) (fun _ => False) rfl rfl ?aP (fun _ hk => hk.elim) ?aF ?aO ?aB ?aS ?aL ?_; (case aP => exact k26_mkM _ _ _ (⟨(⟨t160, (⟨t161, t162, t163, t164, t165, t166, t167, t168, t169, t170, t171, t172, t173, t174, t175, t176⟩ : S22)⟩ : S24), t177⟩ : S26)); (case aB => exact bg_); (case aF => exact (fun k_ hk => Kd.freshB (g := gb179) (o := .cells (nr_ t160 t161 t162 t163 t164 t165 t166 t167 t168 t169 t170 t171 t172 t173 t174 t175 t176 t177) 26 (0, 0)) bk_ k_ hk)); (case aO => exact (by (with_reducible repeat (first | apply Kd.R_alloc | apply Kd.R_drewN | apply Kd.R_drew)); exact HO_1.out)); (case aS => exact (below_size bg_)); (case aL => have := LMc8.out; omega); intro v181 w13 ho hb hg hat; rw [← Ny180.out] at ho; replace HO_6 := Aside0.mk (Kd.R_over' (by (with_reducible repeat (first | apply Kd.R_alloc | apply Kd.R_drewN | apply Kd.R_drew)); exact HO_6.out) (Kd.R_typed (by (with_reducible repeat (first | apply Kd.R_alloc | apply Kd.R_drewN | apply Kd.R_drew)); exact HO_1.out)) (by decide) hg); replace BK179 := Aside0.mk (blk_grown (g := gb179) (o := .cells (nr_ t160 t161 t162 t163 t164 t165 t166 t167 t168 t169 t170 t171 t172 t173 t174 t175 t176 t177) 26 (0, 0)) bk_ hg (Kd.R_away HO_1.out (fun _ hk => hk))); have HO182 := Aside0.mk (ho); replace HB := Aside0.mk (hb); clear HO_1; clear ho hb hg hat))
       go_roundg k1
       case measure => have := HK1.out; omega
       case rel => exact ⟨(y180), (wrap64 (x8_1 + 1)), sq_, H', ⟨by have := HK1.out; omega⟩, ⟨by (with_reducible repeat (first | apply Kd.R_alloc | apply Kd.R_drewN | apply Kd.R_drew)); exact Kd.R_mono HO182.out (fun _ hk => trivial)⟩, ⟨by (with_reducible repeat (first | apply Kd.R_alloc | apply Kd.R_drewN | apply Kd.R_drew)); exact HO_6.out⟩, ⟨bg_⟩⟩
      ·rw [if_neg c8] at H
       exact absurd H (by simp)
     ·rw [if_neg c6] at H
      exact absurd H (by simp)
    ·rw [if_neg c5] at H
     exact absurd H (by simp)
   ·rw [if_neg c4] at H
    have c4b0 := decide_eq_false c4
    clear c4
    obtain rfl := Option.some.inj H
    go_wp2
    go_ret
    exact ⟨_, rq_, by (with_reducible repeat (first | apply Kd.R_alloc | apply Kd.R_drewN | apply Kd.R_drew)); exact HO_1.out, bq_⟩

-- NOT PRINTED: function 56 (api_Net_56)

-- NOT PRINTED: function 36 (api_Net_36)

-- NOT PRINTED: function 19 (cidr_Allow)

-- NOT PRINTED: function 7 (lanternlaw06_awake)

-- NOT PRINTED: function 3 (lanternlaw06_CidrPrints)

end Go.Proofs.YtdopafhppaalfaaGreatDoor.G
