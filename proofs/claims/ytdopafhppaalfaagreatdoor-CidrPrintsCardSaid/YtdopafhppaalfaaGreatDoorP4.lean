-- Written by a program of this session (wip/gen/lprint.py over the kit's print.py) out of the translation. Lean checks it.
import Derived.Test.YtdopafhppaalfaaGreatDoorP0
import Derived.Test.YtdopafhppaalfaaGreatDoorP2
import Derived.Test.YtdopafhppaalfaaGreatDoorP3
import Derived.Test.YtdopafhppaalfaaGreatDoorZ
namespace Go.Proofs.YtdopafhppaalfaaGreatDoor.P
open Go.Proofs.YtdopafhppaalfaaGreatDoorZ
open Go.Proofs.YtdopafhppaalfaaGreatDoor.E Go.Proofs.YtdopafhppaalfaaGreatDoorV
open Go.RowKit Go.Proofs.YtdopafhppaalfaaGreatDoorW.PrintWords Go.Proofs.YtdopafhppaalfaaGreatDoorW.PrintLast Go.Proofs.YtdopafhppaalfaaGreatDoorW.PrintMore
attribute [local go_sem] max2_int min2_int max_two min_two max_three min_three max_four min_four   -- for this text's walks alone
set_option linter.unusedVariables false
set_option linter.unusedSimpArgs false

def ip_Print.l0 : Nat → List Int → Int → Bool → Int → Int → Int → Int → Int → Int → Int → Int → Int → Int → Int → Int → Int → Int → Int → Int → Option (ByteArray × Int)
 | 0, _, _, _, _, _, _, _, _, _, _, _, _, _, _, _, _, _, _, _ => none
 | k + 1, x5, x6, V0, V1, V2, V3, V4, V5, V6, V7, V8, V9, V10, V11, V12, V13, V14, V15, V16 => if x6 < 16 then (if 0 ≤ x6 then (if 0 ≤ (wrap64 (x6 + 1)) then (if (wrap64 (x6 + 1)) < 16 then (if x5.length < 17592186044416 then (ip_Print.l0 k (x5 ++ [Go.bits .or .i64 (wrap64 ((wrap64 (rd [V1, V2, V3, V4, V5, V6, V7, V8, V9, V10, V11, V12, V13, V14, V15, V16] x6)) * 256)) (wrap64 (rd [V1, V2, V3, V4, V5, V6, V7, V8, V9, V10, V11, V12, V13, V14, V15, V16] (wrap64 (x6 + 1))))]) (wrap64 (x6 + 2)) V0 V1 V2 V3 V4 V5 V6 V7 V8 V9 V10 V11 V12 V13 V14 V15 V16) else (none)) else (none)) else (none)) else (none)) else ((ip_longest.f k x5).bind fun bt161 => (if bt161.2 < 2 then ((ip_hex.f k x5).bind fun t163 => (some (t163, 0))) else (if 0 ≤ bt161.1 then (if bt161.1 ≤ (x5.length : Int) then ((ip_hex.f k (x5.take (bt161.1 : Int).toNat)).bind fun t168 => (if t168.size + 2 ≤ 9223372036854775807 then (if 0 ≤ (wrap64 (bt161.1 + bt161.2)) then (if (wrap64 (bt161.1 + bt161.2)) ≤ (x5.length : Int) then ((ip_hex.f k (x5.drop ((wrap64 (bt161.1 + bt161.2)) : Int).toNat)).bind fun t173 => (if (t168 ++ (⟨#[58, 58]⟩ : ByteArray)).size + t173.size ≤ 9223372036854775807 then (some ((t168 ++ (⟨#[58, 58]⟩ : ByteArray)) ++ t173, 0)) else (none))) else (none)) else (none)) else (none))) else (none)) else (none))))
def ip_Print.f (k : Nat) (z0 : Bool) (z1 : Int) (z2 : Int) (z3 : Int) (z4 : Int) (z5 : Int) (z6 : Int) (z7 : Int) (z8 : Int) (z9 : Int) (za : Int) (zb : Int) (zc : Int) (zd : Int) (ze : Int) (zf : Int) (zg : Int) : Option (ByteArray × Int) := (ip_Check.f z0 z1 z2 z3 z4 z5 z6 z7 z8 z9 za zb zc zd ze zf zg).bind fun t150 => (if t150 = 0 then (if z0 = true then ((ip_mapped.f z0 z1 z2 z3 z4 z5 z6 z7 z8 z9 za zb zc zd ze zf zg).bind fun t153 => (if t153 = true then ((ip_dots.f k ([zd, ze, zf, zg] : List Int)).bind fun t155 => (if 7 + t155.size ≤ 9223372036854775807 then (some ((⟨#[58, 58, 102, 102, 102, 102, 58]⟩ : ByteArray) ++ t155, 0)) else (none))) else (ip_Print.l0 k ([] : List Int) 0 z0 z1 z2 z3 z4 z5 z6 z7 z8 z9 za zb zc zd ze zf zg))) else ((ip_dots.f k ([zd, ze, zf, zg] : List Int)).bind fun t152 => (some (t152, 0)))) else (some ((⟨#[]⟩ : ByteArray), t150)))
theorem ip_Print.mono_l : ∀ k, (∀ y0 y1 y2 y3 y4 y5 y6 y7 y8 y9 y10 y11 y12 y13 y14 y15 y16 y17 y18, LeO (ip_Print.l0 k y0 y1 y2 y3 y4 y5 y6 y7 y8 y9 y10 y11 y12 y13 y14 y15 y16 y17 y18) (ip_Print.l0 (k + 1) y0 y1 y2 y3 y4 y5 y6 y7 y8 y9 y10 y11 y12 y13 y14 y15 y16 y17 y18))
 | 0 => fun _ _ _ _ _ _ _ _ _ _ _ _ _ _ _ _ _ _ _ r h => by simp [ip_Print.l0] at h
 | k + 1 => by
  have ih0 := ip_Print.mono_l k
  ·intro y0 y1 y2 y3 y4 y5 y6 y7 y8 y9 y10 y11 y12 y13 y14 y15 y16 y17 y18
   unfold ip_Print.l0
   repeat' first
   | (with_reducible exact ih0 _ _ _ _ _ _ _ _ _ _ _ _ _ _ _ _ _ _ _)
   | (with_reducible exact ip_dots.mono _ _)
   | (with_reducible exact ip_hex.mono _ _)
   | (with_reducible exact ip_longest.mono _ _)
   | (with_reducible exact LeO.refl _)
   | (with_reducible exact LeO.none _)
   | (with_reducible refine LeO.ite ?_ ?_)
   | (with_reducible refine LeO.bind ?_ (fun _ => ?_))
   | exact ih0 _ _ _ _ _ _ _ _ _ _ _ _ _ _ _ _ _ _ _
   | exact ip_dots.mono _ _
   | exact ip_hex.mono _ _
   | exact ip_longest.mono _ _
   | exact LeO.none _
   | refine LeO.ite ?_ ?_
   | refine LeO.bind ?_ (fun _ => ?_)
theorem ip_Print.mono : ∀ a0 a1 a2 a3 a4 a5 a6 a7 a8 a9 a10 a11 a12 a13 a14 a15 a16 k, LeO (ip_Print.f k a0 a1 a2 a3 a4 a5 a6 a7 a8 a9 a10 a11 a12 a13 a14 a15 a16) (ip_Print.f (k + 1) a0 a1 a2 a3 a4 a5 a6 a7 a8 a9 a10 a11 a12 a13 a14 a15 a16) := by
 intro a0 a1 a2 a3 a4 a5 a6 a7 a8 a9 a10 a11 a12 a13 a14 a15 a16 k
 have ih0 := ip_Print.mono_l k
 unfold ip_Print.f
 repeat' first
   | (with_reducible exact ih0 _ _ _ _ _ _ _ _ _ _ _ _ _ _ _ _ _ _ _)
   | (with_reducible exact ip_dots.mono _ _)
   | (with_reducible exact ip_hex.mono _ _)
   | (with_reducible exact ip_longest.mono _ _)
   | (with_reducible exact LeO.refl _)
   | (with_reducible exact LeO.none _)
   | (with_reducible refine LeO.ite ?_ ?_)
   | (with_reducible refine LeO.bind ?_ (fun _ => ?_))
   | exact ih0 _ _ _ _ _ _ _ _ _ _ _ _ _ _ _ _ _ _ _
   | exact ip_dots.mono _ _
   | exact ip_hex.mono _ _
   | exact ip_longest.mono _ _
   | exact LeO.none _
   | refine LeO.ite ?_ ?_
   | refine LeO.bind ?_ (fun _ => ?_)
def ip_Print.T12 : Bool × List (List Nat × List Nat) := (true, [([], []), ([], []), ([], []), ([2, 1], [1, 2]), ([3], [3]), ([4], [4]), ([5], [5]), ([], []), ([7], [7]), ([], []), ([9, 8], [8, 9]), ([10], [10]), ([11], [11]), ([6, 12], [6, 12]), ([13], [13]), ([0, 14], [0, 14]), ([15, 15, 0, 1, 2, 3, 4, 5, 6, 7, 8, 9, 10, 11, 12, 13, 14, 15], [0, 15])])
def ip_Print.B12 : List Nat := [0, 0, 0, 6, 14, 30, 62, 0, 128, 0, 896, 1920, 3968, 8190, 16382, 32767, 65535]
theorem ip_Print.tab12 : rtab .any (opsOf Tryz.f10 12) = ip_Print.T12 := by kernel_rfl
theorem ip_Print.bits12 : waitsOk ip_Print.T12.2 ip_Print.B12 = true := by kernel_rfl
def ip_Print.T16 : Bool × List (List Nat × List Nat) := (true, [([], []), ([], []), ([0, 1], [0, 1]), ([2], [2]), ([3], [3]), ([], []), ([], []), ([], []), ([6, 7], [6, 7]), ([5, 8], [5, 8]), ([9, 3], [9]), ([4, 10], [4, 10]), ([11, 10, 0, 1, 2, 3, 4, 5, 6, 7, 8, 9, 10, 11], [11]), ([12, 0, 1, 2, 3, 4, 5, 6, 7, 8, 9, 10, 11, 12], [])])
def ip_Print.B16 : List Nat := [0, 0, 3, 7, 15, 0, 0, 0, 192, 480, 1007, 2047, 4095, 8191]
theorem ip_Print.tab16 : rtab .any (opsOf Tryz.f10 16) = ip_Print.T16 := by kernel_rfl
theorem ip_Print.bits16 : waitsOk ip_Print.T16.2 ip_Print.B16 = true := by kernel_rfl
set_option maxHeartbeats 8000000 in
set_option maxRecDepth 100000 in
theorem ip_Print.calls (k : Nat) (z0 : Bool) (z1 : Int) (z2 : Int) (z3 : Int) (z4 : Int) (z5 : Int) (z6 : Int) (z7 : Int) (z8 : Int) (z9 : Int) (za : Int) (zb : Int) (zc : Int) (zd : Int) (ze : Int) (zf : Int) (zg : Int) (r1 : ByteArray) (r2 : Int) (w : World) (hLW : LW w) (h : ip_Print.f k z0 z1 z2 z3 z4 z5 z6 z7 z8 z9 za zb zc zd ze zf zg = some (r1, r2)) :
  Calls Tryz.prog 10 #[.agg (ag_ z0 z1 z2 z3 z4 z5 z6 z7 z8 z9 za zb zc zd ze zf zg)] w fun e w' => e = .returned (.tuple #[.string r1, .int .i64 r2]) ∧ Below w.heap.size w w' := by
 have hu24 := Tryz.underlying24
 have HLW := Aside0.mk hLW
 clear hLW
 have HB := Aside0.mk (Below.refl w.heap.size w)
 have H := h
 unfold ip_Print.f at H
 clear h
 replace H := Option.bind_eq_some_iff.mp H
 obtain ⟨t150, A20, H⟩ := H
 (try dsimp only at H)
 have A2 := Aside0.mk A20
 clear A20
 by_cases c3 : t150 = 0
 ·rw [if_pos c3] at H
  have c3b0 := beq_iff_eq.mpr c3
  have c3b1 := bne_eq_false_iff_eq.mpr c3
  clear c3
  by_cases c4 : z0 = true
  ·subst c4
   replace H := ifT_ H
   replace H := Option.bind_eq_some_iff.mp H
   obtain ⟨t153, A50, H⟩ := H
   (try dsimp only at H)
   have A5 := Aside0.mk A50
   clear A50
   by_cases c6 : t153 = true
   ·subst c6
    replace H := ifT_ H
    replace H := Option.bind_eq_some_iff.mp H
    obtain ⟨t155, A70, H⟩ := H
    (try dsimp only at H)
    have A7 := Aside0.mk A70
    clear A70
    by_cases c8 : 7 + t155.size ≤ 9223372036854775807
    ·rw [if_pos c8] at H
     have c8b0 := eq_true c8
     have c8b1 := decide_eq_true c8
     try have c8b2 : (9223372036854775807 < 7 + t155.size) = False := eq_false (Nat.not_lt.2 c8)
     simp only [Option.some.injEq, Prod.mk.injEq] at H
     obtain ⟨rfl, rfl⟩ := H
     go_enter Tryz.func10, Tryz.ntmps10
     go_wp2_with (first | ((with_reducible refine gate_dst (N := 1) rfl ?_); refine bx_ 1 (ag_ true z1 z2 z3 z4 z5 z6 z7 z8 z9 za zb zc zd ze zf zg) 24 ?_; intro gb149 hg w9 hbox hb; have BK149 := Aside0.mk (hbox); have GW149 := Aside0.mk (ge_ (w := w) hg); have GE149 := Aside0.mk (ge_ (w := w) hg); replace HB := Aside0.mk (below_step bq_ hb); clear hb hbox hg) | ((with_reducible refine gate_dst (N := 9) rfl ?_); (try (refine gate_guard (by rfl) ?_; dsimp only)); refine load_box ?hg 24 (.tmp 1) rfl BK149.out [] (al_ true z1 z2 z3 z4 z5 z6 z7 z8 z9 za zb zc zd ze zf zg) [] rfl 0 rfl rfl Tryz.underlying24 rfl (by kernel_rfl) ?_; (case hg => rfl)) | ((with_reducible refine gate_callee (f := 16) rfl ?_); refine goesL_ (some 10) rfl rfl Tryz.func16 (by kernel_rfl) rfl #[.agg (ag_ true z1 z2 z3 z4 z5 z6 z7 z8 z9 za zb zc zd ze zf zg)] rfl lq_ ?_; (with_reducible refine (ip_Check.calls true z1 z2 z3 z4 z5 z6 z7 z8 z9 za zb zc zd ze zf zg t150 _ ?side1 A2.out).mono ?_); (case side1 => exact lg_); rintro e w10 ⟨rfl, hb⟩; refine ⟨_, rfl, ?_⟩; replace BK149 := Aside0.mk (bb_ BK149 hb); replace HB := Aside0.mk (below_step bg_ hb); (try clear hb); (try clear hb2); (try clear hk); (try clear hi); obtain ⟨hcz11_0, hcz11_1, hcz11_2, hcz11_3, hcz11_4, hcz11_5, hcz11_6, hcz11_7, hcz11_8, hcz11_9, hcz11_10, hcz11_11, hcz11_12, hcz11_13, hcz11_14, hcz11_15, hcz11_16⟩ := c17_ BK149; obtain ⟨hfz11_0, hfz11_1, hfz11_2, hfz11_3, hfz11_4, hfz11_5, hfz11_6, hfz11_7, hfz11_8, hfz11_9, hfz11_10, hfz11_11, hfz11_12, hfz11_13, hfz11_14, hfz11_15, hfz11_16⟩ := f17_ BK149) | ((with_reducible refine gate_dst (N := 20) rfl ?_); (try (refine gate_guard (by rfl) ?_; dsimp only)); refine load_box ?hg 24 (.tmp 1) rfl BK149.out [] (al_ true z1 z2 z3 z4 z5 z6 z7 z8 z9 za zb zc zd ze zf zg) [] rfl 0 rfl rfl Tryz.underlying24 rfl (by kernel_rfl) ?_; (case hg => rfl)) | ((with_reducible refine gate_callee (f := 27) rfl ?_); refine goesL_ (some 21) rfl rfl Tryz.func27 (by kernel_rfl) rfl #[.agg (ag_ true z1 z2 z3 z4 z5 z6 z7 z8 z9 za zb zc zd ze zf zg)] rfl lq_ ?_; (with_reducible refine (ip_mapped.calls true z1 z2 z3 z4 z5 z6 z7 z8 z9 za zb zc zd ze zf zg true _ ?side1 A5.out).mono ?_); (case side1 => exact lg_); rintro e w12 ⟨rfl, hb⟩; refine ⟨_, rfl, ?_⟩; replace BK149 := Aside0.mk (bb_ BK149 hb); replace HB := Aside0.mk (below_step bg_ hb); (try clear hb); (try clear hb2); (try clear hk); (try clear hi); have HR154 := Aside0.mk (C_arr BK149.out .u8 [.bool true, .int .u8 z1, .int .u8 z2, .int .u8 z3, .int .u8 z4, .int .u8 z5, .int .u8 z6, .int .u8 z7, .int .u8 z8, .int .u8 z9, .int .u8 za, .int .u8 zb, .int .u8 zc] [zd, ze, zf, zg] [] rfl (q := 13) rfl (by show 4 ≤ 9223372036854775807; decide)); have HC154 := Aside0.mk (show ([zd, ze, zf, zg] : List Int).length ≤ 4 from by show 4 ≤ 4; decide); have hl154 : ([zd, ze, zf, zg] : List Int).length = 4 := rfl) | ((with_reducible refine gate_callee (f := 26) rfl ?_); refine goesL_ (some 24) rfl rfl Tryz.func26 (by kernel_rfl) rfl #[.slice (some ⟨gb149, 13, none⟩) ([zd, ze, zf, zg] : List Int).length 4] rfl (by (try simp only [List.map_toArray, List.map_cons, List.map_nil]); first | done | (rw [show ([zd, ze, zf, zg] : List Int).length = 4 from rfl] <;> rfl) | rfl | (simp only [List.length_drop, List.length_take]; rfl)) ?_; (with_reducible refine (ip_dots.calls k _ _ ([zd, ze, zf, zg] : List Int) t155 _ ?side3 ?side1 ?side2 A7.out).mono ?_); (case side1 => repeat (first | exact (by repeat (first | (with_reducible exact HR154.out) | (with_reducible refine Kd.C_alloc ?_ _) | (with_reducible refine Kd.C_drewN ?_ _) | (with_reducible refine Kd.C_drew ?_) | exact HR154.out)) | (with_reducible refine Kd.C_alloc ?_ _) | (with_reducible refine Kd.C_drewN ?_ _) | (with_reducible refine Kd.C_drew ?_))); (case side2 => exact HC154.out); (case side3 => exact lg_); rintro e w13 ⟨rfl, hb⟩; refine ⟨_, rfl, ?_⟩; replace BK149 := Aside0.mk (bb_ BK149 hb); replace HR154 := Aside0.mk (cb_ HR154 hb); replace HB := Aside0.mk (below_step bg_ hb); (try clear hb); (try clear hb2); (try clear hk); (try clear hi)))
     go_ret2
     exact ⟨rq_, bg_⟩
    ·rw [if_neg c8] at H
     exact absurd H (by simp)
   ·replace c6 := Bool.eq_false_iff.mpr c6
    subst c6
    replace H := ifF_ H
    have H' := Aside0.mk H
    clear H
    go_enter Tryz.func10, Tryz.ntmps10
    go_wp2_with (first | ((with_reducible refine gate_dst (N := 1) rfl ?_); refine bx_ 1 (ag_ true z1 z2 z3 z4 z5 z6 z7 z8 z9 za zb zc zd ze zf zg) 24 ?_; intro gb149 hg w14 hbox hb; have BK149 := Aside0.mk (hbox); have GW149 := Aside0.mk (ge_ (w := w) hg); have GE149 := Aside0.mk (ge_ (w := w) hg); replace HB := Aside0.mk (below_step bq_ hb); clear hb hbox hg) | ((with_reducible refine gate_dst (N := 9) rfl ?_); (try (refine gate_guard (by rfl) ?_; dsimp only)); refine load_box ?hg 24 (.tmp 1) rfl BK149.out [] (al_ true z1 z2 z3 z4 z5 z6 z7 z8 z9 za zb zc zd ze zf zg) [] rfl 0 rfl rfl Tryz.underlying24 rfl (by kernel_rfl) ?_; (case hg => rfl)) | ((with_reducible refine gate_callee (f := 16) rfl ?_); refine goesL_ (some 10) rfl rfl Tryz.func16 (by kernel_rfl) rfl #[.agg (ag_ true z1 z2 z3 z4 z5 z6 z7 z8 z9 za zb zc zd ze zf zg)] rfl lq_ ?_; (with_reducible refine (ip_Check.calls true z1 z2 z3 z4 z5 z6 z7 z8 z9 za zb zc zd ze zf zg t150 _ ?side1 A2.out).mono ?_); (case side1 => exact lg_); rintro e w15 ⟨rfl, hb⟩; refine ⟨_, rfl, ?_⟩; replace BK149 := Aside0.mk (bb_ BK149 hb); replace HB := Aside0.mk (below_step bg_ hb); (try clear hb); (try clear hb2); (try clear hk); (try clear hi); obtain ⟨hcz16_0, hcz16_1, hcz16_2, hcz16_3, hcz16_4, hcz16_5, hcz16_6, hcz16_7, hcz16_8, hcz16_9, hcz16_10, hcz16_11, hcz16_12, hcz16_13, hcz16_14, hcz16_15, hcz16_16⟩ := c17_ BK149; obtain ⟨hfz16_0, hfz16_1, hfz16_2, hfz16_3, hfz16_4, hfz16_5, hfz16_6, hfz16_7, hfz16_8, hfz16_9, hfz16_10, hfz16_11, hfz16_12, hfz16_13, hfz16_14, hfz16_15, hfz16_16⟩ := f17_ BK149) | ((with_reducible refine gate_dst (N := 20) rfl ?_); (try (refine gate_guard (by rfl) ?_; dsimp only)); refine load_box ?hg 24 (.tmp 1) rfl BK149.out [] (al_ true z1 z2 z3 z4 z5 z6 z7 z8 z9 za zb zc zd ze zf zg) [] rfl 0 rfl rfl Tryz.underlying24 rfl (by kernel_rfl) ?_; (case hg => rfl)) | ((with_reducible refine gate_callee (f := 27) rfl ?_); refine goesL_ (some 21) rfl rfl Tryz.func27 (by kernel_rfl) rfl #[.agg (ag_ true z1 z2 z3 z4 z5 z6 z7 z8 z9 za zb zc zd ze zf zg)] rfl lq_ ?_; (with_reducible refine (ip_mapped.calls true z1 z2 z3 z4 z5 z6 z7 z8 z9 za zb zc zd ze zf zg false _ ?side1 A5.out).mono ?_); (case side1 => exact lg_); rintro e w17 ⟨rfl, hb⟩; refine ⟨_, rfl, ?_⟩; replace BK149 := Aside0.mk (bb_ BK149 hb); replace HB := Aside0.mk (below_step bg_ hb); (try clear hb); (try clear hb2); (try clear hk); (try clear hi)))
    go_loopg [5, 6] k (fun kq v5 v6 w' => ∃ (x5_1 : List Int) (x6_1 : Int), v6 = .int .i64 x6_1 ∧ Aside0 (ip_Print.l0 kq x5_1 x6_1 true z1 z2 z3 z4 z5 z6 z7 z8 z9 za zb zc zd ze zf zg = some (r1, r2)) ∧ Aside0 (kq ≤ k) ∧ Aside0 (Kd.R (Kd.int .i64) 3 w' w.heap.size (fun _ => True) v5 x5_1) ∧ Aside0 (w'.heap[gb149]? = some (.cells (ag_ true z1 z2 z3 z4 z5 z6 z7 z8 z9 za zb zc zd ze zf zg) 24 (0, 0))) ∧ Aside0 (Below w.heap.size w w'))
    case atStart => exact ⟨(([] : List Int)), (0), sq_, H', ⟨Nat.le_refl _⟩, ⟨by first | exact Kd.R_nil _ _ _ _ _ | exact Kd.N_nil _ _ _ _ _ | exact Kd.V_nil _ _ _ _ _ | exact Kd.Q_nil _ _ _ _ _ | exact Kd.S_nil _ _ _ _ _⟩, ⟨bk_⟩, ⟨bg_⟩⟩
    case round =>
     clear H'
     try clear c1
     try clear c2
     try clear p2
     try clear c3
     try clear c3b0
     try clear c3b1
     try clear c4
     try clear c6
     try clear c8
     try clear c8b0
     try clear c8b1
     try clear c8b2
     try clear c10
     try clear c16
     try clear hcz11_0
     try clear hcz11_1
     try clear hcz11_10
     try clear hcz11_11
     try clear hcz11_12
     try clear hcz11_13
     try clear hcz11_14
     try clear hcz11_15
     try clear hcz11_16
     try clear hcz11_2
     try clear hcz11_3
     try clear hcz11_4
     try clear hcz11_5
     try clear hcz11_6
     try clear hcz11_7
     try clear hcz11_8
     try clear hcz11_9
     try clear hcz16_0
     try clear hcz16_1
     try clear hcz16_10
     try clear hcz16_11
     try clear hcz16_12
     try clear hcz16_13
     try clear hcz16_14
     try clear hcz16_15
     try clear hcz16_16
     try clear hcz16_2
     try clear hcz16_3
     try clear hcz16_4
     try clear hcz16_5
     try clear hcz16_6
     try clear hcz16_7
     try clear hcz16_8
     try clear hcz16_9
     try clear hfz11_0
     try clear hfz11_1
     try clear hfz11_10
     try clear hfz11_11
     try clear hfz11_12
     try clear hfz11_13
     try clear hfz11_14
     try clear hfz11_15
     try clear hfz11_16
     try clear hfz11_2
     try clear hfz11_3
     try clear hfz11_4
     try clear hfz11_5
     try clear hfz11_6
     try clear hfz11_7
     try clear hfz11_8
     try clear hfz11_9
     try clear hfz16_0
     try clear hfz16_1
     try clear hfz16_10
     try clear hfz16_11
     try clear hfz16_12
     try clear hfz16_13
     try clear hfz16_14
     try clear hfz16_15
     try clear hfz16_16
     try clear hfz16_2
     try clear hfz16_3
     try clear hfz16_4
     try clear hfz16_5
     try clear hfz16_6
     try clear hfz16_7
     try clear hfz16_8
     try clear hfz16_9
     obtain ⟨x5_1, x6_1, rfl, HA, HK1, HO_5, BK149, HB⟩ := hrel
     cases gk with
     | zero => exact absurd HA.out (by simp [ip_Print.l0])
     | succ k1 =>
      have H := HA.out
      clear HA
      simp only [ip_Print.l0] at H
      by_cases c18 : x6_1 < 16
      ·rw [if_pos c18] at H
       have c18b0 := decide_eq_true c18
       clear c18
       by_cases c19 : 0 ≤ x6_1
       ·rw [if_pos c19] at H
        have c19b0 := decide_eq_true c19
        clear c19
        obtain ⟨ji20, hji20⟩ : ∃ j_ : Int, (wrap64 (x6_1 + 1)) = j_ := ⟨_, rfl⟩
        replace H : (if 0 ≤ (ji20) then (if (ji20) < 16 then (if x5_1.length < 17592186044416 then (ip_Print.l0 k1 (x5_1 ++ [Go.bits .or .i64 (wrap64 ((wrap64 (rd [z1, z2, z3, z4, z5, z6, z7, z8, z9, za, zb, zc, zd, ze, zf, zg] x6_1)) * 256)) (wrap64 (rd [z1, z2, z3, z4, z5, z6, z7, z8, z9, za, zb, zc, zd, ze, zf, zg] (ji20)))]) (wrap64 (x6_1 + 2)) true z1 z2 z3 z4 z5 z6 z7 z8 z9 za zb zc zd ze zf zg) else (none)) else (none)) else (none)) = some (r1, r2) := by first | (rw [hji20] at H; exact H) | (simp only [hji20] at H ⊢; exact H)
        have hji20w : (IntKind.i64.wrap (x6_1 + 1)) = ji20 := (i64_w _).trans hji20
        by_cases c21 : 0 ≤ (ji20)
        ·rw [if_pos c21] at H
         have c21b0 := decide_eq_true c21
         clear c21
         by_cases c22 : (ji20) < 16
         ·rw [if_pos c22] at H
          have c22b0 := decide_eq_true c22
          clear c22
          by_cases c23 : x5_1.length < 17592186044416
          ·rw [if_pos c23] at H
           have LMc23 := Aside0.mk c23
           clear c23
           obtain ⟨y158, hy158⟩ : ∃ y_ : List Int, y_ = (x5_1 ++ [Go.bits .or .i64 (wrap64 ((wrap64 (rd [z1, z2, z3, z4, z5, z6, z7, z8, z9, za, zb, zc, zd, ze, zf, zg] x6_1)) * 256)) (wrap64 (rd [z1, z2, z3, z4, z5, z6, z7, z8, z9, za, zb, zc, zd, ze, zf, zg] (ji20)))]) := ⟨_, rfl⟩
           replace H : (ip_Print.l0 k1 y158 (wrap64 (x6_1 + 2)) true z1 z2 z3 z4 z5 z6 z7 z8 z9 za zb zc zd ze zf zg) = some (r1, r2) := by first | (rw [hy158]; with_reducible exact H) | (have H2_ := (Option.bind_some _ _).symm.trans H; rw [hy158]; with_reducible exact H2_) | (have H2_ := (Option.bind_some _ _).symm.trans H; with_reducible exact H2_) | with_reducible exact H | (rw [hy158]; exact H) | exact H
           have Ny158 := Aside0.mk hy158
           clear hy158
           have H' := Aside0.mk H
           clear H
           try go_wp2
           replace HO_5 := Aside0.mk (Kd.R_drew HO_5.out)
           replace BK149 := Aside0.mk (blk_drew BK149.out)
           replace HB := Aside0.mk (below_drew1 HB.out)
           have par25 : (0 ≤ x6_1) = True := eq_true (of_decide_eq_true as_)
           have qar25 : (x6_1 < 16) = True := eq_true (of_decide_eq_true as_)
           have par26 : (0 ≤ (ji20)) = True := eq_true (of_decide_eq_true as_)
           have qar26 : ((ji20) < 16) = True := eq_true (of_decide_eq_true as_)
           refine start_ (n := 17) (S := fun w' => w'.cell? ⟨gb149, 0, none⟩ = some (.bool true) ∧ w'.cell? ⟨gb149, 1, none⟩ = some (.int .u8 z1) ∧ w'.cell? ⟨gb149, 2, none⟩ = some (.int .u8 z2) ∧ w'.cell? ⟨gb149, 3, none⟩ = some (.int .u8 z3) ∧ w'.cell? ⟨gb149, 4, none⟩ = some (.int .u8 z4) ∧ w'.cell? ⟨gb149, 5, none⟩ = some (.int .u8 z5) ∧ w'.cell? ⟨gb149, 6, none⟩ = some (.int .u8 z6) ∧ w'.cell? ⟨gb149, 7, none⟩ = some (.int .u8 z7) ∧ w'.cell? ⟨gb149, 8, none⟩ = some (.int .u8 z8) ∧ w'.cell? ⟨gb149, 9, none⟩ = some (.int .u8 z9) ∧ w'.cell? ⟨gb149, 10, none⟩ = some (.int .u8 za) ∧ w'.cell? ⟨gb149, 11, none⟩ = some (.int .u8 zb) ∧ w'.cell? ⟨gb149, 12, none⟩ = some (.int .u8 zc) ∧ w'.cell? ⟨gb149, 13, none⟩ = some (.int .u8 zd) ∧ w'.cell? ⟨gb149, 14, none⟩ = some (.int .u8 ze) ∧ w'.cell? ⟨gb149, 15, none⟩ = some (.int .u8 zf) ∧ w'.cell? ⟨gb149, 16, none⟩ = some (.int .u8 zg) ∧ w'.cell? ⟨gb149, 1 + (x6_1).toNat, none⟩ = some (.int .u8 (rd [z1, z2, z3, z4, z5, z6, z7, z8, z9, za, zb, zc, zd, ze, zf, zg] x6_1)) ∧ w'.cell? ⟨gb149, 1 + ((ji20)).toNat, none⟩ = some (.int .u8 (rd [z1, z2, z3, z4, z5, z6, z7, z8, z9, za, zb, zc, zd, ze, zf, zg] (ji20)))) (ds := []) (bv_ 0 17) (by kernel_rfl) rfl rfl ⟨(blk_cell BK149.out 0).trans rfl, (blk_cell BK149.out 1).trans rfl, (blk_cell BK149.out 2).trans rfl, (blk_cell BK149.out 3).trans rfl, (blk_cell BK149.out 4).trans rfl, (blk_cell BK149.out 5).trans rfl, (blk_cell BK149.out 6).trans rfl, (blk_cell BK149.out 7).trans rfl, (blk_cell BK149.out 8).trans rfl, (blk_cell BK149.out 9).trans rfl, (blk_cell BK149.out 10).trans rfl, (blk_cell BK149.out 11).trans rfl, (blk_cell BK149.out 12).trans rfl, (blk_cell BK149.out 13).trans rfl, (blk_cell BK149.out 14).trans rfl, (blk_cell BK149.out 15).trans rfl, (blk_cell BK149.out 16).trans rfl, (blk_idx BK149.out .u8 [.bool true] [z1, z2, z3, z4, z5, z6, z7, z8, z9, za, zb, zc, zd, ze, zf, zg] [] rfl x6_1 (of_decide_eq_true as_) (of_decide_eq_true as_) rfl), (blk_idx BK149.out .u8 [.bool true] [z1, z2, z3, z4, z5, z6, z7, z8, z9, za, zb, zc, zd, ze, zf, zg] [] rfl (ji20) (of_decide_eq_true as_) (of_decide_eq_true as_) rfl)⟩ (fun hHeld => ?_); refine with_tabW ip_Print.tab12 ip_Print.bits12 (fun HT_ HW_ => ?_)
           generalize wr.drew = w24 at HO_5 BK149 HB hHeld ⊢
           refine pl_ 0 30 ?_ 1 16 HT_ ?_ ?_ ?_ ?_
           rotate_left
           ·intro w'
            go_simp
            with_reducible rfl
           rotate_left
           ·simp only [Act.put, sa_, s0_, s1_, i64_w, i32_w]
            rfl
           refine pl_ 1 31 ?_ 2 15 HT_ ?_ ?_ ?_ ?_
           rotate_left
           ·intro w'
            go_simp
            with_reducible rfl
           rotate_left
           ·simp only [Act.put, sa_, s0_, s1_, i64_w, i32_w]
            rfl
           refine pl_ 2 32 ?_ 3 14 HT_ ?_ ?_ ?_ ?_
           rotate_left
           ·intro w'
            go_simp
            with_reducible rfl
           rotate_left
           ·simp only [Act.put, sa_, s0_, s1_, i64_w, i32_w]
            rfl
           refine pl_ 3 33 ?_ 4 13 HT_ ?_ ?_ ?_ ?_
           rotate_left
           ·intro w'
            go_simp
            with_reducible rfl
           rotate_left
           ·simp only [Act.put, sa_, s0_, s1_, i64_w, i32_w]
            rfl
           refine pure_ (i := 7) (N := some 37) (v := ?_) (a' := ?_) #[true, true, true, true, false, false, false, true, false, false, false, false, false, false, false, false, false] rfl rfl (any_of HT_.out (by kernel_rfl)) (fun _ _ _ h => h) (Or.inl ⟨by rfl, ?_⟩) ?_ ?_
           rotate_left
           ·intro w'
            go_simp
            with_reducible rfl
           rotate_left
           ·simp only [Act.put, sa_, s0_, s1_, i64_w, i32_w]
            rfl
           refine pure_ (i := 8) (N := some 38) (v := ?_) (a' := ?_) #[true, true, true, true, false, false, false, true, true, false, false, false, false, false, false, false, false] rfl rfl (any_of HT_.out (by kernel_rfl)) (fun _ _ _ h => h) (Or.inl ⟨by rfl, ?_⟩) ?_ ?_
           rotate_left
           ·intro w'
            go_simp
            with_reducible rfl
           rotate_left
           ·simp only [Act.put, sa_, s0_, s1_, i64_w, i32_w]
            rfl
           refine pure_ (i := 9) (N := some 39) (v := ?_) (a' := ?_) #[true, true, true, true, false, false, false, true, true, true, false, false, false, false, false, false, false] rfl rfl (any_of HT_.out (by kernel_rfl)) (fun _ _ _ h => h) (Or.inl ⟨by rfl, ?_⟩) ?_ ?_
           rotate_left
           ·intro w'
            go_simp
            with_reducible rfl
           rotate_left
           ·simp only [Act.put, sa_, s0_, s1_, i64_w, i32_w]
            rfl
           refine pure_ (i := 10) (N := some 40) (v := ?_) (a' := ?_) #[true, true, true, true, false, false, false, true, true, true, true, false, false, false, false, false, false] rfl rfl (any_of HT_.out (by kernel_rfl)) (fun _ _ _ h => h) (Or.inl ⟨by rfl, ?_⟩) ?_ ?_
           rotate_left
           ·intro w'
            go_simp
            with_reducible rfl
           rotate_left
           ·simp only [Act.put, sa_, s0_, s1_, i64_w, i32_w]
            rfl
           refine take_ (i := 4) (N := some 34) (v := ?_) (a' := ?_) #[true, true, true, true, true, false, false, true, true, true, true, false, false, false, false, false, false] rfl rfl (take_ofW HT_.out HW_.out (by kernel_rfl)) (fun _ _ _ h => h) (Or.inl ⟨by rfl, ?_⟩) hHeld ?_ ?_
           rotate_left
           ·rintro w' ⟨s0, s1, s2, s3, s4, s5, s6, s7, s8, s9, s10, s11, s12, s13, s14, s15, s16, s17, s18⟩
            go_simp
            with_reducible rfl
           rotate_left
           ·simp only [Act.put, sa_, s0_, s1_, i64_w, i32_w]
            rfl
           refine pure_ (i := 5) (N := some 35) (v := ?_) (a' := ?_) #[true, true, true, true, true, true, false, true, true, true, true, false, false, false, false, false, false] rfl rfl (any_of HT_.out (by kernel_rfl)) (fun _ _ _ h => h) (Or.inl ⟨by rfl, ?_⟩) ?_ ?_
           rotate_left
           ·intro w'
            go_simp
            with_reducible rfl
           rotate_left
           ·simp only [Act.put, sa_, s0_, s1_, i64_w, i32_w]
            rfl
           refine pl_ 6 36 ?_ 11 6 HT_ ?_ ?_ ?_ ?_
           rotate_left
           ·intro w'
            go_simp
            with_reducible rfl
           rotate_left
           ·simp only [Act.put, sa_, s0_, s1_, i64_w, i32_w]
            rfl
           refine tl_ 11 41 ?_ 12 5 HT_ HW_ ?_ hHeld ?_ ?_ ?_
           rotate_left
           ·rintro w' ⟨s0, s1, s2, s3, s4, s5, s6, s7, s8, s9, s10, s11, s12, s13, s14, s15, s16, s17, s18⟩
            go_simp
            with_reducible rfl
           rotate_left
           ·simp only [Act.put, sa_, s0_, s1_, i64_w, i32_w]
            rfl
           refine pl_ 12 42 ?_ 13 4 HT_ ?_ ?_ ?_ ?_
           rotate_left
           ·intro w'
            go_simp
            with_reducible rfl
           rotate_left
           ·simp only [Act.put, sa_, s0_, s1_, i64_w, i32_w]
            rfl
           refine pl_ 13 43 ?_ 14 3 HT_ ?_ ?_ ?_ ?_
           rotate_left
           ·intro w'
            go_simp
            with_reducible rfl
           rotate_left
           ·simp only [Act.put, sa_, s0_, s1_, i64_w, i32_w]
            rfl
           refine one_ (i := 14) (N := some 44) (bv_ 15 2) rfl rfl (one_of HT_.out (by kernel_rfl)) (by decide) (fun K hK => ?_)
           refine value_ (w1 := ?_) (v := ?_) (by rfl) rfl ?_ ?_
           rotate_left 2
           ·go_simp
            constructor
            ·rfl
            ·rfl
           refine hK.out _ _ ⟨(blk_cell (blk_alloc BK149.out _) 0).trans rfl, (blk_cell (blk_alloc BK149.out _) 1).trans rfl, (blk_cell (blk_alloc BK149.out _) 2).trans rfl, (blk_cell (blk_alloc BK149.out _) 3).trans rfl, (blk_cell (blk_alloc BK149.out _) 4).trans rfl, (blk_cell (blk_alloc BK149.out _) 5).trans rfl, (blk_cell (blk_alloc BK149.out _) 6).trans rfl, (blk_cell (blk_alloc BK149.out _) 7).trans rfl, (blk_cell (blk_alloc BK149.out _) 8).trans rfl, (blk_cell (blk_alloc BK149.out _) 9).trans rfl, (blk_cell (blk_alloc BK149.out _) 10).trans rfl, (blk_cell (blk_alloc BK149.out _) 11).trans rfl, (blk_cell (blk_alloc BK149.out _) 12).trans rfl, (blk_cell (blk_alloc BK149.out _) 13).trans rfl, (blk_cell (blk_alloc BK149.out _) 14).trans rfl, (blk_cell (blk_alloc BK149.out _) 15).trans rfl, (blk_cell (blk_alloc BK149.out _) 16).trans rfl, (blk_idx (blk_alloc BK149.out _) .u8 [.bool true] [z1, z2, z3, z4, z5, z6, z7, z8, z9, za, zb, zc, zd, ze, zf, zg] [] rfl x6_1 (of_decide_eq_true as_) (of_decide_eq_true as_) rfl), (blk_idx (blk_alloc BK149.out _) .u8 [.bool true] [z1, z2, z3, z4, z5, z6, z7, z8, z9, za, zb, zc, zd, ze, zf, zg] [] rfl (ji20) (of_decide_eq_true as_) (of_decide_eq_true as_) rfl)⟩ (fun hHeld => ?_)
           clear hK K
           refine norm_ (a' := ?_) ?_ ?_
           rotate_left
           ·show Act.put _ (some 44) _ = _
            simp only [Act.put, sa_, s0_, s1_, i64_w, i32_w]
            rfl
           refine one_ (i := 15) (N := some 45) (bv_ 16 1) rfl rfl (one_of HT_.out (by kernel_rfl)) (by decide) (fun K hK => ?_)
           refine Kd.R_append_step (Kd.int .i64) (w0 := w) w.heap.size (by rfl) (.tmp 30) (.tmp 44) 61 3 (.int .i64 0) 8 rfl Tryz.underlying61 info3 rfl (by decide) (by omega) u5 x5_1 (Go.bits .or .i64 (wrap64 ((wrap64 (rd [z1, z2, z3, z4, z5, z6, z7, z8, z9, za, zb, zc, zd, ze, zf, zg] x6_1)) * 256)) (wrap64 (rd [z1, z2, z3, z4, z5, z6, z7, z8, z9, za, zb, zc, zd, ze, zf, zg] (ji20)))) [.int .i64 (Go.bits .or .i64 (wrap64 ((wrap64 (rd [z1, z2, z3, z4, z5, z6, z7, z8, z9, za, zb, zc, zd, ze, zf, zg] x6_1)) * 256)) (wrap64 (rd [z1, z2, z3, z4, z5, z6, z7, z8, z9, za, zb, zc, zd, ze, zf, zg] (ji20))))] (fun _ => True) (fun _ => False) rfl rfl ?aP (fun _ hk => hk.elim) ?aF ?aO ?aB ?aS ?aL ?_
           (case aP => exact rfl)
           (case aB => exact bg_)
           (case aF => exact (fun _ _ => trivial))
           (case aO => exact (by (with_reducible repeat (first | apply Kd.R_alloc | apply Kd.R_drewN | apply Kd.R_drew)); exact HO_5.out))
           (case aS => exact (below_size bg_))
           (case aL => have := LMc23.out; omega)
           intro v159 w27 ho hb hg hat
           rw [← Ny158.out] at ho
           replace BK149 := Aside0.mk (blk_grown (g := gb149) (o := .cells (ag_ true z1 z2 z3 z4 z5 z6 z7 z8 z9 za zb zc zd ze zf zg) 24 (0, 0)) bk_ hg (Kd.R_ne HO_5.out BK149.out (by decide)))
           have HO160 := Aside0.mk (ho)
           replace HB := Aside0.mk (hb)
           clear HO_5 ho hb hg hat
           refine hK.out _ _ ⟨(blk_cell BK149.out 0).trans rfl, (blk_cell BK149.out 1).trans rfl, (blk_cell BK149.out 2).trans rfl, (blk_cell BK149.out 3).trans rfl, (blk_cell BK149.out 4).trans rfl, (blk_cell BK149.out 5).trans rfl, (blk_cell BK149.out 6).trans rfl, (blk_cell BK149.out 7).trans rfl, (blk_cell BK149.out 8).trans rfl, (blk_cell BK149.out 9).trans rfl, (blk_cell BK149.out 10).trans rfl, (blk_cell BK149.out 11).trans rfl, (blk_cell BK149.out 12).trans rfl, (blk_cell BK149.out 13).trans rfl, (blk_cell BK149.out 14).trans rfl, (blk_cell BK149.out 15).trans rfl, (blk_cell BK149.out 16).trans rfl, (blk_idx BK149.out .u8 [.bool true] [z1, z2, z3, z4, z5, z6, z7, z8, z9, za, zb, zc, zd, ze, zf, zg] [] rfl x6_1 (of_decide_eq_true as_) (of_decide_eq_true as_) rfl), (blk_idx BK149.out .u8 [.bool true] [z1, z2, z3, z4, z5, z6, z7, z8, z9, za, zb, zc, zd, ze, zf, zg] [] rfl (ji20) (of_decide_eq_true as_) (of_decide_eq_true as_) rfl)⟩ (fun hHeld => ?_)
           clear hK K
           refine norm_ (a' := ?_) ?_ ?_
           rotate_left
           ·show Act.put _ (some 45) _ = _
            simp only [Act.put, sa_, s0_, s1_, i64_w, i32_w]
            rfl
           refine pl_ 16 5 ?_ 17 0 HT_ ?_ ?_ ?_ ?_
           rotate_left
           ·intro w'
            go_simp
            with_reducible rfl
           rotate_left
           ·simp only [Act.put, sa_, s0_, s1_, i64_w, i32_w]
            rfl
           refine done_ (done_of HT_.out (by kernel_rfl)) ?_
           try go_wp2
           go_roundg k1
           case measure => have := HK1.out; omega
           case rel => exact ⟨(y158), (wrap64 (x6_1 + 2)), sq_, H', ⟨by have := HK1.out; omega⟩, ⟨by (with_reducible repeat (first | apply Kd.R_alloc | apply Kd.R_drewN | apply Kd.R_drew)); exact HO160.out⟩, ⟨bk_⟩, ⟨bg_⟩⟩
          ·rw [if_neg c23] at H
           exact absurd H (by simp)
         ·rw [if_neg c22] at H
          exact absurd H (by simp)
        ·rw [if_neg c21] at H
         exact absurd H (by simp)
       ·rw [if_neg c19] at H
        exact absurd H (by simp)
      ·rw [if_neg c18] at H
       have c18b0 := decide_eq_false c18
       clear c18
       replace H := Option.bind_eq_some_iff.mp H
       obtain ⟨⟨t161, t162⟩, A280, H⟩ := H
       (try dsimp only at H)
       have A28 := Aside0.mk A280
       clear A280
       by_cases c29 : t162 < 2
       ·rw [if_pos c29] at H
        have c29b0 := decide_eq_true c29
        clear c29
        replace H := Option.bind_eq_some_iff.mp H
        obtain ⟨t163, A300, H⟩ := H
        (try dsimp only at H)
        have A30 := Aside0.mk A300
        clear A300
        simp only [Option.some.injEq, Prod.mk.injEq] at H
        obtain ⟨rfl, rfl⟩ := H
        obtain ⟨Ao31, co31, eo31⟩ := Kd.R_slice HO_5.out
        subst eo31
        go_wp2_with (first | ((with_reducible refine gate_callee (f := 28) rfl ?_); refine goesL_ (some 48) rfl rfl Tryz.func28 (by kernel_rfl) rfl #[.slice Ao31 x5_1.length co31] rfl lq_ ?_; (with_reducible refine (ip_longest.calls k1 _ _ x5_1 t161 t162 _ ?side3 ?side1 ?side2 A28.out).mono ?_); (case side1 => repeat (first | exact (Kd.R_reads' HO_5.out).2.2 | (with_reducible refine Kd.C_alloc ?_ _) | (with_reducible refine Kd.C_drewN ?_ _) | (with_reducible refine Kd.C_drew ?_))); (case side2 => exact (Kd.R_reads' HO_5.out).2.1); (case side3 => exact lg_); rintro e w' ⟨rfl, ⟨nd, rfl⟩⟩; refine ⟨_, rfl, ?_⟩) | ((with_reducible refine gate_callee (f := 29) rfl ?_); refine goesL_ (some 54) rfl rfl Tryz.func29 (by kernel_rfl) rfl #[.slice Ao31 x5_1.length co31] rfl lq_ ?_; (with_reducible refine (ip_hex.calls k1 _ _ x5_1 t163 _ ?side3 ?side1 ?side2 A30.out).mono ?_); (case side1 => repeat (first | exact (Kd.R_reads' HO_5.out).2.2 | (with_reducible refine Kd.C_alloc ?_ _) | (with_reducible refine Kd.C_drewN ?_ _) | (with_reducible refine Kd.C_drew ?_))); (case side2 => exact (Kd.R_reads' HO_5.out).2.1); (case side3 => exact lg_); rintro e w32 ⟨rfl, hb⟩; refine ⟨_, rfl, ?_⟩; replace HO_5 := Aside0.mk (Kd.R_below (by (with_reducible repeat (first | apply Kd.R_alloc | apply Kd.R_drewN | apply Kd.R_drew)); exact HO_5.out) hb); replace BK149 := Aside0.mk (bb_ BK149 hb); replace HB := Aside0.mk (below_step bg_ hb); (try clear hb); (try clear hb2); (try clear hk); (try clear hi)))
        go_ret2
        exact ⟨rq_, bg_⟩
       ·rw [if_neg c29] at H
        have c29b0 := decide_eq_false c29
        clear c29
        by_cases c33 : 0 ≤ t161
        ·rw [if_pos c33] at H
         have c33b0 := eq_true c33
         have c33b1 := decide_eq_true c33
         clear c33
         by_cases c34 : t161 ≤ (x5_1.length : Int)
         ·rw [if_pos c34] at H
          have c34b0 := eq_true c34
          have c34b1 := decide_eq_true c34
          clear c34
          obtain ⟨y164, hy164⟩ : ∃ y_ : List Int, y_ = (x5_1.take (t161 : Int).toNat) := ⟨_, rfl⟩
          replace H : ((ip_hex.f k1 y164).bind fun t168 => (if t168.size + 2 ≤ 9223372036854775807 then (if 0 ≤ (wrap64 (t161 + t162)) then (if (wrap64 (t161 + t162)) ≤ (x5_1.length : Int) then ((ip_hex.f k1 (x5_1.drop ((wrap64 (t161 + t162)) : Int).toNat)).bind fun t173 => (if (t168 ++ (⟨#[58, 58]⟩ : ByteArray)).size + t173.size ≤ 9223372036854775807 then (some ((t168 ++ (⟨#[58, 58]⟩ : ByteArray)) ++ t173, 0)) else (none))) else (none)) else (none)) else (none))) = some (r1, r2) := by first | (rw [hy164]; with_reducible exact H) | (have H2_ := (Option.bind_some _ _).symm.trans H; rw [hy164]; with_reducible exact H2_) | (have H2_ := (Option.bind_some _ _).symm.trans H; with_reducible exact H2_) | with_reducible exact H | (rw [hy164]; exact H) | exact H
          have Ny164 := Aside0.mk hy164
          clear hy164
          replace H := Option.bind_eq_some_iff.mp H
          obtain ⟨t168, A350, H⟩ := H
          (try dsimp only at H)
          have A35 := Aside0.mk A350
          clear A350
          by_cases c36 : t168.size + 2 ≤ 9223372036854775807
          ·rw [if_pos c36] at H
           have c36b0 := eq_true c36
           have c36b1 := decide_eq_true c36
           try have c36b2 : (9223372036854775807 < t168.size + 2) = False := eq_false (Nat.not_lt.2 c36)
           obtain ⟨ji37, hji37⟩ : ∃ j_ : Int, (wrap64 (t161 + t162)) = j_ := ⟨_, rfl⟩
           replace H : (if 0 ≤ (ji37) then (if (ji37) ≤ (x5_1.length : Int) then ((ip_hex.f k1 (x5_1.drop ((ji37) : Int).toNat)).bind fun t173 => (if (t168 ++ (⟨#[58, 58]⟩ : ByteArray)).size + t173.size ≤ 9223372036854775807 then (some ((t168 ++ (⟨#[58, 58]⟩ : ByteArray)) ++ t173, 0)) else (none))) else (none)) else (none)) = some (r1, r2) := by first | (rw [hji37] at H; exact H) | (simp only [hji37] at H ⊢; exact H)
           (try rw [hji37] at A28)
           (try rw [hji37] at A35)
           have hji37w : (IntKind.i64.wrap (t161 + t162)) = ji37 := (i64_w _).trans hji37
           by_cases c38 : 0 ≤ (ji37)
           ·rw [if_pos c38] at H
            have c38b0 := eq_true c38
            have c38b1 := decide_eq_true c38
            clear c38
            by_cases c39 : (ji37) ≤ (x5_1.length : Int)
            ·rw [if_pos c39] at H
             have c39b0 := eq_true c39
             have c39b1 := decide_eq_true c39
             clear c39
             obtain ⟨y169, hy169⟩ : ∃ y_ : List Int, y_ = (x5_1.drop ((ji37) : Int).toNat) := ⟨_, rfl⟩
             replace H : ((ip_hex.f k1 y169).bind fun t173 => (if (t168 ++ (⟨#[58, 58]⟩ : ByteArray)).size + t173.size ≤ 9223372036854775807 then (some ((t168 ++ (⟨#[58, 58]⟩ : ByteArray)) ++ t173, 0)) else (none))) = some (r1, r2) := by first | (rw [hy169]; with_reducible exact H) | (have H2_ := (Option.bind_some _ _).symm.trans H; rw [hy169]; with_reducible exact H2_) | (have H2_ := (Option.bind_some _ _).symm.trans H; with_reducible exact H2_) | with_reducible exact H | (rw [hy169]; exact H) | exact H
             have Ny169 := Aside0.mk hy169
             clear hy169
             replace H := Option.bind_eq_some_iff.mp H
             obtain ⟨t173, A400, H⟩ := H
             (try dsimp only at H)
             have A40 := Aside0.mk A400
             clear A400
             by_cases c41 : (t168 ++ (⟨#[58, 58]⟩ : ByteArray)).size + t173.size ≤ 9223372036854775807
             ·rw [if_pos c41] at H
              have c41b0 := eq_true c41
              have c41b1 := decide_eq_true c41
              try have c41b2 : (9223372036854775807 < (t168 ++ (⟨#[58, 58]⟩ : ByteArray)).size + t173.size) = False := eq_false (Nat.not_lt.2 c41)
              try have c41b8 : (9223372036854775807 < t168.size + 2 + t173.size) = False := eq_false (by have hq := of_eq_true c41b0; simp only [ByteArray.size_append, ByteArray.size_extract] at hq; have hz0 : (⟨#[58, 58]⟩ : ByteArray).size = 2 := rfl; omega)
              simp only [Option.some.injEq, Prod.mk.injEq] at H
              obtain ⟨rfl, rfl⟩ := H
              obtain ⟨Ao42, co42, eo42⟩ := Kd.R_slice HO_5.out
              subst eo42
              try go_wp2_with (first | ((with_reducible refine gate_callee (f := 28) rfl ?_); refine goesL_ (some 48) rfl rfl Tryz.func28 (by kernel_rfl) rfl #[.slice Ao42 x5_1.length co42] rfl lq_ ?_; (with_reducible refine (ip_longest.calls k1 _ _ x5_1 t161 t162 _ ?side3 ?side1 ?side2 A28.out).mono ?_); (case side1 => repeat (first | exact (Kd.R_reads' HO_5.out).2.2 | (with_reducible refine Kd.C_alloc ?_ _) | (with_reducible refine Kd.C_drewN ?_ _) | (with_reducible refine Kd.C_drew ?_))); (case side2 => exact (Kd.R_reads' HO_5.out).2.1); (case side3 => exact lg_); rintro e w' ⟨rfl, ⟨nd, rfl⟩⟩; refine ⟨_, rfl, ?_⟩))
              (try (rw [drewN_self wr]; generalize hq_ : World.drewN wr _ = wr; have n0_ : Aside0 (Kd.R (Kd.int .i64) 3 wr w.heap.size (fun _ => True) (.slice Ao42 x5_1.length co42) x5_1) := ⟨by rw [← hq_]; exact (by (with_reducible repeat (first | apply Kd.R_alloc | apply Kd.R_drewN | apply Kd.R_drew)); exact HO_5.out)⟩; have n1_ : Aside0 (wr.heap[gb149]? = some (.cells (ag_ true z1 z2 z3 z4 z5 z6 z7 z8 z9 za zb zc zd ze zf zg) 24 (0, 0))) := ⟨by rw [← hq_]; exact bk_⟩; have n2_ : Aside0 (Below w.heap.size w wr) := ⟨by rw [← hq_]; exact bg_⟩; clear HO_5 BK149 HB hq_; have HO_5 := n0_; have BK149 := n1_; have HB := n2_; clear n0_ n1_ n2_))
              replace HO_5 := Aside0.mk (Kd.R_drew HO_5.out)
              replace BK149 := Aside0.mk (blk_drew BK149.out)
              replace HB := Aside0.mk (below_drew1 HB.out)
              have q44 : (t161 : Int) ≤ ((x5_1.length : Int) : Int) := of_decide_eq_true as_
              obtain ⟨i044, hi044, _, hsz44, _⟩ := info_parts info3
              have hroom44 : x5_1.length ≤ co42 := (Kd.R_reads' HO_5.out).2.1
              have hC44 : Kd.C (Kd.int .i64) _ Ao42 x5_1.length x5_1 := (Kd.R_reads' HO_5.out).2.2
              have hcut44 := cut_to (P := Tryz.prog) 61 3 .i64 Tryz.underlying61 hi044 Ao42 x5_1.length co42 t161 (of_decide_eq_true as_) q44 hroom44
              have hr44 := Kd.C_take (m := (t161 : Int).toNat) hC44 (by omega)
              have hy44 : y164.length = (t161 : Int).toNat := (by rw [Ny164.out, List.length_take]; omega)
              rw [← Ny164.out] at hr44
              rw [← hy44] at hcut44
              have HR167 := Aside0.mk hr44
              have HC167 := Aside0.mk (show y164.length ≤ co42 from by omega)
              clear hr44 hC44 hroom44 hi044 hsz44
              have KY44 := Aside0.mk hy44
              clear hy44
              have KL44 := Aside0.mk (show (t161 : Int).toNat ≤ x5_1.length from by omega)
              replace q44 := eq_true q44
              have q45 : ((ji37) : Int) ≤ ((x5_1.length : Int) : Int) := of_decide_eq_true as_
              obtain ⟨i045, hi045, _, hsz45, _⟩ := info_parts info3
              have hroom45 : x5_1.length ≤ co42 := (Kd.R_reads' HO_5.out).2.1
              have hC45 : Kd.C (Kd.int .i64) _ Ao42 x5_1.length x5_1 := (Kd.R_reads' HO_5.out).2.2
              have q045 : (0 : Int) ≤ ((ji37) : Int) := of_decide_eq_true as_
              have hcut45 := cut_from (P := Tryz.prog) 61 3 .i64 Tryz.underlying61 hi045 1 hsz45 Ao42 x5_1.length co42 (ji37) q045 q45
              have hr45 := Kd.C_drop (m := ((ji37) : Int).toNat) (c := co42) hC45 (by omega) hroom45
              obtain ⟨A45, hA45⟩ : ∃ A1, A1 = (if co42 = ((ji37) : Int).toNat then Ao42 else (Ao42 : Option Addr).map (·.add (((ji37) : Int).toNat * 1))) := ⟨_, rfl⟩
              obtain ⟨c45, hc45⟩ : ∃ c1, c1 = co42 - ((ji37) : Int).toNat := ⟨_, rfl⟩
              have hy45 : y169.length = x5_1.length - ((ji37) : Int).toNat := (by rw [Ny169.out, List.length_drop] <;> omega)
              rw [show (x5_1).drop ((ji37) : Int).toNat = y169 from Ny169.out.symm] at hr45
              replace hr45 : Kd.C (Kd.int .i64) _ A45 y169.length y169 := (by rw [hA45]; exact hr45)
              rw [← hy45, ← hA45, ← hc45] at hcut45
              have HR172 := Aside0.mk hr45
              have HC172 := Aside0.mk (show y169.length ≤ c45 from by rw [hy45, hc45]; exact Nat.sub_le_sub_right hroom45 _)
              clear hr45 hC45 hroom45 hi045 hsz45 hc45
              have KY45 := Aside0.mk hy45
              have KA45 := Aside0.mk hA45
              clear hy45 hA45
              have KL45 := Aside0.mk (show ((ji37) : Int).toNat ≤ x5_1.length from by omega)
              replace q45 := eq_true q45
              refine start_ (n := 14) (S := fun w' => True) (ds := []) (bv_ 0 14) (by kernel_rfl) rfl rfl trivial (fun hHeld => ?_); refine with_tabW ip_Print.tab16 ip_Print.bits16 (fun HT_ HW_ => ?_)
              generalize wr.drew = w43 at HO_5 BK149 HB HR167 HR172 hHeld ⊢
              refine pl_ 0 55 ?_ 1 13 HT_ ?_ ?_ ?_ ?_
              rotate_left
              ·intro w'
               go_simp
               with_reducible rfl
              rotate_left
              ·simp only [Act.put, sa_, s0_, s1_, i64_w, i32_w]
               rfl
              refine pl_ 1 56 ?_ 2 12 HT_ ?_ ?_ ?_ ?_
              rotate_left
              ·intro w'
               go_simp
               with_reducible rfl
              rotate_left
              ·simp only [Act.put, sa_, s0_, s1_, i64_w, i32_w]
               rfl
              refine pl_ 2 57 ?_ 3 11 HT_ ?_ ?_ ?_ ?_
              rotate_left
              ·intro w'
               go_simp
               with_reducible rfl
              rotate_left
              ·simp only [Act.put, sa_, s0_, s1_, i64_w, i32_w]
               rfl
              refine pure_ (i := 5) (N := some 60) (v := ?_) (a' := ?_) #[true, true, true, false, false, true, false, false, false, false, false, false, false, false] rfl rfl (any_of HT_.out (by kernel_rfl)) (fun _ _ _ h => h) (Or.inl ⟨by rfl, ?_⟩) ?_ ?_
              rotate_left
              ·intro w'
               go_simp
               with_reducible rfl
              rotate_left
              ·simp only [Act.put, sa_, s0_, s1_, i64_w, i32_w]
               rfl
              refine pure_ (i := 6) (N := some 61) (v := ?_) (a' := ?_) #[true, true, true, false, false, true, true, false, false, false, false, false, false, false] rfl rfl (any_of HT_.out (by kernel_rfl)) (fun _ _ _ h => h) (Or.inl ⟨by rfl, ?_⟩) ?_ ?_
              rotate_left
              ·intro w'
               go_simp
               with_reducible rfl
              rotate_left
              ·simp only [Act.put, sa_, s0_, s1_, i64_w, i32_w]
               rfl
              refine pure_ (i := 7) (N := some 62) (v := ?_) (a' := ?_) #[true, true, true, false, false, true, true, true, false, false, false, false, false, false] rfl rfl (any_of HT_.out (by kernel_rfl)) (fun _ _ _ h => h) (Or.inl ⟨by rfl, ?_⟩) ?_ ?_
              rotate_left
              ·intro w'
               go_simp
               with_reducible rfl
              rotate_left
              ·simp only [Act.put, sa_, s0_, s1_, i64_w, i32_w]
               rfl
              refine pure_ (i := 8) (N := some 63) (v := ?_) (a' := ?_) #[true, true, true, false, false, true, true, true, true, false, false, false, false, false] rfl rfl (any_of HT_.out (by kernel_rfl)) (fun _ _ _ h => h) (Or.inl ⟨by rfl, ?_⟩) ?_ ?_
              rotate_left
              ·intro w'
               go_simp
               with_reducible rfl
              rotate_left
              ·simp only [Act.put, sa_, s0_, s1_, i64_w, i32_w]
               rfl
              refine pure_ (i := 9) (N := some 64) (v := ?_) (a' := ?_) #[true, true, true, false, false, true, true, true, true, true, false, false, false, false] rfl rfl (any_of HT_.out (by kernel_rfl)) (fun _ _ _ h => h) (Or.inl ⟨by rfl, ?_⟩) ?_ ?_
              rotate_left
              ·intro w'
               go_simp
               with_reducible rfl
              rotate_left
              ·simp only [Act.put, sa_, s0_, s1_, i64_w, i32_w]
               rfl
              refine one_ (i := 3) (N := some 58) #[true, true, true, true, false, true, true, true, true, true, false, false, false, false] rfl rfl (one_of HT_.out (by kernel_rfl)) (by decide) (fun K hK => ?_)
              refine goes_ Tryz.func29 (by kernel_rfl) rfl #[.slice Ao42 y164.length co42] (by rfl) rfl rfl lq_ ?_
              with_reducible refine (ip_hex.calls k1 _ _ y164 t168 _ ?side3 ?side1 ?side2 A35.out).mono ?_
              (case side1 => repeat (first | exact (by repeat (first | (with_reducible exact HR167.out) | (with_reducible refine Kd.C_alloc ?_ _) | (with_reducible refine Kd.C_drewN ?_ _) | (with_reducible refine Kd.C_drew ?_) | exact HR167.out)) | (with_reducible refine Kd.C_alloc ?_ _) | (with_reducible refine Kd.C_drewN ?_ _) | (with_reducible refine Kd.C_drew ?_)))
              (case side2 => exact HC167.out)
              (case side3 => exact lg_)
              rintro e w46 ⟨rfl, hb⟩
              refine ⟨_, rfl, ?_⟩
              replace HO_5 := Aside0.mk (Kd.R_below (by (with_reducible repeat (first | apply Kd.R_alloc | apply Kd.R_drewN | apply Kd.R_drew)); exact HO_5.out) hb)
              replace BK149 := Aside0.mk (bb_ BK149 hb)
              replace HR167 := Aside0.mk (cb_ HR167 hb)
              replace HR172 := Aside0.mk (cb_ HR172 hb)
              replace HB := Aside0.mk (below_step bg_ hb)
              (try clear hb)
              (try clear hb2)
              (try clear hk)
              (try clear hi)
              refine hK.out _ _ trivial (fun hHeld => ?_)
              clear hK K
              refine norm_ (a' := ?_) ?_ ?_
              rotate_left
              ·show Act.put _ (some 58) _ = _
               simp only [Act.put, sa_, s0_, s1_, i64_w, i32_w]
               rfl
              refine pl_ 4 59 ?_ 10 4 HT_ ?_ ?_ ?_ ?_
              rotate_left
              ·intro w'
               go_simp
               with_reducible rfl
              rotate_left
              ·simp only [Act.put, sa_, s0_, s1_, i64_w, i32_w]
               rfl
              refine one_ (i := 10) (N := some 65) (bv_ 11 3) rfl rfl (one_of HT_.out (by kernel_rfl)) (by decide) (fun K hK => ?_)
              refine goes_ Tryz.func29 (by kernel_rfl) rfl #[.slice A45 y169.length c45] (by rfl) rfl rfl lq_ ?_
              with_reducible refine (ip_hex.calls k1 _ _ y169 t173 _ ?side3 ?side1 ?side2 A40.out).mono ?_
              (case side1 => repeat (first | exact (by repeat (first | (with_reducible exact HR172.out) | (with_reducible refine Kd.C_alloc ?_ _) | (with_reducible refine Kd.C_drewN ?_ _) | (with_reducible refine Kd.C_drew ?_) | exact HR172.out)) | (with_reducible refine Kd.C_alloc ?_ _) | (with_reducible refine Kd.C_drewN ?_ _) | (with_reducible refine Kd.C_drew ?_)))
              (case side2 => exact HC172.out)
              (case side3 => exact lg_)
              rintro e w47 ⟨rfl, hb⟩
              refine ⟨_, rfl, ?_⟩
              replace HO_5 := Aside0.mk (Kd.R_below (by (with_reducible repeat (first | apply Kd.R_alloc | apply Kd.R_drewN | apply Kd.R_drew)); exact HO_5.out) hb)
              replace BK149 := Aside0.mk (bb_ BK149 hb)
              replace HR167 := Aside0.mk (cb_ HR167 hb)
              replace HR172 := Aside0.mk (cb_ HR172 hb)
              replace HB := Aside0.mk (below_step bg_ hb)
              (try clear hb)
              (try clear hb2)
              (try clear hk)
              (try clear hi)
              refine hK.out _ _ trivial (fun hHeld => ?_)
              clear hK K
              refine norm_ (a' := ?_) ?_ ?_
              rotate_left
              ·show Act.put _ (some 65) _ = _
               simp only [Act.put, sa_, s0_, s1_, i64_w, i32_w]
               rfl
              refine pl_ 11 66 ?_ 12 2 HT_ ?_ ?_ ?_ ?_
              rotate_left
              ·intro w'
               go_simp
               with_reducible rfl
              rotate_left
              ·simp only [Act.put, sa_, s0_, s1_, i64_w, i32_w]
               rfl
              refine pl_ 12 2 ?_ 13 1 HT_ ?_ ?_ ?_ ?_
              rotate_left
              ·intro w'
               go_simp
               with_reducible rfl
              rotate_left
              ·simp only [Act.put, sa_, s0_, s1_, i64_w, i32_w]
               rfl
              refine pl_ 13 3 ?_ 14 0 HT_ ?_ ?_ ?_ ?_
              rotate_left
              ·intro w'
               go_simp
               with_reducible rfl
              rotate_left
              ·simp only [Act.put, sa_, s0_, s1_, i64_w, i32_w]
               rfl
              refine done_ (done_of HT_.out (by kernel_rfl)) ?_
              try go_wp2
              go_ret2
              exact ⟨by first | rfl | (simp [errW_none, errW_some] <;> rfl) | (simp only [← hji37]; first | rfl | (simp [errW_none, errW_some] <;> rfl)) | (simp [*, errW_none, errW_some] <;> rfl) | (simp [errW_none, errW_some]; first | exact isEmpty_bne _ | exact isEmpty_beq _ | exact (isEmpty_bne _).symm), bg_⟩
             ·rw [if_neg c41] at H
              exact absurd H (by simp)
            ·rw [if_neg c39] at H
             exact absurd H (by simp)
           ·rw [if_neg c38] at H
            exact absurd H (by simp)
          ·rw [if_neg c36] at H
           exact absurd H (by simp)
         ·rw [if_neg c34] at H
          exact absurd H (by simp)
        ·rw [if_neg c33] at H
         exact absurd H (by simp)
  ·replace c4 := Bool.eq_false_iff.mpr c4
   subst c4
   replace H := ifF_ H
   replace H := Option.bind_eq_some_iff.mp H
   obtain ⟨t152, A480, H⟩ := H
   (try dsimp only at H)
   have A48 := Aside0.mk A480
   clear A480
   simp only [Option.some.injEq, Prod.mk.injEq] at H
   obtain ⟨rfl, rfl⟩ := H
   go_enter Tryz.func10, Tryz.ntmps10
   go_wp2_with (first | ((with_reducible refine gate_dst (N := 1) rfl ?_); refine bx_ 1 (ag_ false z1 z2 z3 z4 z5 z6 z7 z8 z9 za zb zc zd ze zf zg) 24 ?_; intro gb149 hg w49 hbox hb; have BK149 := Aside0.mk (hbox); have GW149 := Aside0.mk (ge_ (w := w) hg); have GE149 := Aside0.mk (ge_ (w := w) hg); replace HB := Aside0.mk (below_step bq_ hb); clear hb hbox hg) | ((with_reducible refine gate_dst (N := 9) rfl ?_); (try (refine gate_guard (by rfl) ?_; dsimp only)); refine load_box ?hg 24 (.tmp 1) rfl BK149.out [] (al_ false z1 z2 z3 z4 z5 z6 z7 z8 z9 za zb zc zd ze zf zg) [] rfl 0 rfl rfl Tryz.underlying24 rfl (by kernel_rfl) ?_; (case hg => rfl)) | ((with_reducible refine gate_callee (f := 16) rfl ?_); refine goesL_ (some 10) rfl rfl Tryz.func16 (by kernel_rfl) rfl #[.agg (ag_ false z1 z2 z3 z4 z5 z6 z7 z8 z9 za zb zc zd ze zf zg)] rfl lq_ ?_; (with_reducible refine (ip_Check.calls false z1 z2 z3 z4 z5 z6 z7 z8 z9 za zb zc zd ze zf zg t150 _ ?side1 A2.out).mono ?_); (case side1 => exact lg_); rintro e w50 ⟨rfl, hb⟩; refine ⟨_, rfl, ?_⟩; replace BK149 := Aside0.mk (bb_ BK149 hb); replace HB := Aside0.mk (below_step bg_ hb); (try clear hb); (try clear hb2); (try clear hk); (try clear hi); obtain ⟨hcz51_0, hcz51_1, hcz51_2, hcz51_3, hcz51_4, hcz51_5, hcz51_6, hcz51_7, hcz51_8, hcz51_9, hcz51_10, hcz51_11, hcz51_12, hcz51_13, hcz51_14, hcz51_15, hcz51_16⟩ := c17_ BK149; obtain ⟨hfz51_0, hfz51_1, hfz51_2, hfz51_3, hfz51_4, hfz51_5, hfz51_6, hfz51_7, hfz51_8, hfz51_9, hfz51_10, hfz51_11, hfz51_12, hfz51_13, hfz51_14, hfz51_15, hfz51_16⟩ := f17_ BK149; have HR151 := Aside0.mk (C_arr BK149.out .u8 [.bool false, .int .u8 z1, .int .u8 z2, .int .u8 z3, .int .u8 z4, .int .u8 z5, .int .u8 z6, .int .u8 z7, .int .u8 z8, .int .u8 z9, .int .u8 za, .int .u8 zb, .int .u8 zc] [zd, ze, zf, zg] [] rfl (q := 13) rfl (by show 4 ≤ 9223372036854775807; decide)); have HC151 := Aside0.mk (show ([zd, ze, zf, zg] : List Int).length ≤ 4 from by show 4 ≤ 4; decide); have hl151 : ([zd, ze, zf, zg] : List Int).length = 4 := rfl) | ((with_reducible refine gate_callee (f := 26) rfl ?_); refine goesL_ (some 19) rfl rfl Tryz.func26 (by kernel_rfl) rfl #[.slice (some ⟨gb149, 13, none⟩) ([zd, ze, zf, zg] : List Int).length 4] rfl (by (try simp only [List.map_toArray, List.map_cons, List.map_nil]); first | done | (rw [show ([zd, ze, zf, zg] : List Int).length = 4 from rfl] <;> rfl) | rfl | (simp only [List.length_drop, List.length_take]; rfl)) ?_; (with_reducible refine (ip_dots.calls k _ _ ([zd, ze, zf, zg] : List Int) t152 _ ?side3 ?side1 ?side2 A48.out).mono ?_); (case side1 => repeat (first | exact (by repeat (first | (with_reducible exact HR151.out) | (with_reducible refine Kd.C_alloc ?_ _) | (with_reducible refine Kd.C_drewN ?_ _) | (with_reducible refine Kd.C_drew ?_) | exact HR151.out)) | (with_reducible refine Kd.C_alloc ?_ _) | (with_reducible refine Kd.C_drewN ?_ _) | (with_reducible refine Kd.C_drew ?_))); (case side2 => exact HC151.out); (case side3 => exact lg_); rintro e w52 ⟨rfl, hb⟩; refine ⟨_, rfl, ?_⟩; replace BK149 := Aside0.mk (bb_ BK149 hb); replace HR151 := Aside0.mk (cb_ HR151 hb); replace HB := Aside0.mk (below_step bg_ hb); (try clear hb); (try clear hb2); (try clear hk); (try clear hi)))
   go_ret2
   exact ⟨rq_, bg_⟩
 ·rw [if_neg c3] at H
  have c3b0 := beq_eq_false_iff_ne.mpr c3
  have c3b1 := bne_iff_ne.mpr c3
  simp only [Option.some.injEq, Prod.mk.injEq] at H
  obtain ⟨rfl, rfl⟩ := H
  go_enter Tryz.func10, Tryz.ntmps10
  go_wp2_with (first | ((with_reducible refine gate_dst (N := 1) rfl ?_); refine bx_ 1 (ag_ z0 z1 z2 z3 z4 z5 z6 z7 z8 z9 za zb zc zd ze zf zg) 24 ?_; intro gb149 hg w53 hbox hb; have BK149 := Aside0.mk (hbox); have GW149 := Aside0.mk (ge_ (w := w) hg); have GE149 := Aside0.mk (ge_ (w := w) hg); replace HB := Aside0.mk (below_step bq_ hb); clear hb hbox hg) | ((with_reducible refine gate_dst (N := 9) rfl ?_); (try (refine gate_guard (by rfl) ?_; dsimp only)); refine load_box ?hg 24 (.tmp 1) rfl BK149.out [] (al_ z0 z1 z2 z3 z4 z5 z6 z7 z8 z9 za zb zc zd ze zf zg) [] rfl 0 rfl rfl Tryz.underlying24 rfl (by kernel_rfl) ?_; (case hg => rfl)) | ((with_reducible refine gate_callee (f := 16) rfl ?_); refine goesL_ (some 10) rfl rfl Tryz.func16 (by kernel_rfl) rfl #[.agg (ag_ z0 z1 z2 z3 z4 z5 z6 z7 z8 z9 za zb zc zd ze zf zg)] rfl lq_ ?_; (with_reducible refine (ip_Check.calls z0 z1 z2 z3 z4 z5 z6 z7 z8 z9 za zb zc zd ze zf zg t150 _ ?side1 A2.out).mono ?_); (case side1 => exact lg_); rintro e w54 ⟨rfl, hb⟩; refine ⟨_, rfl, ?_⟩; replace BK149 := Aside0.mk (bb_ BK149 hb); replace HB := Aside0.mk (below_step bg_ hb); (try clear hb); (try clear hb2); (try clear hk); (try clear hi)))
  go_ret2
  exact ⟨rq_, bg_⟩

-- NOT PRINTED: function 4 (cidr_Print)

end Go.Proofs.YtdopafhppaalfaaGreatDoor.P
