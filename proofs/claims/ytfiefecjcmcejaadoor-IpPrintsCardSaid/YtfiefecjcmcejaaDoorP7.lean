-- Written by a program of this session (wip/gen/lprint.py over the kit's print.py) out of the translation. Lean checks it.
import Derived.Test.YtfiefecjcmcejaaDoorP0
import Derived.Test.YtfiefecjcmcejaaDoorP3
import Derived.Test.YtfiefecjcmcejaaDoorP5
import Derived.Test.YtfiefecjcmcejaaDoorP6
namespace Go.Proofs.YtfiefecjcmcejaaDoor.P
open Go.Proofs.YtfiefecjcmcejaaDoor.E Go.Proofs.YtfiefecjcmcejaaDoorV
open Go.RowKit Go.Proofs.YtfiefecjcmcejaaDoorW.PrintWords Go.Proofs.YtfiefecjcmcejaaDoorW.PrintLast Go.Proofs.YtfiefecjcmcejaaDoorW.PrintMore
attribute [local go_sem] max2_int min2_int max_two min_two max_three min_three max_four min_four   -- for this text's walks alone
set_option linter.unusedVariables false
set_option linter.unusedSimpArgs false

def ip_Print.l0 : Nat → List Int → Int → Bool → Int → Int → Int → Int → Int → Int → Int → Int → Int → Int → Int → Int → Int → Int → Int → Int → Option (ByteArray × Int)
 | 0, _, _, _, _, _, _, _, _, _, _, _, _, _, _, _, _, _, _, _ => none
 | k + 1, x5, x6, x259000, x259001, x259002, x259003, x259004, x259005, x259006, x259007, x259008, x259009, x259010, x259011, x259012, x259013, x259014, x259015, x259016 => if x6 < 16 then (if 0 ≤ x6 then (if 0 ≤ (wrap64 (x6 + 1)) then (if (wrap64 (x6 + 1)) < 16 then (if x5.length < 17592186044416 then (ip_Print.l0 k (x5 ++ [Go.bits .or .i64 (wrap64 ((wrap64 (rd [x259001, x259002, x259003, x259004, x259005, x259006, x259007, x259008, x259009, x259010, x259011, x259012, x259013, x259014, x259015, x259016] x6)) * 256)) (wrap64 (rd [x259001, x259002, x259003, x259004, x259005, x259006, x259007, x259008, x259009, x259010, x259011, x259012, x259013, x259014, x259015, x259016] (wrap64 (x6 + 1))))]) (wrap64 (x6 + 2)) x259000 x259001 x259002 x259003 x259004 x259005 x259006 x259007 x259008 x259009 x259010 x259011 x259012 x259013 x259014 x259015 x259016) else (none)) else (none)) else (none)) else (none)) else ((ip_longest.f k x5).bind fun bt270 => (if bt270.2 < 2 then ((ip_hex.f k x5).bind fun t272 => (some (t272, 0))) else (if 0 ≤ bt270.1 then (if bt270.1 ≤ (x5.length : Int) then ((ip_hex.f k (x5.take (bt270.1 : Int).toNat)).bind fun t277 => (if t277.size + 2 ≤ 9223372036854775807 then (if 0 ≤ (wrap64 (bt270.1 + bt270.2)) then (if (wrap64 (bt270.1 + bt270.2)) ≤ (x5.length : Int) then ((ip_hex.f k (x5.drop ((wrap64 (bt270.1 + bt270.2)) : Int).toNat)).bind fun t282 => (if (t277 ++ (⟨#[58, 58]⟩ : ByteArray)).size + t282.size ≤ 9223372036854775807 then (some ((t277 ++ (⟨#[58, 58]⟩ : ByteArray)) ++ t282, 0)) else (none))) else (none)) else (none)) else (none))) else (none)) else (none))))
def ip_Print.f (k : Nat) (a0_0 : Bool) (a0_1 : Int) (a0_2 : Int) (a0_3 : Int) (a0_4 : Int) (a0_5 : Int) (a0_6 : Int) (a0_7 : Int) (a0_8 : Int) (a0_9 : Int) (a0_10 : Int) (a0_11 : Int) (a0_12 : Int) (a0_13 : Int) (a0_14 : Int) (a0_15 : Int) (a0_16 : Int) : Option (ByteArray × Int) := (ip_Check.f a0_0 a0_1 a0_2 a0_3 a0_4 a0_5 a0_6 a0_7 a0_8 a0_9 a0_10 a0_11 a0_12 a0_13 a0_14 a0_15 a0_16).bind fun t259 => (if t259 = 0 then (if a0_0 = true then ((ip_mapped.f a0_0 a0_1 a0_2 a0_3 a0_4 a0_5 a0_6 a0_7 a0_8 a0_9 a0_10 a0_11 a0_12 a0_13 a0_14 a0_15 a0_16).bind fun t262 => (if t262 = true then ((ip_dots.f k ([a0_13, a0_14, a0_15, a0_16] : List Int)).bind fun t264 => (if 7 + t264.size ≤ 9223372036854775807 then (some ((⟨#[58, 58, 102, 102, 102, 102, 58]⟩ : ByteArray) ++ t264, 0)) else (none))) else (ip_Print.l0 k ([] : List Int) 0 a0_0 a0_1 a0_2 a0_3 a0_4 a0_5 a0_6 a0_7 a0_8 a0_9 a0_10 a0_11 a0_12 a0_13 a0_14 a0_15 a0_16))) else ((ip_dots.f k ([a0_13, a0_14, a0_15, a0_16] : List Int)).bind fun t261 => (some (t261, 0)))) else (some ((⟨#[]⟩ : ByteArray), t259)))
theorem ip_Print.mono_l : ∀ k, (∀ y0 y1 y2 y3 y4 y5 y6 y7 y8 y9 y10 y11 y12 y13 y14 y15 y16 y17 y18, LeO (ip_Print.l0 k y0 y1 y2 y3 y4 y5 y6 y7 y8 y9 y10 y11 y12 y13 y14 y15 y16 y17 y18) (ip_Print.l0 (k + 1) y0 y1 y2 y3 y4 y5 y6 y7 y8 y9 y10 y11 y12 y13 y14 y15 y16 y17 y18))
 | 0 => fun _ _ _ _ _ _ _ _ _ _ _ _ _ _ _ _ _ _ _ r h => by simp [ip_Print.l0] at h
 | k + 1 => by
  have ih0 := ip_Print.mono_l k
  ·intro y0 y1 y2 y3 y4 y5 y6 y7 y8 y9 y10 y11 y12 y13 y14 y15 y16 y17 y18
   unfold ip_Print.l0
   repeat' first
   | (with_reducible exact ih0 _ _ _ _ _ _ _ _ _ _ _ _ _ _ _ _ _ _ _)
   | (with_reducible exact ip_dots.mono _ _)
   | (with_reducible exact ip_hex.mono _ _)
   | (with_reducible exact ip_longest.mono _ _)
   | (with_reducible exact LeO.refl _)
   | (with_reducible exact LeO.none _)
   | (with_reducible refine LeO.ite ?_ ?_)
   | (with_reducible refine LeO.bind ?_ (fun _ => ?_))
   | exact ih0 _ _ _ _ _ _ _ _ _ _ _ _ _ _ _ _ _ _ _
   | exact ip_dots.mono _ _
   | exact ip_hex.mono _ _
   | exact ip_longest.mono _ _
   | exact LeO.none _
   | refine LeO.ite ?_ ?_
   | refine LeO.bind ?_ (fun _ => ?_)
theorem ip_Print.mono : ∀ a0 a1 a2 a3 a4 a5 a6 a7 a8 a9 a10 a11 a12 a13 a14 a15 a16 k, LeO (ip_Print.f k a0 a1 a2 a3 a4 a5 a6 a7 a8 a9 a10 a11 a12 a13 a14 a15 a16) (ip_Print.f (k + 1) a0 a1 a2 a3 a4 a5 a6 a7 a8 a9 a10 a11 a12 a13 a14 a15 a16) := by
 intro a0 a1 a2 a3 a4 a5 a6 a7 a8 a9 a10 a11 a12 a13 a14 a15 a16 k
 have ih0 := ip_Print.mono_l k
 unfold ip_Print.f
 repeat' first
   | (with_reducible exact ih0 _ _ _ _ _ _ _ _ _ _ _ _ _ _ _ _ _ _ _)
   | (with_reducible exact ip_dots.mono _ _)
   | (with_reducible exact ip_hex.mono _ _)
   | (with_reducible exact ip_longest.mono _ _)
   | (with_reducible exact LeO.refl _)
   | (with_reducible exact LeO.none _)
   | (with_reducible refine LeO.ite ?_ ?_)
   | (with_reducible refine LeO.bind ?_ (fun _ => ?_))
   | exact ih0 _ _ _ _ _ _ _ _ _ _ _ _ _ _ _ _ _ _ _
   | exact ip_dots.mono _ _
   | exact ip_hex.mono _ _
   | exact ip_longest.mono _ _
   | exact LeO.none _
   | refine LeO.ite ?_ ?_
   | refine LeO.bind ?_ (fun _ => ?_)
def ip_Print.T12 : Bool × List (List Nat × List Nat) := (true, [([], []), ([], []), ([], []), ([2, 1], [1, 2]), ([3], [3]), ([4], [4]), ([5], [5]), ([], []), ([7], [7]), ([], []), ([9, 8], [8, 9]), ([10], [10]), ([11], [11]), ([6, 12], [6, 12]), ([13], [13]), ([0, 14], [0, 14]), ([15, 15, 0, 1, 2, 3, 4, 5, 6, 7, 8, 9, 10, 11, 12, 13, 14, 15], [0, 15])])
def ip_Print.B12 : List Nat := [0, 0, 0, 6, 14, 30, 62, 0, 128, 0, 896, 1920, 3968, 8190, 16382, 32767, 65535]
theorem ip_Print.tab12 : rtab .any (opsOf Tryd.f11 12) = ip_Print.T12 := by kernel_rfl
theorem ip_Print.bits12 : waitsOk ip_Print.T12.2 ip_Print.B12 = true := by kernel_rfl
def ip_Print.T16 : Bool × List (List Nat × List Nat) := (true, [([], []), ([], []), ([0, 1], [0, 1]), ([2], [2]), ([3], [3]), ([], []), ([], []), ([], []), ([6, 7], [6, 7]), ([5, 8], [5, 8]), ([9, 3], [9]), ([4, 10], [4, 10]), ([11, 10, 0, 1, 2, 3, 4, 5, 6, 7, 8, 9, 10, 11], [11]), ([12, 0, 1, 2, 3, 4, 5, 6, 7, 8, 9, 10, 11, 12], [])])
def ip_Print.B16 : List Nat := [0, 0, 3, 7, 15, 0, 0, 0, 192, 480, 1007, 2047, 4095, 8191]
theorem ip_Print.tab16 : rtab .any (opsOf Tryd.f11 16) = ip_Print.T16 := by kernel_rfl
theorem ip_Print.bits16 : waitsOk ip_Print.T16.2 ip_Print.B16 = true := by kernel_rfl
set_option maxHeartbeats 8000000 in
set_option maxRecDepth 100000 in
theorem ip_Print.calls (k : Nat) (a0_0 : Bool) (a0_1 : Int) (a0_2 : Int) (a0_3 : Int) (a0_4 : Int) (a0_5 : Int) (a0_6 : Int) (a0_7 : Int) (a0_8 : Int) (a0_9 : Int) (a0_10 : Int) (a0_11 : Int) (a0_12 : Int) (a0_13 : Int) (a0_14 : Int) (a0_15 : Int) (a0_16 : Int) (r1 : ByteArray) (r2 : Int) (w : World) (hLW : LW w) (h : ip_Print.f k a0_0 a0_1 a0_2 a0_3 a0_4 a0_5 a0_6 a0_7 a0_8 a0_9 a0_10 a0_11 a0_12 a0_13 a0_14 a0_15 a0_16 = some (r1, r2)) :
  Calls Tryd.prog 11 #[.agg #[.bool a0_0, .int .u8 a0_1, .int .u8 a0_2, .int .u8 a0_3, .int .u8 a0_4, .int .u8 a0_5, .int .u8 a0_6, .int .u8 a0_7, .int .u8 a0_8, .int .u8 a0_9, .int .u8 a0_10, .int .u8 a0_11, .int .u8 a0_12, .int .u8 a0_13, .int .u8 a0_14, .int .u8 a0_15, .int .u8 a0_16]] w fun e w' => e = .returned (.tuple #[.string r1, .int .i64 r2]) ∧ Below w.heap.size w w' := by
 have hu25 := Tryd.underlying25
 have HLW := Aside0.mk hLW
 clear hLW
 have HB := Aside0.mk (Below.refl w.heap.size w)
 have H : ((ip_Check.f a0_0 a0_1 a0_2 a0_3 a0_4 a0_5 a0_6 a0_7 a0_8 a0_9 a0_10 a0_11 a0_12 a0_13 a0_14 a0_15 a0_16).bind fun t259 => (if t259 = 0 then (if a0_0 = true then ((ip_mapped.f a0_0 a0_1 a0_2 a0_3 a0_4 a0_5 a0_6 a0_7 a0_8 a0_9 a0_10 a0_11 a0_12 a0_13 a0_14 a0_15 a0_16).bind fun t262 => (if t262 = true then ((ip_dots.f k ([a0_13, a0_14, a0_15, a0_16] : List Int)).bind fun t264 => (if 7 + t264.size ≤ 9223372036854775807 then (some ((⟨#[58, 58, 102, 102, 102, 102, 58]⟩ : ByteArray) ++ t264, 0)) else (none))) else (ip_Print.l0 k ([] : List Int) 0 a0_0 a0_1 a0_2 a0_3 a0_4 a0_5 a0_6 a0_7 a0_8 a0_9 a0_10 a0_11 a0_12 a0_13 a0_14 a0_15 a0_16))) else ((ip_dots.f k ([a0_13, a0_14, a0_15, a0_16] : List Int)).bind fun t261 => (some (t261, 0)))) else (some ((⟨#[]⟩ : ByteArray), t259)))) = some (r1, r2) := h
 clear h
 replace H := Option.bind_eq_some_iff.mp H
 obtain ⟨t259, A20, H⟩ := H
 replace H : (if t259 = 0 then (if a0_0 = true then ((ip_mapped.f a0_0 a0_1 a0_2 a0_3 a0_4 a0_5 a0_6 a0_7 a0_8 a0_9 a0_10 a0_11 a0_12 a0_13 a0_14 a0_15 a0_16).bind fun t262 => (if t262 = true then ((ip_dots.f k ([a0_13, a0_14, a0_15, a0_16] : List Int)).bind fun t264 => (if 7 + t264.size ≤ 9223372036854775807 then (some ((⟨#[58, 58, 102, 102, 102, 102, 58]⟩ : ByteArray) ++ t264, 0)) else (none))) else (ip_Print.l0 k ([] : List Int) 0 a0_0 a0_1 a0_2 a0_3 a0_4 a0_5 a0_6 a0_7 a0_8 a0_9 a0_10 a0_11 a0_12 a0_13 a0_14 a0_15 a0_16))) else ((ip_dots.f k ([a0_13, a0_14, a0_15, a0_16] : List Int)).bind fun t261 => (some (t261, 0)))) else (some ((⟨#[]⟩ : ByteArray), t259))) = some (r1, r2) := H
 have A2 := Aside0.mk A20
 clear A20
 by_cases c3 : t259 = 0
 ·rw [if_pos c3] at H
  have c3b0 : (t259 == 0) = true := beq_iff_eq.mpr c3
  have c3b1 : (t259 != 0) = false := bne_eq_false_iff_eq.mpr c3
  clear c3
  by_cases c4 : a0_0 = true
  ·subst c4
   have H1 : ((ip_mapped.f true a0_1 a0_2 a0_3 a0_4 a0_5 a0_6 a0_7 a0_8 a0_9 a0_10 a0_11 a0_12 a0_13 a0_14 a0_15 a0_16).bind fun t262 => (if t262 = true then ((ip_dots.f k ([a0_13, a0_14, a0_15, a0_16] : List Int)).bind fun t264 => (if 7 + t264.size ≤ 9223372036854775807 then (some ((⟨#[58, 58, 102, 102, 102, 102, 58]⟩ : ByteArray) ++ t264, 0)) else (none))) else (ip_Print.l0 k ([] : List Int) 0 true a0_1 a0_2 a0_3 a0_4 a0_5 a0_6 a0_7 a0_8 a0_9 a0_10 a0_11 a0_12 a0_13 a0_14 a0_15 a0_16))) = some (r1, r2) := by rw [if_pos rfl] at H; exact H
   clear H
   have H := H1
   clear H1
   replace H := Option.bind_eq_some_iff.mp H
   obtain ⟨t262, A50, H⟩ := H
   replace H : (if t262 = true then ((ip_dots.f k ([a0_13, a0_14, a0_15, a0_16] : List Int)).bind fun t264 => (if 7 + t264.size ≤ 9223372036854775807 then (some ((⟨#[58, 58, 102, 102, 102, 102, 58]⟩ : ByteArray) ++ t264, 0)) else (none))) else (ip_Print.l0 k ([] : List Int) 0 true a0_1 a0_2 a0_3 a0_4 a0_5 a0_6 a0_7 a0_8 a0_9 a0_10 a0_11 a0_12 a0_13 a0_14 a0_15 a0_16)) = some (r1, r2) := H
   have A5 := Aside0.mk A50
   clear A50
   by_cases c6 : t262 = true
   ·subst c6
    have H1 : ((ip_dots.f k ([a0_13, a0_14, a0_15, a0_16] : List Int)).bind fun t264 => (if 7 + t264.size ≤ 9223372036854775807 then (some ((⟨#[58, 58, 102, 102, 102, 102, 58]⟩ : ByteArray) ++ t264, 0)) else (none))) = some (r1, r2) := by rw [if_pos rfl] at H; exact H
    clear H
    have H := H1
    clear H1
    replace H := Option.bind_eq_some_iff.mp H
    obtain ⟨t264, A70, H⟩ := H
    replace H : (if 7 + t264.size ≤ 9223372036854775807 then (some ((⟨#[58, 58, 102, 102, 102, 102, 58]⟩ : ByteArray) ++ t264, 0)) else (none)) = some (r1, r2) := H
    have A7 := Aside0.mk A70
    clear A70
    by_cases c8 : 7 + t264.size ≤ 9223372036854775807
    ·rw [if_pos c8] at H
     have c8b0 := eq_true c8
     have c8b1 : decide (7 + t264.size ≤ 9223372036854775807) = true := decide_eq_true c8
     try have c8b2 : (9223372036854775807 < 7 + t264.size) = False := eq_false (Nat.not_lt.2 c8)
     simp only [Option.some.injEq, Prod.mk.injEq] at H
     obtain ⟨rfl, rfl⟩ := H
     go_enter Tryd.func11, Tryd.ntmps11
     go_wp2_with (first | ((with_reducible refine gate_dst (N := 1) rfl ?_); refine box_event ?hg (N := 1) ?hd (cs := #[.bool true, .int .u8 a0_1, .int .u8 a0_2, .int .u8 a0_3, .int .u8 a0_4, .int .u8 a0_5, .int .u8 a0_6, .int .u8 a0_7, .int .u8 a0_8, .int .u8 a0_9, .int .u8 a0_10, .int .u8 a0_11, .int .u8 a0_12, .int .u8 a0_13, .int .u8 a0_14, .int .u8 a0_15, .int .u8 a0_16]) (t := 25) ?hr ?_; (case hd => rfl); (case hg => rfl); (case hr => first | (go_simp; done) | (go_simp; rfl)); intro gb258 hg w9 hbox hb; have n0_ := Aside0.mk (below_step (by repeat (first | (with_reducible first | exact HB.out | apply below_alloc | apply pw_below_drewN | apply below_drew1) | exact HB.out)) hb); have n1_ := Aside0.mk (hbox); have n2_ := Aside0.mk ((by rw [hg]; exact (below_size (by repeat (first | (with_reducible first | exact HB.out | apply below_alloc | apply pw_below_drewN | apply below_drew1) | exact HB.out))) : w.heap.size ≤ gb258)); have n3_ := Aside0.mk ((by rw [hg]; exact (below_size (by repeat (first | (with_reducible first | exact HB.out | apply below_alloc | apply pw_below_drewN | apply below_drew1) | exact HB.out))) : w.heap.size ≤ gb258)); clear HB; have HB := n0_; have BK258 := n1_; have GW258 := n2_; have GE258 := n3_; clear n0_ n1_ n2_ n3_; clear hb hbox hg) | ((with_reducible refine gate_dst (N := 9) rfl ?_); (try (refine gate_guard (by rfl) ?_; dsimp only)); refine load_box ?hg 25 (.tmp 1) rfl BK258.out [] [.bool true, .int .u8 a0_1, .int .u8 a0_2, .int .u8 a0_3, .int .u8 a0_4, .int .u8 a0_5, .int .u8 a0_6, .int .u8 a0_7, .int .u8 a0_8, .int .u8 a0_9, .int .u8 a0_10, .int .u8 a0_11, .int .u8 a0_12, .int .u8 a0_13, .int .u8 a0_14, .int .u8 a0_15, .int .u8 a0_16] [] rfl 0 rfl rfl Tryd.underlying25 rfl (by kernel_rfl) ?_; (case hg => rfl)) | ((with_reducible refine gate_callee (f := 13) rfl ?_); refine goesL_ (some 10) rfl rfl Tryd.func13 (by kernel_rfl) rfl #[.agg #[.bool true, .int .u8 a0_1, .int .u8 a0_2, .int .u8 a0_3, .int .u8 a0_4, .int .u8 a0_5, .int .u8 a0_6, .int .u8 a0_7, .int .u8 a0_8, .int .u8 a0_9, .int .u8 a0_10, .int .u8 a0_11, .int .u8 a0_12, .int .u8 a0_13, .int .u8 a0_14, .int .u8 a0_15, .int .u8 a0_16]] rfl (by (try simp only [List.map_toArray, List.map_cons, List.map_nil]); first | done | rfl | (simp only [List.length_drop, List.length_take]; rfl)) ?_; (with_reducible refine (ip_Check.calls true a0_1 a0_2 a0_3 a0_4 a0_5 a0_6 a0_7 a0_8 a0_9 a0_10 a0_11 a0_12 a0_13 a0_14 a0_15 a0_16 t259 _ ?side1 A2.out).mono ?_); (case side1 => exact LW.below HLW.out (by repeat (first | (with_reducible first | exact HB.out | apply below_alloc | apply pw_below_drewN | apply below_drew1 | refine below_set ?_ GE258.out) | exact HB.out))); rintro e w10 ⟨rfl, hb⟩; refine ⟨_, rfl, ?_⟩; have n0_ := Aside0.mk (blk_below (g := gb258) (o := .cells #[.bool true, .int .u8 a0_1, .int .u8 a0_2, .int .u8 a0_3, .int .u8 a0_4, .int .u8 a0_5, .int .u8 a0_6, .int .u8 a0_7, .int .u8 a0_8, .int .u8 a0_9, .int .u8 a0_10, .int .u8 a0_11, .int .u8 a0_12, .int .u8 a0_13, .int .u8 a0_14, .int .u8 a0_15, .int .u8 a0_16] 25 (0, 0)) (by (with_reducible repeat (first | refine blk_drewN ?_ _ | refine blk_drew ?_ | refine blk_alloc ?_ _)); exact BK258.out) hb); have n1_ := Aside0.mk (below_step (by repeat (first | (with_reducible first | exact HB.out | apply below_alloc | apply pw_below_drewN | apply below_drew1 | refine below_set ?_ GE258.out) | exact HB.out)) hb); clear BK258; clear HB; have BK258 := n0_; have HB := n1_; clear n0_ n1_; (try clear hb); (try clear hb2); (try clear hk); (try clear hi); have hcz11_0 : w10.cell? ⟨gb258, 0, none⟩ = some (.bool true) := (blk_cell BK258.out 0).trans rfl; have hcz11_1 : w10.cell? ⟨gb258, 1, none⟩ = some (.int .u8 a0_1) := (blk_cell BK258.out 1).trans rfl; have hcz11_2 : w10.cell? ⟨gb258, 2, none⟩ = some (.int .u8 a0_2) := (blk_cell BK258.out 2).trans rfl; have hcz11_3 : w10.cell? ⟨gb258, 3, none⟩ = some (.int .u8 a0_3) := (blk_cell BK258.out 3).trans rfl; have hcz11_4 : w10.cell? ⟨gb258, 4, none⟩ = some (.int .u8 a0_4) := (blk_cell BK258.out 4).trans rfl; have hcz11_5 : w10.cell? ⟨gb258, 5, none⟩ = some (.int .u8 a0_5) := (blk_cell BK258.out 5).trans rfl; have hcz11_6 : w10.cell? ⟨gb258, 6, none⟩ = some (.int .u8 a0_6) := (blk_cell BK258.out 6).trans rfl; have hcz11_7 : w10.cell? ⟨gb258, 7, none⟩ = some (.int .u8 a0_7) := (blk_cell BK258.out 7).trans rfl; have hcz11_8 : w10.cell? ⟨gb258, 8, none⟩ = some (.int .u8 a0_8) := (blk_cell BK258.out 8).trans rfl; have hcz11_9 : w10.cell? ⟨gb258, 9, none⟩ = some (.int .u8 a0_9) := (blk_cell BK258.out 9).trans rfl; have hcz11_10 : w10.cell? ⟨gb258, 10, none⟩ = some (.int .u8 a0_10) := (blk_cell BK258.out 10).trans rfl; have hcz11_11 : w10.cell? ⟨gb258, 11, none⟩ = some (.int .u8 a0_11) := (blk_cell BK258.out 11).trans rfl; have hcz11_12 : w10.cell? ⟨gb258, 12, none⟩ = some (.int .u8 a0_12) := (blk_cell BK258.out 12).trans rfl; have hcz11_13 : w10.cell? ⟨gb258, 13, none⟩ = some (.int .u8 a0_13) := (blk_cell BK258.out 13).trans rfl; have hcz11_14 : w10.cell? ⟨gb258, 14, none⟩ = some (.int .u8 a0_14) := (blk_cell BK258.out 14).trans rfl; have hcz11_15 : w10.cell? ⟨gb258, 15, none⟩ = some (.int .u8 a0_15) := (blk_cell BK258.out 15).trans rfl; have hcz11_16 : w10.cell? ⟨gb258, 16, none⟩ = some (.int .u8 a0_16) := (blk_cell BK258.out 16).trans rfl; have hfz11_0 := blk_frozen BK258.out 0; have hfz11_1 := blk_frozen BK258.out 1; have hfz11_2 := blk_frozen BK258.out 2; have hfz11_3 := blk_frozen BK258.out 3; have hfz11_4 := blk_frozen BK258.out 4; have hfz11_5 := blk_frozen BK258.out 5; have hfz11_6 := blk_frozen BK258.out 6; have hfz11_7 := blk_frozen BK258.out 7; have hfz11_8 := blk_frozen BK258.out 8; have hfz11_9 := blk_frozen BK258.out 9; have hfz11_10 := blk_frozen BK258.out 10; have hfz11_11 := blk_frozen BK258.out 11; have hfz11_12 := blk_frozen BK258.out 12; have hfz11_13 := blk_frozen BK258.out 13; have hfz11_14 := blk_frozen BK258.out 14; have hfz11_15 := blk_frozen BK258.out 15; have hfz11_16 := blk_frozen BK258.out 16) | ((with_reducible refine gate_dst (N := 20) rfl ?_); (try (refine gate_guard (by rfl) ?_; dsimp only)); refine load_box ?hg 25 (.tmp 1) rfl BK258.out [] [.bool true, .int .u8 a0_1, .int .u8 a0_2, .int .u8 a0_3, .int .u8 a0_4, .int .u8 a0_5, .int .u8 a0_6, .int .u8 a0_7, .int .u8 a0_8, .int .u8 a0_9, .int .u8 a0_10, .int .u8 a0_11, .int .u8 a0_12, .int .u8 a0_13, .int .u8 a0_14, .int .u8 a0_15, .int .u8 a0_16] [] rfl 0 rfl rfl Tryd.underlying25 rfl (by kernel_rfl) ?_; (case hg => rfl)) | ((with_reducible refine gate_callee (f := 32) rfl ?_); refine goesL_ (some 21) rfl rfl Tryd.func32 (by kernel_rfl) rfl #[.agg #[.bool true, .int .u8 a0_1, .int .u8 a0_2, .int .u8 a0_3, .int .u8 a0_4, .int .u8 a0_5, .int .u8 a0_6, .int .u8 a0_7, .int .u8 a0_8, .int .u8 a0_9, .int .u8 a0_10, .int .u8 a0_11, .int .u8 a0_12, .int .u8 a0_13, .int .u8 a0_14, .int .u8 a0_15, .int .u8 a0_16]] rfl (by (try simp only [List.map_toArray, List.map_cons, List.map_nil]); first | done | rfl | (simp only [List.length_drop, List.length_take]; rfl)) ?_; (with_reducible refine (ip_mapped.calls true a0_1 a0_2 a0_3 a0_4 a0_5 a0_6 a0_7 a0_8 a0_9 a0_10 a0_11 a0_12 a0_13 a0_14 a0_15 a0_16 true _ ?side1 A5.out).mono ?_); (case side1 => exact LW.below HLW.out (by repeat (first | (with_reducible first | exact HB.out | apply below_alloc | apply pw_below_drewN | apply below_drew1 | refine below_set ?_ GE258.out) | exact HB.out))); rintro e w12 ⟨rfl, hb⟩; refine ⟨_, rfl, ?_⟩; have n0_ := Aside0.mk (blk_below (g := gb258) (o := .cells #[.bool true, .int .u8 a0_1, .int .u8 a0_2, .int .u8 a0_3, .int .u8 a0_4, .int .u8 a0_5, .int .u8 a0_6, .int .u8 a0_7, .int .u8 a0_8, .int .u8 a0_9, .int .u8 a0_10, .int .u8 a0_11, .int .u8 a0_12, .int .u8 a0_13, .int .u8 a0_14, .int .u8 a0_15, .int .u8 a0_16] 25 (0, 0)) (by (with_reducible repeat (first | refine blk_drewN ?_ _ | refine blk_drew ?_ | refine blk_alloc ?_ _)); exact BK258.out) hb); have n1_ := Aside0.mk (below_step (by repeat (first | (with_reducible first | exact HB.out | apply below_alloc | apply pw_below_drewN | apply below_drew1 | refine below_set ?_ GE258.out) | exact HB.out)) hb); clear BK258; clear HB; have BK258 := n0_; have HB := n1_; clear n0_ n1_; (try clear hb); (try clear hb2); (try clear hk); (try clear hi); have HR263 := Aside0.mk (C_arr BK258.out .u8 [.bool true, .int .u8 a0_1, .int .u8 a0_2, .int .u8 a0_3, .int .u8 a0_4, .int .u8 a0_5, .int .u8 a0_6, .int .u8 a0_7, .int .u8 a0_8, .int .u8 a0_9, .int .u8 a0_10, .int .u8 a0_11, .int .u8 a0_12] [a0_13, a0_14, a0_15, a0_16] [] rfl (q := 13) rfl (by show 4 ≤ 9223372036854775807; decide)); have HC263 := Aside0.mk (show ([a0_13, a0_14, a0_15, a0_16] : List Int).length ≤ 4 from by show 4 ≤ 4; decide); have hl263 : ([a0_13, a0_14, a0_15, a0_16] : List Int).length = 4 := rfl) | ((with_reducible refine gate_callee (f := 31) rfl ?_); refine goesL_ (some 24) rfl rfl Tryd.func31 (by kernel_rfl) rfl #[.slice (some ⟨gb258, 13, none⟩) ([a0_13, a0_14, a0_15, a0_16] : List Int).length 4] rfl (by (try simp only [List.map_toArray, List.map_cons, List.map_nil]); first | done | (rw [show ([a0_13, a0_14, a0_15, a0_16] : List Int).length = 4 from rfl] <;> rfl) | rfl | (simp only [List.length_drop, List.length_take]; rfl)) ?_; (with_reducible refine (ip_dots.calls k _ _ ([a0_13, a0_14, a0_15, a0_16] : List Int) t264 _ ?side3 ?side1 ?side2 A7.out).mono ?_); (case side1 => repeat (first | exact (by repeat (first | (with_reducible exact HR263.out) | (with_reducible refine Kd.C_alloc ?_ _) | (with_reducible refine Kd.C_drewN ?_ _) | (with_reducible refine Kd.C_drew ?_) | exact HR263.out)) | (with_reducible refine Kd.C_alloc ?_ _) | (with_reducible refine Kd.C_drewN ?_ _) | (with_reducible refine Kd.C_drew ?_))); (case side2 => exact HC263.out); (case side3 => exact LW.below HLW.out (by repeat (first | (with_reducible first | exact HB.out | apply below_alloc | apply pw_below_drewN | apply below_drew1 | refine below_set ?_ GE258.out) | exact HB.out))); rintro e w13 ⟨rfl, hb⟩; refine ⟨_, rfl, ?_⟩; have n0_ := Aside0.mk (blk_below (g := gb258) (o := .cells #[.bool true, .int .u8 a0_1, .int .u8 a0_2, .int .u8 a0_3, .int .u8 a0_4, .int .u8 a0_5, .int .u8 a0_6, .int .u8 a0_7, .int .u8 a0_8, .int .u8 a0_9, .int .u8 a0_10, .int .u8 a0_11, .int .u8 a0_12, .int .u8 a0_13, .int .u8 a0_14, .int .u8 a0_15, .int .u8 a0_16] 25 (0, 0)) (by (with_reducible repeat (first | refine blk_drewN ?_ _ | refine blk_drew ?_ | refine blk_alloc ?_ _)); exact BK258.out) hb); have n1_ := Aside0.mk (Kd.C_below (by repeat (first | (with_reducible exact HR263.out) | (with_reducible refine Kd.C_alloc ?_ _) | (with_reducible refine Kd.C_drewN ?_ _) | (with_reducible refine Kd.C_drew ?_) | exact HR263.out)) hb); have n2_ := Aside0.mk (below_step (by repeat (first | (with_reducible first | exact HB.out | apply below_alloc | apply pw_below_drewN | apply below_drew1 | refine below_set ?_ GE258.out) | exact HB.out)) hb); clear BK258; clear HR263; clear HB; have BK258 := n0_; have HR263 := n1_; have HB := n2_; clear n0_ n1_ n2_; (try clear hb); (try clear hb2); (try clear hk); (try clear hi)))
     go_ret2
     exact ⟨by first | rfl | (simp [errW_none, errW_some] <;> rfl) | (simp [*, errW_none, errW_some] <;> rfl) | (simp [errW_none, errW_some]; first | exact isEmpty_bne _ | exact isEmpty_beq _ | exact (isEmpty_bne _).symm), by repeat (first | (with_reducible first | exact HB.out | apply below_alloc | apply pw_below_drewN | apply below_drew1 | refine below_set ?_ GE258.out) | exact HB.out)⟩
    ·rw [if_neg c8] at H
     exact absurd H (by simp)
   ·replace c6 := Bool.eq_false_iff.mpr c6
    subst c6
    have H1 : (ip_Print.l0 k ([] : List Int) 0 true a0_1 a0_2 a0_3 a0_4 a0_5 a0_6 a0_7 a0_8 a0_9 a0_10 a0_11 a0_12 a0_13 a0_14 a0_15 a0_16) = some (r1, r2) := by rw [if_neg (show ¬ (false = true) by decide)] at H; exact H
    clear H
    have H := H1
    clear H1
    have H' := Aside0.mk H
    clear H
    go_enter Tryd.func11, Tryd.ntmps11
    go_wp2_with (first | ((with_reducible refine gate_dst (N := 1) rfl ?_); refine box_event ?hg (N := 1) ?hd (cs := #[.bool true, .int .u8 a0_1, .int .u8 a0_2, .int .u8 a0_3, .int .u8 a0_4, .int .u8 a0_5, .int .u8 a0_6, .int .u8 a0_7, .int .u8 a0_8, .int .u8 a0_9, .int .u8 a0_10, .int .u8 a0_11, .int .u8 a0_12, .int .u8 a0_13, .int .u8 a0_14, .int .u8 a0_15, .int .u8 a0_16]) (t := 25) ?hr ?_; (case hd => rfl); (case hg => rfl); (case hr => first | (go_simp; done) | (go_simp; rfl)); intro gb258 hg w14 hbox hb; have n0_ := Aside0.mk (below_step (by repeat (first | (with_reducible first | exact HB.out | apply below_alloc | apply pw_below_drewN | apply below_drew1) | exact HB.out)) hb); have n1_ := Aside0.mk (hbox); have n2_ := Aside0.mk ((by rw [hg]; exact (below_size (by repeat (first | (with_reducible first | exact HB.out | apply below_alloc | apply pw_below_drewN | apply below_drew1) | exact HB.out))) : w.heap.size ≤ gb258)); have n3_ := Aside0.mk ((by rw [hg]; exact (below_size (by repeat (first | (with_reducible first | exact HB.out | apply below_alloc | apply pw_below_drewN | apply below_drew1) | exact HB.out))) : w.heap.size ≤ gb258)); clear HB; have HB := n0_; have BK258 := n1_; have GW258 := n2_; have GE258 := n3_; clear n0_ n1_ n2_ n3_; clear hb hbox hg) | ((with_reducible refine gate_dst (N := 9) rfl ?_); (try (refine gate_guard (by rfl) ?_; dsimp only)); refine load_box ?hg 25 (.tmp 1) rfl BK258.out [] [.bool true, .int .u8 a0_1, .int .u8 a0_2, .int .u8 a0_3, .int .u8 a0_4, .int .u8 a0_5, .int .u8 a0_6, .int .u8 a0_7, .int .u8 a0_8, .int .u8 a0_9, .int .u8 a0_10, .int .u8 a0_11, .int .u8 a0_12, .int .u8 a0_13, .int .u8 a0_14, .int .u8 a0_15, .int .u8 a0_16] [] rfl 0 rfl rfl Tryd.underlying25 rfl (by kernel_rfl) ?_; (case hg => rfl)) | ((with_reducible refine gate_callee (f := 13) rfl ?_); refine goesL_ (some 10) rfl rfl Tryd.func13 (by kernel_rfl) rfl #[.agg #[.bool true, .int .u8 a0_1, .int .u8 a0_2, .int .u8 a0_3, .int .u8 a0_4, .int .u8 a0_5, .int .u8 a0_6, .int .u8 a0_7, .int .u8 a0_8, .int .u8 a0_9, .int .u8 a0_10, .int .u8 a0_11, .int .u8 a0_12, .int .u8 a0_13, .int .u8 a0_14, .int .u8 a0_15, .int .u8 a0_16]] rfl (by (try simp only [List.map_toArray, List.map_cons, List.map_nil]); first | done | rfl | (simp only [List.length_drop, List.length_take]; rfl)) ?_; (with_reducible refine (ip_Check.calls true a0_1 a0_2 a0_3 a0_4 a0_5 a0_6 a0_7 a0_8 a0_9 a0_10 a0_11 a0_12 a0_13 a0_14 a0_15 a0_16 t259 _ ?side1 A2.out).mono ?_); (case side1 => exact LW.below HLW.out (by repeat (first | (with_reducible first | exact HB.out | apply below_alloc | apply pw_below_drewN | apply below_drew1 | refine below_set ?_ GE258.out) | exact HB.out))); rintro e w15 ⟨rfl, hb⟩; refine ⟨_, rfl, ?_⟩; have n0_ := Aside0.mk (blk_below (g := gb258) (o := .cells #[.bool true, .int .u8 a0_1, .int .u8 a0_2, .int .u8 a0_3, .int .u8 a0_4, .int .u8 a0_5, .int .u8 a0_6, .int .u8 a0_7, .int .u8 a0_8, .int .u8 a0_9, .int .u8 a0_10, .int .u8 a0_11, .int .u8 a0_12, .int .u8 a0_13, .int .u8 a0_14, .int .u8 a0_15, .int .u8 a0_16] 25 (0, 0)) (by (with_reducible repeat (first | refine blk_drewN ?_ _ | refine blk_drew ?_ | refine blk_alloc ?_ _)); exact BK258.out) hb); have n1_ := Aside0.mk (below_step (by repeat (first | (with_reducible first | exact HB.out | apply below_alloc | apply pw_below_drewN | apply below_drew1 | refine below_set ?_ GE258.out) | exact HB.out)) hb); clear BK258; clear HB; have BK258 := n0_; have HB := n1_; clear n0_ n1_; (try clear hb); (try clear hb2); (try clear hk); (try clear hi); have hcz16_0 : w15.cell? ⟨gb258, 0, none⟩ = some (.bool true) := (blk_cell BK258.out 0).trans rfl; have hcz16_1 : w15.cell? ⟨gb258, 1, none⟩ = some (.int .u8 a0_1) := (blk_cell BK258.out 1).trans rfl; have hcz16_2 : w15.cell? ⟨gb258, 2, none⟩ = some (.int .u8 a0_2) := (blk_cell BK258.out 2).trans rfl; have hcz16_3 : w15.cell? ⟨gb258, 3, none⟩ = some (.int .u8 a0_3) := (blk_cell BK258.out 3).trans rfl; have hcz16_4 : w15.cell? ⟨gb258, 4, none⟩ = some (.int .u8 a0_4) := (blk_cell BK258.out 4).trans rfl; have hcz16_5 : w15.cell? ⟨gb258, 5, none⟩ = some (.int .u8 a0_5) := (blk_cell BK258.out 5).trans rfl; have hcz16_6 : w15.cell? ⟨gb258, 6, none⟩ = some (.int .u8 a0_6) := (blk_cell BK258.out 6).trans rfl; have hcz16_7 : w15.cell? ⟨gb258, 7, none⟩ = some (.int .u8 a0_7) := (blk_cell BK258.out 7).trans rfl; have hcz16_8 : w15.cell? ⟨gb258, 8, none⟩ = some (.int .u8 a0_8) := (blk_cell BK258.out 8).trans rfl; have hcz16_9 : w15.cell? ⟨gb258, 9, none⟩ = some (.int .u8 a0_9) := (blk_cell BK258.out 9).trans rfl; have hcz16_10 : w15.cell? ⟨gb258, 10, none⟩ = some (.int .u8 a0_10) := (blk_cell BK258.out 10).trans rfl; have hcz16_11 : w15.cell? ⟨gb258, 11, none⟩ = some (.int .u8 a0_11) := (blk_cell BK258.out 11).trans rfl; have hcz16_12 : w15.cell? ⟨gb258, 12, none⟩ = some (.int .u8 a0_12) := (blk_cell BK258.out 12).trans rfl; have hcz16_13 : w15.cell? ⟨gb258, 13, none⟩ = some (.int .u8 a0_13) := (blk_cell BK258.out 13).trans rfl; have hcz16_14 : w15.cell? ⟨gb258, 14, none⟩ = some (.int .u8 a0_14) := (blk_cell BK258.out 14).trans rfl; have hcz16_15 : w15.cell? ⟨gb258, 15, none⟩ = some (.int .u8 a0_15) := (blk_cell BK258.out 15).trans rfl; have hcz16_16 : w15.cell? ⟨gb258, 16, none⟩ = some (.int .u8 a0_16) := (blk_cell BK258.out 16).trans rfl; have hfz16_0 := blk_frozen BK258.out 0; have hfz16_1 := blk_frozen BK258.out 1; have hfz16_2 := blk_frozen BK258.out 2; have hfz16_3 := blk_frozen BK258.out 3; have hfz16_4 := blk_frozen BK258.out 4; have hfz16_5 := blk_frozen BK258.out 5; have hfz16_6 := blk_frozen BK258.out 6; have hfz16_7 := blk_frozen BK258.out 7; have hfz16_8 := blk_frozen BK258.out 8; have hfz16_9 := blk_frozen BK258.out 9; have hfz16_10 := blk_frozen BK258.out 10; have hfz16_11 := blk_frozen BK258.out 11; have hfz16_12 := blk_frozen BK258.out 12; have hfz16_13 := blk_frozen BK258.out 13; have hfz16_14 := blk_frozen BK258.out 14; have hfz16_15 := blk_frozen BK258.out 15; have hfz16_16 := blk_frozen BK258.out 16) | ((with_reducible refine gate_dst (N := 20) rfl ?_); (try (refine gate_guard (by rfl) ?_; dsimp only)); refine load_box ?hg 25 (.tmp 1) rfl BK258.out [] [.bool true, .int .u8 a0_1, .int .u8 a0_2, .int .u8 a0_3, .int .u8 a0_4, .int .u8 a0_5, .int .u8 a0_6, .int .u8 a0_7, .int .u8 a0_8, .int .u8 a0_9, .int .u8 a0_10, .int .u8 a0_11, .int .u8 a0_12, .int .u8 a0_13, .int .u8 a0_14, .int .u8 a0_15, .int .u8 a0_16] [] rfl 0 rfl rfl Tryd.underlying25 rfl (by kernel_rfl) ?_; (case hg => rfl)) | ((with_reducible refine gate_callee (f := 32) rfl ?_); refine goesL_ (some 21) rfl rfl Tryd.func32 (by kernel_rfl) rfl #[.agg #[.bool true, .int .u8 a0_1, .int .u8 a0_2, .int .u8 a0_3, .int .u8 a0_4, .int .u8 a0_5, .int .u8 a0_6, .int .u8 a0_7, .int .u8 a0_8, .int .u8 a0_9, .int .u8 a0_10, .int .u8 a0_11, .int .u8 a0_12, .int .u8 a0_13, .int .u8 a0_14, .int .u8 a0_15, .int .u8 a0_16]] rfl (by (try simp only [List.map_toArray, List.map_cons, List.map_nil]); first | done | rfl | (simp only [List.length_drop, List.length_take]; rfl)) ?_; (with_reducible refine (ip_mapped.calls true a0_1 a0_2 a0_3 a0_4 a0_5 a0_6 a0_7 a0_8 a0_9 a0_10 a0_11 a0_12 a0_13 a0_14 a0_15 a0_16 false _ ?side1 A5.out).mono ?_); (case side1 => exact LW.below HLW.out (by repeat (first | (with_reducible first | exact HB.out | apply below_alloc | apply pw_below_drewN | apply below_drew1 | refine below_set ?_ GE258.out) | exact HB.out))); rintro e w17 ⟨rfl, hb⟩; refine ⟨_, rfl, ?_⟩; have n0_ := Aside0.mk (blk_below (g := gb258) (o := .cells #[.bool true, .int .u8 a0_1, .int .u8 a0_2, .int .u8 a0_3, .int .u8 a0_4, .int .u8 a0_5, .int .u8 a0_6, .int .u8 a0_7, .int .u8 a0_8, .int .u8 a0_9, .int .u8 a0_10, .int .u8 a0_11, .int .u8 a0_12, .int .u8 a0_13, .int .u8 a0_14, .int .u8 a0_15, .int .u8 a0_16] 25 (0, 0)) (by (with_reducible repeat (first | refine blk_drewN ?_ _ | refine blk_drew ?_ | refine blk_alloc ?_ _)); exact BK258.out) hb); have n1_ := Aside0.mk (below_step (by repeat (first | (with_reducible first | exact HB.out | apply below_alloc | apply pw_below_drewN | apply below_drew1 | refine below_set ?_ GE258.out) | exact HB.out)) hb); clear BK258; clear HB; have BK258 := n0_; have HB := n1_; clear n0_ n1_; (try clear hb); (try clear hb2); (try clear hk); (try clear hi)))
    go_loopg [5, 6] k (fun kq v5 v6 w' => ∃ (x5_1 : List Int) (x6_1 : Int), v6 = .int .i64 x6_1 ∧ Aside0 (ip_Print.l0 kq x5_1 x6_1 true a0_1 a0_2 a0_3 a0_4 a0_5 a0_6 a0_7 a0_8 a0_9 a0_10 a0_11 a0_12 a0_13 a0_14 a0_15 a0_16 = some (r1, r2)) ∧ Aside0 (kq ≤ k) ∧ Aside0 (Kd.R (Kd.int .i64) 3 w' w.heap.size (fun _ => True) v5 x5_1) ∧ Aside0 (w'.heap[gb258]? = some (.cells #[.bool true, .int .u8 a0_1, .int .u8 a0_2, .int .u8 a0_3, .int .u8 a0_4, .int .u8 a0_5, .int .u8 a0_6, .int .u8 a0_7, .int .u8 a0_8, .int .u8 a0_9, .int .u8 a0_10, .int .u8 a0_11, .int .u8 a0_12, .int .u8 a0_13, .int .u8 a0_14, .int .u8 a0_15, .int .u8 a0_16] 25 (0, 0))) ∧ Aside0 (Below w.heap.size w w'))
    case atStart => exact ⟨(([] : List Int)), (0), (by first | rfl | (simp; done) | (simp [*]; done) | (simp; exact isEmpty_bne _) | (simp; exact isEmpty_beq _)), H', ⟨Nat.le_refl _⟩, ⟨by first | exact Kd.R_nil _ _ _ _ _ | exact Kd.N_nil _ _ _ _ _ | exact Kd.V_nil _ _ _ _ _ | exact Kd.Q_nil _ _ _ _ _ | exact Kd.S_nil _ _ _ _ _⟩, ⟨by (with_reducible repeat (first | refine blk_drewN ?_ _ | refine blk_drew ?_ | refine blk_alloc ?_ _)); exact BK258.out⟩, ⟨by repeat (first | (with_reducible first | exact HB.out | apply below_alloc | apply pw_below_drewN | apply below_drew1 | refine below_set ?_ GE258.out) | exact HB.out)⟩⟩
    case round =>
     clear H'
     try clear c1
     try clear p2
     try clear c3
     try clear c3b0
     try clear c3b1
     try clear c4
     try clear c6
     try clear c8
     try clear c8b0
     try clear c8b1
     try clear c8b2
     try clear c11
     try clear c13
     try clear hcz11_0
     try clear hcz11_1
     try clear hcz11_10
     try clear hcz11_11
     try clear hcz11_12
     try clear hcz11_13
     try clear hcz11_14
     try clear hcz11_15
     try clear hcz11_16
     try clear hcz11_2
     try clear hcz11_3
     try clear hcz11_4
     try clear hcz11_5
     try clear hcz11_6
     try clear hcz11_7
     try clear hcz11_8
     try clear hcz11_9
     try clear hcz16_0
     try clear hcz16_1
     try clear hcz16_10
     try clear hcz16_11
     try clear hcz16_12
     try clear hcz16_13
     try clear hcz16_14
     try clear hcz16_15
     try clear hcz16_16
     try clear hcz16_2
     try clear hcz16_3
     try clear hcz16_4
     try clear hcz16_5
     try clear hcz16_6
     try clear hcz16_7
     try clear hcz16_8
     try clear hcz16_9
     try clear hfz11_0
     try clear hfz11_1
     try clear hfz11_10
     try clear hfz11_11
     try clear hfz11_12
     try clear hfz11_13
     try clear hfz11_14
     try clear hfz11_15
     try clear hfz11_16
     try clear hfz11_2
     try clear hfz11_3
     try clear hfz11_4
     try clear hfz11_5
     try clear hfz11_6
     try clear hfz11_7
     try clear hfz11_8
     try clear hfz11_9
     try clear hfz16_0
     try clear hfz16_1
     try clear hfz16_10
     try clear hfz16_11
     try clear hfz16_12
     try clear hfz16_13
     try clear hfz16_14
     try clear hfz16_15
     try clear hfz16_16
     try clear hfz16_2
     try clear hfz16_3
     try clear hfz16_4
     try clear hfz16_5
     try clear hfz16_6
     try clear hfz16_7
     try clear hfz16_8
     try clear hfz16_9
     obtain ⟨x5_1, x6_1, rfl, HA, HK1, HO_5, BK258, HB⟩ := hrel
     cases gk with
     | zero => exact absurd HA.out (by simp [ip_Print.l0])
     | succ k1 =>
      have H := HA.out
      clear HA
      simp only [ip_Print.l0] at H
      by_cases c18 : x6_1 < 16
      ·rw [if_pos c18] at H
       have c18b0 : decide (x6_1 < 16) = true := decide_eq_true c18
       clear c18
       by_cases c19 : 0 ≤ x6_1
       ·rw [if_pos c19] at H
        have c19b0 : decide (0 ≤ x6_1) = true := decide_eq_true c19
        clear c19
        obtain ⟨ji20, hji20⟩ : ∃ j_ : Int, (wrap64 (x6_1 + 1)) = j_ := ⟨_, rfl⟩
        replace H : (if 0 ≤ (ji20) then (if (ji20) < 16 then (if x5_1.length < 17592186044416 then (ip_Print.l0 k1 (x5_1 ++ [Go.bits .or .i64 (wrap64 ((wrap64 (rd [a0_1, a0_2, a0_3, a0_4, a0_5, a0_6, a0_7, a0_8, a0_9, a0_10, a0_11, a0_12, a0_13, a0_14, a0_15, a0_16] x6_1)) * 256)) (wrap64 (rd [a0_1, a0_2, a0_3, a0_4, a0_5, a0_6, a0_7, a0_8, a0_9, a0_10, a0_11, a0_12, a0_13, a0_14, a0_15, a0_16] (ji20)))]) (wrap64 (x6_1 + 2)) true a0_1 a0_2 a0_3 a0_4 a0_5 a0_6 a0_7 a0_8 a0_9 a0_10 a0_11 a0_12 a0_13 a0_14 a0_15 a0_16) else (none)) else (none)) else (none)) = some (r1, r2) := by first | (rw [hji20] at H; exact H) | (simp only [hji20] at H ⊢; exact H)
        have hji20w : (IntKind.i64.wrap (x6_1 + 1)) = ji20 := (i64_w _).trans hji20
        by_cases c21 : 0 ≤ (ji20)
        ·rw [if_pos c21] at H
         have c21b0 : decide (0 ≤ (ji20)) = true := decide_eq_true c21
         clear c21
         by_cases c22 : (ji20) < 16
         ·rw [if_pos c22] at H
          have c22b0 : decide ((ji20) < 16) = true := decide_eq_true c22
          clear c22
          by_cases c23 : x5_1.length < 17592186044416
          ·rw [if_pos c23] at H
           have LMc23 := Aside0.mk c23
           clear c23
           obtain ⟨y267, hy267⟩ : ∃ y_ : List Int, y_ = (x5_1 ++ [Go.bits .or .i64 (wrap64 ((wrap64 (rd [a0_1, a0_2, a0_3, a0_4, a0_5, a0_6, a0_7, a0_8, a0_9, a0_10, a0_11, a0_12, a0_13, a0_14, a0_15, a0_16] x6_1)) * 256)) (wrap64 (rd [a0_1, a0_2, a0_3, a0_4, a0_5, a0_6, a0_7, a0_8, a0_9, a0_10, a0_11, a0_12, a0_13, a0_14, a0_15, a0_16] (ji20)))]) := ⟨_, rfl⟩
           replace H : (ip_Print.l0 k1 y267 (wrap64 (x6_1 + 2)) true a0_1 a0_2 a0_3 a0_4 a0_5 a0_6 a0_7 a0_8 a0_9 a0_10 a0_11 a0_12 a0_13 a0_14 a0_15 a0_16) = some (r1, r2) := by first | (rw [hy267]; with_reducible exact H) | (have H2_ := (Option.bind_some _ _).symm.trans H; rw [hy267]; with_reducible exact H2_) | (have H2_ := (Option.bind_some _ _).symm.trans H; with_reducible exact H2_) | with_reducible exact H | (rw [hy267]; exact H) | exact H
           have Ny267 := Aside0.mk hy267
           clear hy267
           have H' := Aside0.mk H
           clear H
           try go_wp2
           have n0_ := Aside0.mk (Kd.R_drew HO_5.out)
           have n1_ := Aside0.mk (blk_drew BK258.out)
           have n2_ := Aside0.mk (below_drew1 HB.out)
           clear HO_5
           clear BK258
           clear HB
           have HO_5 := n0_
           have BK258 := n1_
           have HB := n2_
           clear n0_ n1_ n2_
           have par25 : (0 ≤ x6_1) = True := eq_true (of_decide_eq_true (by first | (with_reducible assumption) | assumption))
           have qar25 : (x6_1 < 16) = True := eq_true (of_decide_eq_true (by first | (with_reducible assumption) | assumption))
           have par26 : (0 ≤ (ji20)) = True := eq_true (of_decide_eq_true (by first | (with_reducible assumption) | assumption))
           have qar26 : ((ji20) < 16) = True := eq_true (of_decide_eq_true (by first | (with_reducible assumption) | assumption))
           refine start_ (n := 17) (S := fun w' => w'.cell? ⟨gb258, 0, none⟩ = some (.bool true) ∧ w'.cell? ⟨gb258, 1, none⟩ = some (.int .u8 a0_1) ∧ w'.cell? ⟨gb258, 2, none⟩ = some (.int .u8 a0_2) ∧ w'.cell? ⟨gb258, 3, none⟩ = some (.int .u8 a0_3) ∧ w'.cell? ⟨gb258, 4, none⟩ = some (.int .u8 a0_4) ∧ w'.cell? ⟨gb258, 5, none⟩ = some (.int .u8 a0_5) ∧ w'.cell? ⟨gb258, 6, none⟩ = some (.int .u8 a0_6) ∧ w'.cell? ⟨gb258, 7, none⟩ = some (.int .u8 a0_7) ∧ w'.cell? ⟨gb258, 8, none⟩ = some (.int .u8 a0_8) ∧ w'.cell? ⟨gb258, 9, none⟩ = some (.int .u8 a0_9) ∧ w'.cell? ⟨gb258, 10, none⟩ = some (.int .u8 a0_10) ∧ w'.cell? ⟨gb258, 11, none⟩ = some (.int .u8 a0_11) ∧ w'.cell? ⟨gb258, 12, none⟩ = some (.int .u8 a0_12) ∧ w'.cell? ⟨gb258, 13, none⟩ = some (.int .u8 a0_13) ∧ w'.cell? ⟨gb258, 14, none⟩ = some (.int .u8 a0_14) ∧ w'.cell? ⟨gb258, 15, none⟩ = some (.int .u8 a0_15) ∧ w'.cell? ⟨gb258, 16, none⟩ = some (.int .u8 a0_16) ∧ w'.cell? ⟨gb258, 1 + (x6_1).toNat, none⟩ = some (.int .u8 (rd [a0_1, a0_2, a0_3, a0_4, a0_5, a0_6, a0_7, a0_8, a0_9, a0_10, a0_11, a0_12, a0_13, a0_14, a0_15, a0_16] x6_1)) ∧ w'.cell? ⟨gb258, 1 + ((ji20)).toNat, none⟩ = some (.int .u8 (rd [a0_1, a0_2, a0_3, a0_4, a0_5, a0_6, a0_7, a0_8, a0_9, a0_10, a0_11, a0_12, a0_13, a0_14, a0_15, a0_16] (ji20)))) (ds := []) #[false, false, false, false, false, false, false, false, false, false, false, false, false, false, false, false, false] (by kernel_rfl) rfl rfl ⟨(blk_cell BK258.out 0).trans rfl, (blk_cell BK258.out 1).trans rfl, (blk_cell BK258.out 2).trans rfl, (blk_cell BK258.out 3).trans rfl, (blk_cell BK258.out 4).trans rfl, (blk_cell BK258.out 5).trans rfl, (blk_cell BK258.out 6).trans rfl, (blk_cell BK258.out 7).trans rfl, (blk_cell BK258.out 8).trans rfl, (blk_cell BK258.out 9).trans rfl, (blk_cell BK258.out 10).trans rfl, (blk_cell BK258.out 11).trans rfl, (blk_cell BK258.out 12).trans rfl, (blk_cell BK258.out 13).trans rfl, (blk_cell BK258.out 14).trans rfl, (blk_cell BK258.out 15).trans rfl, (blk_cell BK258.out 16).trans rfl, (blk_idx BK258.out .u8 [.bool true] [a0_1, a0_2, a0_3, a0_4, a0_5, a0_6, a0_7, a0_8, a0_9, a0_10, a0_11, a0_12, a0_13, a0_14, a0_15, a0_16] [] rfl x6_1 (of_decide_eq_true (by first | (with_reducible assumption) | assumption)) (of_decide_eq_true (by first | (with_reducible assumption) | assumption)) rfl), (blk_idx BK258.out .u8 [.bool true] [a0_1, a0_2, a0_3, a0_4, a0_5, a0_6, a0_7, a0_8, a0_9, a0_10, a0_11, a0_12, a0_13, a0_14, a0_15, a0_16] [] rfl (ji20) (of_decide_eq_true (by first | (with_reducible assumption) | assumption)) (of_decide_eq_true (by first | (with_reducible assumption) | assumption)) rfl)⟩ (fun hHeld => ?_); refine with_tabW ip_Print.tab12 ip_Print.bits12 (fun HT_ HW_ => ?_)
           generalize wr.drew = w24 at HO_5 BK258 HB hHeld ⊢
           refine pure_ (i := 0) (N := some 30) (v := ?_) (a' := ?_) #[true, false, false, false, false, false, false, false, false, false, false, false, false, false, false, false, false] rfl rfl (any_of HT_.out (by kernel_rfl)) (fun _ _ _ h => h) (Or.inl ⟨by rfl, ?_⟩) ?_ ?_
           rotate_left
           ·intro w'
            go_simp
            with_reducible rfl
           rotate_left
           ·simp only [Act.put, List.setIfInBounds_toArray, List.set_cons_zero, List.set_cons_succ, i64_w, i32_w]
            rfl
           refine pure_ (i := 1) (N := some 31) (v := ?_) (a' := ?_) #[true, true, false, false, false, false, false, false, false, false, false, false, false, false, false, false, false] rfl rfl (any_of HT_.out (by kernel_rfl)) (fun _ _ _ h => h) (Or.inl ⟨by rfl, ?_⟩) ?_ ?_
           rotate_left
           ·intro w'
            go_simp
            with_reducible rfl
           rotate_left
           ·simp only [Act.put, List.setIfInBounds_toArray, List.set_cons_zero, List.set_cons_succ, i64_w, i32_w]
            rfl
           refine pure_ (i := 2) (N := some 32) (v := ?_) (a' := ?_) #[true, true, true, false, false, false, false, false, false, false, false, false, false, false, false, false, false] rfl rfl (any_of HT_.out (by kernel_rfl)) (fun _ _ _ h => h) (Or.inl ⟨by rfl, ?_⟩) ?_ ?_
           rotate_left
           ·intro w'
            go_simp
            with_reducible rfl
           rotate_left
           ·simp only [Act.put, List.setIfInBounds_toArray, List.set_cons_zero, List.set_cons_succ, i64_w, i32_w]
            rfl
           refine pure_ (i := 3) (N := some 33) (v := ?_) (a' := ?_) #[true, true, true, true, false, false, false, false, false, false, false, false, false, false, false, false, false] rfl rfl (any_of HT_.out (by kernel_rfl)) (fun _ _ _ h => h) (Or.inl ⟨by rfl, ?_⟩) ?_ ?_
           rotate_left
           ·intro w'
            go_simp
            with_reducible rfl
           rotate_left
           ·simp only [Act.put, List.setIfInBounds_toArray, List.set_cons_zero, List.set_cons_succ, i64_w, i32_w]
            rfl
           refine pure_ (i := 7) (N := some 37) (v := ?_) (a' := ?_) #[true, true, true, true, false, false, false, true, false, false, false, false, false, false, false, false, false] rfl rfl (any_of HT_.out (by kernel_rfl)) (fun _ _ _ h => h) (Or.inl ⟨by rfl, ?_⟩) ?_ ?_
           rotate_left
           ·intro w'
            go_simp
            with_reducible rfl
           rotate_left
           ·simp only [Act.put, List.setIfInBounds_toArray, List.set_cons_zero, List.set_cons_succ, i64_w, i32_w]
            rfl
           refine pure_ (i := 8) (N := some 38) (v := ?_) (a' := ?_) #[true, true, true, true, false, false, false, true, true, false, false, false, false, false, false, false, false] rfl rfl (any_of HT_.out (by kernel_rfl)) (fun _ _ _ h => h) (Or.inl ⟨by rfl, ?_⟩) ?_ ?_
           rotate_left
           ·intro w'
            go_simp
            with_reducible rfl
           rotate_left
           ·simp only [Act.put, List.setIfInBounds_toArray, List.set_cons_zero, List.set_cons_succ, i64_w, i32_w]
            rfl
           refine pure_ (i := 9) (N := some 39) (v := ?_) (a' := ?_) #[true, true, true, true, false, false, false, true, true, true, false, false, false, false, false, false, false] rfl rfl (any_of HT_.out (by kernel_rfl)) (fun _ _ _ h => h) (Or.inl ⟨by rfl, ?_⟩) ?_ ?_
           rotate_left
           ·intro w'
            go_simp
            with_reducible rfl
           rotate_left
           ·simp only [Act.put, List.setIfInBounds_toArray, List.set_cons_zero, List.set_cons_succ, i64_w, i32_w]
            rfl
           refine pure_ (i := 10) (N := some 40) (v := ?_) (a' := ?_) #[true, true, true, true, false, false, false, true, true, true, true, false, false, false, false, false, false] rfl rfl (any_of HT_.out (by kernel_rfl)) (fun _ _ _ h => h) (Or.inl ⟨by rfl, ?_⟩) ?_ ?_
           rotate_left
           ·intro w'
            go_simp
            with_reducible rfl
           rotate_left
           ·simp only [Act.put, List.setIfInBounds_toArray, List.set_cons_zero, List.set_cons_succ, i64_w, i32_w]
            rfl
           refine take_ (i := 4) (N := some 34) (v := ?_) (a' := ?_) #[true, true, true, true, true, false, false, true, true, true, true, false, false, false, false, false, false] rfl rfl (take_ofW HT_.out HW_.out (by kernel_rfl)) (fun _ _ _ h => h) (Or.inl ⟨by rfl, ?_⟩) hHeld ?_ ?_
           rotate_left
           ·rintro w' ⟨s0, s1, s2, s3, s4, s5, s6, s7, s8, s9, s10, s11, s12, s13, s14, s15, s16, s17, s18⟩
            go_simp
            with_reducible rfl
           rotate_left
           ·simp only [Act.put, List.setIfInBounds_toArray, List.set_cons_zero, List.set_cons_succ, i64_w, i32_w]
            rfl
           refine pure_ (i := 5) (N := some 35) (v := ?_) (a' := ?_) #[true, true, true, true, true, true, false, true, true, true, true, false, false, false, false, false, false] rfl rfl (any_of HT_.out (by kernel_rfl)) (fun _ _ _ h => h) (Or.inl ⟨by rfl, ?_⟩) ?_ ?_
           rotate_left
           ·intro w'
            go_simp
            with_reducible rfl
           rotate_left
           ·simp only [Act.put, List.setIfInBounds_toArray, List.set_cons_zero, List.set_cons_succ, i64_w, i32_w]
            rfl
           refine pure_ (i := 6) (N := some 36) (v := ?_) (a' := ?_) #[true, true, true, true, true, true, true, true, true, true, true, false, false, false, false, false, false] rfl rfl (any_of HT_.out (by kernel_rfl)) (fun _ _ _ h => h) (Or.inl ⟨by rfl, ?_⟩) ?_ ?_
           rotate_left
           ·intro w'
            go_simp
            with_reducible rfl
           rotate_left
           ·simp only [Act.put, List.setIfInBounds_toArray, List.set_cons_zero, List.set_cons_succ, i64_w, i32_w]
            rfl
           refine take_ (i := 11) (N := some 41) (v := ?_) (a' := ?_) #[true, true, true, true, true, true, true, true, true, true, true, true, false, false, false, false, false] rfl rfl (take_ofW HT_.out HW_.out (by kernel_rfl)) (fun _ _ _ h => h) (Or.inl ⟨by rfl, ?_⟩) hHeld ?_ ?_
           rotate_left
           ·rintro w' ⟨s0, s1, s2, s3, s4, s5, s6, s7, s8, s9, s10, s11, s12, s13, s14, s15, s16, s17, s18⟩
            go_simp
            with_reducible rfl
           rotate_left
           ·simp only [Act.put, List.setIfInBounds_toArray, List.set_cons_zero, List.set_cons_succ, i64_w, i32_w]
            rfl
           refine pure_ (i := 12) (N := some 42) (v := ?_) (a' := ?_) #[true, true, true, true, true, true, true, true, true, true, true, true, true, false, false, false, false] rfl rfl (any_of HT_.out (by kernel_rfl)) (fun _ _ _ h => h) (Or.inl ⟨by rfl, ?_⟩) ?_ ?_
           rotate_left
           ·intro w'
            go_simp
            with_reducible rfl
           rotate_left
           ·simp only [Act.put, List.setIfInBounds_toArray, List.set_cons_zero, List.set_cons_succ, i64_w, i32_w]
            rfl
           refine pure_ (i := 13) (N := some 43) (v := ?_) (a' := ?_) #[true, true, true, true, true, true, true, true, true, true, true, true, true, true, false, false, false] rfl rfl (any_of HT_.out (by kernel_rfl)) (fun _ _ _ h => h) (Or.inl ⟨by rfl, ?_⟩) ?_ ?_
           rotate_left
           ·intro w'
            go_simp
            with_reducible rfl
           rotate_left
           ·simp only [Act.put, List.setIfInBounds_toArray, List.set_cons_zero, List.set_cons_succ, i64_w, i32_w]
            rfl
           refine one_ (i := 14) (N := some 44) #[true, true, true, true, true, true, true, true, true, true, true, true, true, true, true, false, false] rfl rfl (one_of HT_.out (by kernel_rfl)) (by decide) (fun K hK => ?_)
           refine value_ (w1 := ?_) (v := ?_) (by rfl) rfl ?_ ?_
           rotate_left 2
           ·go_simp
            constructor
            ·rfl
            ·rfl
           refine hK.out _ _ ⟨(blk_cell (blk_alloc BK258.out _) 0).trans rfl, (blk_cell (blk_alloc BK258.out _) 1).trans rfl, (blk_cell (blk_alloc BK258.out _) 2).trans rfl, (blk_cell (blk_alloc BK258.out _) 3).trans rfl, (blk_cell (blk_alloc BK258.out _) 4).trans rfl, (blk_cell (blk_alloc BK258.out _) 5).trans rfl, (blk_cell (blk_alloc BK258.out _) 6).trans rfl, (blk_cell (blk_alloc BK258.out _) 7).trans rfl, (blk_cell (blk_alloc BK258.out _) 8).trans rfl, (blk_cell (blk_alloc BK258.out _) 9).trans rfl, (blk_cell (blk_alloc BK258.out _) 10).trans rfl, (blk_cell (blk_alloc BK258.out _) 11).trans rfl, (blk_cell (blk_alloc BK258.out _) 12).trans rfl, (blk_cell (blk_alloc BK258.out _) 13).trans rfl, (blk_cell (blk_alloc BK258.out _) 14).trans rfl, (blk_cell (blk_alloc BK258.out _) 15).trans rfl, (blk_cell (blk_alloc BK258.out _) 16).trans rfl, (blk_idx (blk_alloc BK258.out _) .u8 [.bool true] [a0_1, a0_2, a0_3, a0_4, a0_5, a0_6, a0_7, a0_8, a0_9, a0_10, a0_11, a0_12, a0_13, a0_14, a0_15, a0_16] [] rfl x6_1 (of_decide_eq_true (by first | (with_reducible assumption) | assumption)) (of_decide_eq_true (by first | (with_reducible assumption) | assumption)) rfl), (blk_idx (blk_alloc BK258.out _) .u8 [.bool true] [a0_1, a0_2, a0_3, a0_4, a0_5, a0_6, a0_7, a0_8, a0_9, a0_10, a0_11, a0_12, a0_13, a0_14, a0_15, a0_16] [] rfl (ji20) (of_decide_eq_true (by first | (with_reducible assumption) | assumption)) (of_decide_eq_true (by first | (with_reducible assumption) | assumption)) rfl)⟩ (fun hHeld => ?_)
           clear hK K
           refine norm_ (a' := ?_) ?_ ?_
           rotate_left
           ·show Act.put _ (some 44) _ = _
            simp only [Act.put, List.setIfInBounds_toArray, List.set_cons_zero, List.set_cons_succ, i64_w, i32_w]
            rfl
           refine one_ (i := 15) (N := some 45) #[true, true, true, true, true, true, true, true, true, true, true, true, true, true, true, true, false] rfl rfl (one_of HT_.out (by kernel_rfl)) (by decide) (fun K hK => ?_)
           refine Kd.R_append_step (Kd.int .i64) (w0 := w) w.heap.size (by rfl) (.tmp 30) (.tmp 44) 63 3 (.int .i64 0) 8 rfl Tryd.underlying63 info3 rfl (by decide) (by omega) u5 x5_1 (Go.bits .or .i64 (wrap64 ((wrap64 (rd [a0_1, a0_2, a0_3, a0_4, a0_5, a0_6, a0_7, a0_8, a0_9, a0_10, a0_11, a0_12, a0_13, a0_14, a0_15, a0_16] x6_1)) * 256)) (wrap64 (rd [a0_1, a0_2, a0_3, a0_4, a0_5, a0_6, a0_7, a0_8, a0_9, a0_10, a0_11, a0_12, a0_13, a0_14, a0_15, a0_16] (ji20)))) [.int .i64 (Go.bits .or .i64 (wrap64 ((wrap64 (rd [a0_1, a0_2, a0_3, a0_4, a0_5, a0_6, a0_7, a0_8, a0_9, a0_10, a0_11, a0_12, a0_13, a0_14, a0_15, a0_16] x6_1)) * 256)) (wrap64 (rd [a0_1, a0_2, a0_3, a0_4, a0_5, a0_6, a0_7, a0_8, a0_9, a0_10, a0_11, a0_12, a0_13, a0_14, a0_15, a0_16] (ji20))))] (fun _ => True) (fun _ => False) rfl rfl ?aP (fun _ hk => hk.elim) ?aF ?aO ?aB ?aS ?aL ?_
           (case aP => exact rfl)
           (case aB => exact (by repeat (first | (with_reducible first | exact HB.out | apply below_alloc | apply pw_below_drewN | apply below_drew1 | refine below_set ?_ GE258.out) | exact HB.out)))
           (case aF => exact (fun _ _ => trivial))
           (case aO => exact (by (with_reducible repeat (first | apply Kd.R_alloc | apply Kd.R_drewN | apply Kd.R_drew)); exact HO_5.out))
           (case aS => exact (below_size (by repeat (first | (with_reducible first | exact HB.out | apply below_alloc | apply pw_below_drewN | apply below_drew1 | refine below_set ?_ GE258.out) | exact HB.out))))
           (case aL => have := LMc23.out; omega)
           intro v268 w27 ho hb hg hat
           rw [← Ny267.out] at ho
           have n0_ := Aside0.mk (blk_grown (g := gb258) (o := .cells #[.bool true, .int .u8 a0_1, .int .u8 a0_2, .int .u8 a0_3, .int .u8 a0_4, .int .u8 a0_5, .int .u8 a0_6, .int .u8 a0_7, .int .u8 a0_8, .int .u8 a0_9, .int .u8 a0_10, .int .u8 a0_11, .int .u8 a0_12, .int .u8 a0_13, .int .u8 a0_14, .int .u8 a0_15, .int .u8 a0_16] 25 (0, 0)) (by (with_reducible repeat (first | refine blk_drewN ?_ _ | refine blk_drew ?_ | refine blk_alloc ?_ _)); exact BK258.out) hg (Kd.R_ne HO_5.out BK258.out (by decide)))
           have n1_ := Aside0.mk (hb)
           have n2_ := Aside0.mk (ho)
           clear BK258
           clear HB
           clear HO_5
           have BK258 := n0_
           have HB := n1_
           have HO269 := n2_
           clear n0_ n1_ n2_
           clear ho hb hg hat
           refine hK.out _ _ ⟨(blk_cell BK258.out 0).trans rfl, (blk_cell BK258.out 1).trans rfl, (blk_cell BK258.out 2).trans rfl, (blk_cell BK258.out 3).trans rfl, (blk_cell BK258.out 4).trans rfl, (blk_cell BK258.out 5).trans rfl, (blk_cell BK258.out 6).trans rfl, (blk_cell BK258.out 7).trans rfl, (blk_cell BK258.out 8).trans rfl, (blk_cell BK258.out 9).trans rfl, (blk_cell BK258.out 10).trans rfl, (blk_cell BK258.out 11).trans rfl, (blk_cell BK258.out 12).trans rfl, (blk_cell BK258.out 13).trans rfl, (blk_cell BK258.out 14).trans rfl, (blk_cell BK258.out 15).trans rfl, (blk_cell BK258.out 16).trans rfl, (blk_idx BK258.out .u8 [.bool true] [a0_1, a0_2, a0_3, a0_4, a0_5, a0_6, a0_7, a0_8, a0_9, a0_10, a0_11, a0_12, a0_13, a0_14, a0_15, a0_16] [] rfl x6_1 (of_decide_eq_true (by first | (with_reducible assumption) | assumption)) (of_decide_eq_true (by first | (with_reducible assumption) | assumption)) rfl), (blk_idx BK258.out .u8 [.bool true] [a0_1, a0_2, a0_3, a0_4, a0_5, a0_6, a0_7, a0_8, a0_9, a0_10, a0_11, a0_12, a0_13, a0_14, a0_15, a0_16] [] rfl (ji20) (of_decide_eq_true (by first | (with_reducible assumption) | assumption)) (of_decide_eq_true (by first | (with_reducible assumption) | assumption)) rfl)⟩ (fun hHeld => ?_)
           clear hK K
           refine norm_ (a' := ?_) ?_ ?_
           rotate_left
           ·show Act.put _ (some 45) _ = _
            simp only [Act.put, List.setIfInBounds_toArray, List.set_cons_zero, List.set_cons_succ, i64_w, i32_w]
            rfl
           refine pure_ (i := 16) (N := some 5) (v := ?_) (a' := ?_) #[true, true, true, true, true, true, true, true, true, true, true, true, true, true, true, true, true] rfl rfl (any_of HT_.out (by kernel_rfl)) (fun _ _ _ h => h) (Or.inl ⟨by rfl, ?_⟩) ?_ ?_
           rotate_left
           ·intro w'
            go_simp
            with_reducible rfl
           rotate_left
           ·simp only [Act.put, List.setIfInBounds_toArray, List.set_cons_zero, List.set_cons_succ, i64_w, i32_w]
            rfl
           refine done_ (done_of HT_.out (by kernel_rfl)) ?_
           try go_wp2
           go_roundg k1
           case measure => have := HK1.out; omega
           case rel => exact ⟨(y267), (wrap64 (x6_1 + 2)), (by first | rfl | (simp; done) | (simp [*]; done) | (simp; exact isEmpty_bne _) | (simp; exact isEmpty_beq _)), H', ⟨by have := HK1.out; omega⟩, ⟨by (with_reducible repeat (first | apply Kd.R_alloc | apply Kd.R_drewN | apply Kd.R_drew)); exact HO269.out⟩, ⟨by (with_reducible repeat (first | refine blk_drewN ?_ _ | refine blk_drew ?_ | refine blk_alloc ?_ _)); exact BK258.out⟩, ⟨by repeat (first | (with_reducible first | exact HB.out | apply below_alloc | apply pw_below_drewN | apply below_drew1 | refine below_set ?_ GE258.out) | exact HB.out)⟩⟩
          ·rw [if_neg c23] at H
           exact absurd H (by simp)
         ·rw [if_neg c22] at H
          exact absurd H (by simp)
        ·rw [if_neg c21] at H
         exact absurd H (by simp)
       ·rw [if_neg c19] at H
        exact absurd H (by simp)
      ·rw [if_neg c18] at H
       have c18b0 : decide (x6_1 < 16) = false := decide_eq_false c18
       clear c18
       replace H := Option.bind_eq_some_iff.mp H
       obtain ⟨⟨t270, t271⟩, A280, H⟩ := H
       replace H : (if t271 < 2 then ((ip_hex.f k1 x5_1).bind fun t272 => (some (t272, 0))) else (if 0 ≤ t270 then (if t270 ≤ (x5_1.length : Int) then ((ip_hex.f k1 (x5_1.take (t270 : Int).toNat)).bind fun t277 => (if t277.size + 2 ≤ 9223372036854775807 then (if 0 ≤ (wrap64 (t270 + t271)) then (if (wrap64 (t270 + t271)) ≤ (x5_1.length : Int) then ((ip_hex.f k1 (x5_1.drop ((wrap64 (t270 + t271)) : Int).toNat)).bind fun t282 => (if (t277 ++ (⟨#[58, 58]⟩ : ByteArray)).size + t282.size ≤ 9223372036854775807 then (some ((t277 ++ (⟨#[58, 58]⟩ : ByteArray)) ++ t282, 0)) else (none))) else (none)) else (none)) else (none))) else (none)) else (none))) = some (r1, r2) := H
       have A28 := Aside0.mk A280
       clear A280
       by_cases c29 : t271 < 2
       ·rw [if_pos c29] at H
        have c29b0 : decide (t271 < 2) = true := decide_eq_true c29
        clear c29
        replace H := Option.bind_eq_some_iff.mp H
        obtain ⟨t272, A300, H⟩ := H
        replace H : (some (t272, 0)) = some (r1, r2) := H
        have A30 := Aside0.mk A300
        clear A300
        simp only [Option.some.injEq, Prod.mk.injEq] at H
        obtain ⟨rfl, rfl⟩ := H
        obtain ⟨Ao31, co31, eo31⟩ := Kd.R_slice HO_5.out
        subst eo31
        go_wp2_with (first | ((with_reducible refine gate_callee (f := 33) rfl ?_); refine goesL_ (some 48) rfl rfl Tryd.func33 (by kernel_rfl) rfl #[.slice Ao31 x5_1.length co31] rfl (by (try simp only [List.map_toArray, List.map_cons, List.map_nil]); first | done | rfl | (simp only [List.length_drop, List.length_take]; rfl)) ?_; (with_reducible refine (ip_longest.calls k1 _ _ x5_1 t270 t271 _ ?side3 ?side1 ?side2 A28.out).mono ?_); (case side1 => repeat (first | exact (Kd.R_reads' HO_5.out).2.2 | (with_reducible refine Kd.C_alloc ?_ _) | (with_reducible refine Kd.C_drewN ?_ _) | (with_reducible refine Kd.C_drew ?_))); (case side2 => exact (Kd.R_reads' HO_5.out).2.1); (case side3 => exact LW.below HLW.out (by repeat (first | (with_reducible first | exact HB.out | apply below_alloc | apply pw_below_drewN | apply below_drew1 | refine below_set ?_ GE258.out) | exact HB.out))); rintro e w' ⟨rfl, ⟨nd, rfl⟩⟩; refine ⟨_, rfl, ?_⟩) | ((with_reducible refine gate_callee (f := 34) rfl ?_); refine goesL_ (some 54) rfl rfl Tryd.func34 (by kernel_rfl) rfl #[.slice Ao31 x5_1.length co31] rfl (by (try simp only [List.map_toArray, List.map_cons, List.map_nil]); first | done | rfl | (simp only [List.length_drop, List.length_take]; rfl)) ?_; (with_reducible refine (ip_hex.calls k1 _ _ x5_1 t272 _ ?side3 ?side1 ?side2 A30.out).mono ?_); (case side1 => repeat (first | exact (Kd.R_reads' HO_5.out).2.2 | (with_reducible refine Kd.C_alloc ?_ _) | (with_reducible refine Kd.C_drewN ?_ _) | (with_reducible refine Kd.C_drew ?_))); (case side2 => exact (Kd.R_reads' HO_5.out).2.1); (case side3 => exact LW.below HLW.out (by repeat (first | (with_reducible first | exact HB.out | apply below_alloc | apply pw_below_drewN | apply below_drew1 | refine below_set ?_ GE258.out) | exact HB.out))); rintro e w32 ⟨rfl, hb⟩; refine ⟨_, rfl, ?_⟩; have n0_ := Aside0.mk (Kd.R_below (by (with_reducible repeat (first | apply Kd.R_alloc | apply Kd.R_drewN | apply Kd.R_drew)); exact HO_5.out) hb); have n1_ := Aside0.mk (blk_below (g := gb258) (o := .cells #[.bool true, .int .u8 a0_1, .int .u8 a0_2, .int .u8 a0_3, .int .u8 a0_4, .int .u8 a0_5, .int .u8 a0_6, .int .u8 a0_7, .int .u8 a0_8, .int .u8 a0_9, .int .u8 a0_10, .int .u8 a0_11, .int .u8 a0_12, .int .u8 a0_13, .int .u8 a0_14, .int .u8 a0_15, .int .u8 a0_16] 25 (0, 0)) (by (with_reducible repeat (first | refine blk_drewN ?_ _ | refine blk_drew ?_ | refine blk_alloc ?_ _)); exact BK258.out) hb); have n2_ := Aside0.mk (below_step (by repeat (first | (with_reducible first | exact HB.out | apply below_alloc | apply pw_below_drewN | apply below_drew1 | refine below_set ?_ GE258.out) | exact HB.out)) hb); clear HO_5; clear BK258; clear HB; have HO_5 := n0_; have BK258 := n1_; have HB := n2_; clear n0_ n1_ n2_; (try clear hb); (try clear hb2); (try clear hk); (try clear hi)))
        go_ret2
        exact ⟨by first | rfl | (simp [errW_none, errW_some] <;> rfl) | (simp [*, errW_none, errW_some] <;> rfl) | (simp [errW_none, errW_some]; first | exact isEmpty_bne _ | exact isEmpty_beq _ | exact (isEmpty_bne _).symm), by repeat (first | (with_reducible first | exact HB.out | apply below_alloc | apply pw_below_drewN | apply below_drew1 | refine below_set ?_ GE258.out) | exact HB.out)⟩
       ·rw [if_neg c29] at H
        have c29b0 : decide (t271 < 2) = false := decide_eq_false c29
        clear c29
        by_cases c33 : 0 ≤ t270
        ·rw [if_pos c33] at H
         have c33b0 := eq_true c33
         have c33b1 : decide (0 ≤ t270) = true := decide_eq_true c33
         clear c33
         by_cases c34 : t270 ≤ (x5_1.length : Int)
         ·rw [if_pos c34] at H
          have c34b0 := eq_true c34
          have c34b1 : decide (t270 ≤ (x5_1.length : Int)) = true := decide_eq_true c34
          clear c34
          obtain ⟨y273, hy273⟩ : ∃ y_ : List Int, y_ = (x5_1.take (t270 : Int).toNat) := ⟨_, rfl⟩
          replace H : ((ip_hex.f k1 y273).bind fun t277 => (if t277.size + 2 ≤ 9223372036854775807 then (if 0 ≤ (wrap64 (t270 + t271)) then (if (wrap64 (t270 + t271)) ≤ (x5_1.length : Int) then ((ip_hex.f k1 (x5_1.drop ((wrap64 (t270 + t271)) : Int).toNat)).bind fun t282 => (if (t277 ++ (⟨#[58, 58]⟩ : ByteArray)).size + t282.size ≤ 9223372036854775807 then (some ((t277 ++ (⟨#[58, 58]⟩ : ByteArray)) ++ t282, 0)) else (none))) else (none)) else (none)) else (none))) = some (r1, r2) := by first | (rw [hy273]; with_reducible exact H) | (have H2_ := (Option.bind_some _ _).symm.trans H; rw [hy273]; with_reducible exact H2_) | (have H2_ := (Option.bind_some _ _).symm.trans H; with_reducible exact H2_) | with_reducible exact H | (rw [hy273]; exact H) | exact H
          have Ny273 := Aside0.mk hy273
          clear hy273
          replace H := Option.bind_eq_some_iff.mp H
          obtain ⟨t277, A350, H⟩ := H
          replace H : (if t277.size + 2 ≤ 9223372036854775807 then (if 0 ≤ (wrap64 (t270 + t271)) then (if (wrap64 (t270 + t271)) ≤ (x5_1.length : Int) then ((ip_hex.f k1 (x5_1.drop ((wrap64 (t270 + t271)) : Int).toNat)).bind fun t282 => (if (t277 ++ (⟨#[58, 58]⟩ : ByteArray)).size + t282.size ≤ 9223372036854775807 then (some ((t277 ++ (⟨#[58, 58]⟩ : ByteArray)) ++ t282, 0)) else (none))) else (none)) else (none)) else (none)) = some (r1, r2) := H
          have A35 := Aside0.mk A350
          clear A350
          by_cases c36 : t277.size + 2 ≤ 9223372036854775807
          ·rw [if_pos c36] at H
           have c36b0 := eq_true c36
           have c36b1 : decide (t277.size + 2 ≤ 9223372036854775807) = true := decide_eq_true c36
           try have c36b2 : (9223372036854775807 < t277.size + 2) = False := eq_false (Nat.not_lt.2 c36)
           obtain ⟨ji37, hji37⟩ : ∃ j_ : Int, (wrap64 (t270 + t271)) = j_ := ⟨_, rfl⟩
           replace H : (if 0 ≤ (ji37) then (if (ji37) ≤ (x5_1.length : Int) then ((ip_hex.f k1 (x5_1.drop ((ji37) : Int).toNat)).bind fun t282 => (if (t277 ++ (⟨#[58, 58]⟩ : ByteArray)).size + t282.size ≤ 9223372036854775807 then (some ((t277 ++ (⟨#[58, 58]⟩ : ByteArray)) ++ t282, 0)) else (none))) else (none)) else (none)) = some (r1, r2) := by first | (rw [hji37] at H; exact H) | (simp only [hji37] at H ⊢; exact H)
           (try rw [hji37] at A28)
           (try rw [hji37] at A35)
           have hji37w : (IntKind.i64.wrap (t270 + t271)) = ji37 := (i64_w _).trans hji37
           by_cases c38 : 0 ≤ (ji37)
           ·rw [if_pos c38] at H
            have c38b0 := eq_true c38
            have c38b1 : decide (0 ≤ (ji37)) = true := decide_eq_true c38
            clear c38
            by_cases c39 : (ji37) ≤ (x5_1.length : Int)
            ·rw [if_pos c39] at H
             have c39b0 := eq_true c39
             have c39b1 : decide ((ji37) ≤ (x5_1.length : Int)) = true := decide_eq_true c39
             clear c39
             obtain ⟨y278, hy278⟩ : ∃ y_ : List Int, y_ = (x5_1.drop ((ji37) : Int).toNat) := ⟨_, rfl⟩
             replace H : ((ip_hex.f k1 y278).bind fun t282 => (if (t277 ++ (⟨#[58, 58]⟩ : ByteArray)).size + t282.size ≤ 9223372036854775807 then (some ((t277 ++ (⟨#[58, 58]⟩ : ByteArray)) ++ t282, 0)) else (none))) = some (r1, r2) := by first | (rw [hy278]; with_reducible exact H) | (have H2_ := (Option.bind_some _ _).symm.trans H; rw [hy278]; with_reducible exact H2_) | (have H2_ := (Option.bind_some _ _).symm.trans H; with_reducible exact H2_) | with_reducible exact H | (rw [hy278]; exact H) | exact H
             have Ny278 := Aside0.mk hy278
             clear hy278
             replace H := Option.bind_eq_some_iff.mp H
             obtain ⟨t282, A400, H⟩ := H
             replace H : (if (t277 ++ (⟨#[58, 58]⟩ : ByteArray)).size + t282.size ≤ 9223372036854775807 then (some ((t277 ++ (⟨#[58, 58]⟩ : ByteArray)) ++ t282, 0)) else (none)) = some (r1, r2) := H
             have A40 := Aside0.mk A400
             clear A400
             by_cases c41 : (t277 ++ (⟨#[58, 58]⟩ : ByteArray)).size + t282.size ≤ 9223372036854775807
             ·rw [if_pos c41] at H
              have c41b0 := eq_true c41
              have c41b1 : decide ((t277 ++ (⟨#[58, 58]⟩ : ByteArray)).size + t282.size ≤ 9223372036854775807) = true := decide_eq_true c41
              try have c41b2 : (9223372036854775807 < (t277 ++ (⟨#[58, 58]⟩ : ByteArray)).size + t282.size) = False := eq_false (Nat.not_lt.2 c41)
              try have c41b8 : (9223372036854775807 < t277.size + 2 + t282.size) = False := eq_false (by have hq := of_eq_true c41b0; simp only [ByteArray.size_append, ByteArray.size_extract] at hq; have hz0 : (⟨#[58, 58]⟩ : ByteArray).size = 2 := rfl; omega)
              simp only [Option.some.injEq, Prod.mk.injEq] at H
              obtain ⟨rfl, rfl⟩ := H
              obtain ⟨Ao42, co42, eo42⟩ := Kd.R_slice HO_5.out
              subst eo42
              try go_wp2_with (first | ((with_reducible refine gate_callee (f := 33) rfl ?_); refine goesL_ (some 48) rfl rfl Tryd.func33 (by kernel_rfl) rfl #[.slice Ao42 x5_1.length co42] rfl (by (try simp only [List.map_toArray, List.map_cons, List.map_nil]); first | done | rfl | (simp only [List.length_drop, List.length_take]; rfl)) ?_; (with_reducible refine (ip_longest.calls k1 _ _ x5_1 t270 t271 _ ?side3 ?side1 ?side2 A28.out).mono ?_); (case side1 => repeat (first | exact (Kd.R_reads' HO_5.out).2.2 | (with_reducible refine Kd.C_alloc ?_ _) | (with_reducible refine Kd.C_drewN ?_ _) | (with_reducible refine Kd.C_drew ?_))); (case side2 => exact (Kd.R_reads' HO_5.out).2.1); (case side3 => exact LW.below HLW.out (by repeat (first | (with_reducible first | exact HB.out | apply below_alloc | apply pw_below_drewN | apply below_drew1 | refine below_set ?_ GE258.out) | exact HB.out))); rintro e w' ⟨rfl, ⟨nd, rfl⟩⟩; refine ⟨_, rfl, ?_⟩))
              (try (rw [drewN_self wr]; generalize hq_ : World.drewN wr _ = wr; have n0_ : Aside0 (Kd.R (Kd.int .i64) 3 wr w.heap.size (fun _ => True) (.slice Ao42 x5_1.length co42) x5_1) := ⟨by rw [← hq_]; exact (by (with_reducible repeat (first | apply Kd.R_alloc | apply Kd.R_drewN | apply Kd.R_drew)); exact HO_5.out)⟩; have n1_ : Aside0 (wr.heap[gb258]? = some (.cells #[.bool true, .int .u8 a0_1, .int .u8 a0_2, .int .u8 a0_3, .int .u8 a0_4, .int .u8 a0_5, .int .u8 a0_6, .int .u8 a0_7, .int .u8 a0_8, .int .u8 a0_9, .int .u8 a0_10, .int .u8 a0_11, .int .u8 a0_12, .int .u8 a0_13, .int .u8 a0_14, .int .u8 a0_15, .int .u8 a0_16] 25 (0, 0))) := ⟨by rw [← hq_]; exact (by (with_reducible repeat (first | refine blk_drewN ?_ _ | refine blk_drew ?_ | refine blk_alloc ?_ _)); exact BK258.out)⟩; have n2_ : Aside0 (Below w.heap.size w wr) := ⟨by rw [← hq_]; exact (by repeat (first | (with_reducible first | exact HB.out | apply below_alloc | apply pw_below_drewN | apply below_drew1 | refine below_set ?_ GE258.out) | exact HB.out))⟩; clear HO_5 BK258 HB hq_; have HO_5 := n0_; have BK258 := n1_; have HB := n2_; clear n0_ n1_ n2_))
              have n0_ := Aside0.mk (Kd.R_drew HO_5.out)
              have n1_ := Aside0.mk (blk_drew BK258.out)
              have n2_ := Aside0.mk (below_drew1 HB.out)
              clear HO_5
              clear BK258
              clear HB
              have HO_5 := n0_
              have BK258 := n1_
              have HB := n2_
              clear n0_ n1_ n2_
              have q44 : (t270 : Int) ≤ ((x5_1.length : Int) : Int) := of_decide_eq_true (by first | (with_reducible assumption) | assumption)
              obtain ⟨i044, hi044, _, hsz44, _⟩ := info_parts info3
              have hroom44 : x5_1.length ≤ co42 := (Kd.R_reads' HO_5.out).2.1
              have hC44 : Kd.C (Kd.int .i64) _ Ao42 x5_1.length x5_1 := (Kd.R_reads' HO_5.out).2.2
              have hcut44 := cut_to (P := Tryd.prog) 63 3 .i64 Tryd.underlying63 hi044 Ao42 x5_1.length co42 t270 (of_decide_eq_true (by first | (with_reducible assumption) | assumption)) q44 hroom44
              have hr44 := Kd.C_take (m := (t270 : Int).toNat) hC44 (by omega)
              have hy44 : y273.length = (t270 : Int).toNat := (by rw [Ny273.out, List.length_take]; omega)
              rw [← Ny273.out] at hr44
              rw [← hy44] at hcut44
              have HR276 := Aside0.mk hr44
              have HC276 := Aside0.mk (show y273.length ≤ co42 from by omega)
              clear hr44 hC44 hroom44 hi044 hsz44
              have KY44 := Aside0.mk hy44
              clear hy44
              have KL44 := Aside0.mk (show (t270 : Int).toNat ≤ x5_1.length from by omega)
              replace q44 := eq_true q44
              have q45 : ((ji37) : Int) ≤ ((x5_1.length : Int) : Int) := of_decide_eq_true (by first | (with_reducible assumption) | assumption)
              obtain ⟨i045, hi045, _, hsz45, _⟩ := info_parts info3
              have hroom45 : x5_1.length ≤ co42 := (Kd.R_reads' HO_5.out).2.1
              have hC45 : Kd.C (Kd.int .i64) _ Ao42 x5_1.length x5_1 := (Kd.R_reads' HO_5.out).2.2
              have q045 : (0 : Int) ≤ ((ji37) : Int) := of_decide_eq_true (by first | (with_reducible assumption) | assumption)
              have hcut45 := cut_from (P := Tryd.prog) 63 3 .i64 Tryd.underlying63 hi045 1 hsz45 Ao42 x5_1.length co42 (ji37) q045 q45
              have hr45 := Kd.C_drop (m := ((ji37) : Int).toNat) (c := co42) hC45 (by omega) hroom45
              obtain ⟨A45, hA45⟩ : ∃ A1, A1 = (if co42 = ((ji37) : Int).toNat then Ao42 else (Ao42 : Option Addr).map (·.add (((ji37) : Int).toNat * 1))) := ⟨_, rfl⟩
              obtain ⟨c45, hc45⟩ : ∃ c1, c1 = co42 - ((ji37) : Int).toNat := ⟨_, rfl⟩
              have hy45 : y278.length = x5_1.length - ((ji37) : Int).toNat := (by rw [Ny278.out, List.length_drop] <;> omega)
              rw [show (x5_1).drop ((ji37) : Int).toNat = y278 from Ny278.out.symm] at hr45
              replace hr45 : Kd.C (Kd.int .i64) _ A45 y278.length y278 := (by rw [hA45]; exact hr45)
              rw [← hy45, ← hA45, ← hc45] at hcut45
              have HR281 := Aside0.mk hr45
              have HC281 := Aside0.mk (show y278.length ≤ c45 from by rw [hy45, hc45]; exact Nat.sub_le_sub_right hroom45 _)
              clear hr45 hC45 hroom45 hi045 hsz45 hc45
              have KY45 := Aside0.mk hy45
              have KA45 := Aside0.mk hA45
              clear hy45 hA45
              have KL45 := Aside0.mk (show ((ji37) : Int).toNat ≤ x5_1.length from by omega)
              replace q45 := eq_true q45
              refine start_ (n := 14) (S := fun w' => True) (ds := []) #[false, false, false, false, false, false, false, false, false, false, false, false, false, false] (by kernel_rfl) rfl rfl trivial (fun hHeld => ?_); refine with_tabW ip_Print.tab16 ip_Print.bits16 (fun HT_ HW_ => ?_)
              generalize wr.drew = w43 at HO_5 BK258 HB HR276 HR281 hHeld ⊢
              refine pure_ (i := 0) (N := some 55) (v := ?_) (a' := ?_) #[true, false, false, false, false, false, false, false, false, false, false, false, false, false] rfl rfl (any_of HT_.out (by kernel_rfl)) (fun _ _ _ h => h) (Or.inl ⟨by rfl, ?_⟩) ?_ ?_
              rotate_left
              ·intro w'
               go_simp
               with_reducible rfl
              rotate_left
              ·simp only [Act.put, List.setIfInBounds_toArray, List.set_cons_zero, List.set_cons_succ, i64_w, i32_w]
               rfl
              refine pure_ (i := 1) (N := some 56) (v := ?_) (a' := ?_) #[true, true, false, false, false, false, false, false, false, false, false, false, false, false] rfl rfl (any_of HT_.out (by kernel_rfl)) (fun _ _ _ h => h) (Or.inl ⟨by rfl, ?_⟩) ?_ ?_
              rotate_left
              ·intro w'
               go_simp
               with_reducible rfl
              rotate_left
              ·simp only [Act.put, List.setIfInBounds_toArray, List.set_cons_zero, List.set_cons_succ, i64_w, i32_w]
               rfl
              refine pure_ (i := 2) (N := some 57) (v := ?_) (a' := ?_) #[true, true, true, false, false, false, false, false, false, false, false, false, false, false] rfl rfl (any_of HT_.out (by kernel_rfl)) (fun _ _ _ h => h) (Or.inl ⟨by rfl, ?_⟩) ?_ ?_
              rotate_left
              ·intro w'
               go_simp
               with_reducible rfl
              rotate_left
              ·simp only [Act.put, List.setIfInBounds_toArray, List.set_cons_zero, List.set_cons_succ, i64_w, i32_w]
               rfl
              refine pure_ (i := 5) (N := some 60) (v := ?_) (a' := ?_) #[true, true, true, false, false, true, false, false, false, false, false, false, false, false] rfl rfl (any_of HT_.out (by kernel_rfl)) (fun _ _ _ h => h) (Or.inl ⟨by rfl, ?_⟩) ?_ ?_
              rotate_left
              ·intro w'
               go_simp
               with_reducible rfl
              rotate_left
              ·simp only [Act.put, List.setIfInBounds_toArray, List.set_cons_zero, List.set_cons_succ, i64_w, i32_w]
               rfl
              refine pure_ (i := 6) (N := some 61) (v := ?_) (a' := ?_) #[true, true, true, false, false, true, true, false, false, false, false, false, false, false] rfl rfl (any_of HT_.out (by kernel_rfl)) (fun _ _ _ h => h) (Or.inl ⟨by rfl, ?_⟩) ?_ ?_
              rotate_left
              ·intro w'
               go_simp
               with_reducible rfl
              rotate_left
              ·simp only [Act.put, List.setIfInBounds_toArray, List.set_cons_zero, List.set_cons_succ, i64_w, i32_w]
               rfl
              refine pure_ (i := 7) (N := some 62) (v := ?_) (a' := ?_) #[true, true, true, false, false, true, true, true, false, false, false, false, false, false] rfl rfl (any_of HT_.out (by kernel_rfl)) (fun _ _ _ h => h) (Or.inl ⟨by rfl, ?_⟩) ?_ ?_
              rotate_left
              ·intro w'
               go_simp
               with_reducible rfl
              rotate_left
              ·simp only [Act.put, List.setIfInBounds_toArray, List.set_cons_zero, List.set_cons_succ, i64_w, i32_w]
               rfl
              refine pure_ (i := 8) (N := some 63) (v := ?_) (a' := ?_) #[true, true, true, false, false, true, true, true, true, false, false, false, false, false] rfl rfl (any_of HT_.out (by kernel_rfl)) (fun _ _ _ h => h) (Or.inl ⟨by rfl, ?_⟩) ?_ ?_
              rotate_left
              ·intro w'
               go_simp
               with_reducible rfl
              rotate_left
              ·simp only [Act.put, List.setIfInBounds_toArray, List.set_cons_zero, List.set_cons_succ, i64_w, i32_w]
               rfl
              refine pure_ (i := 9) (N := some 64) (v := ?_) (a' := ?_) #[true, true, true, false, false, true, true, true, true, true, false, false, false, false] rfl rfl (any_of HT_.out (by kernel_rfl)) (fun _ _ _ h => h) (Or.inl ⟨by rfl, ?_⟩) ?_ ?_
              rotate_left
              ·intro w'
               go_simp
               with_reducible rfl
              rotate_left
              ·simp only [Act.put, List.setIfInBounds_toArray, List.set_cons_zero, List.set_cons_succ, i64_w, i32_w]
               rfl
              refine one_ (i := 3) (N := some 58) #[true, true, true, true, false, true, true, true, true, true, false, false, false, false] rfl rfl (one_of HT_.out (by kernel_rfl)) (by decide) (fun K hK => ?_)
              refine goes_ Tryd.func34 (by kernel_rfl) rfl #[.slice Ao42 y273.length co42] (by rfl) rfl rfl (by (try simp only [List.map_toArray, List.map_cons, List.map_nil]); first | done | rfl | (simp only [List.length_drop, List.length_take]; rfl)) ?_
              with_reducible refine (ip_hex.calls k1 _ _ y273 t277 _ ?side3 ?side1 ?side2 A35.out).mono ?_
              (case side1 => repeat (first | exact (by repeat (first | (with_reducible exact HR276.out) | (with_reducible refine Kd.C_alloc ?_ _) | (with_reducible refine Kd.C_drewN ?_ _) | (with_reducible refine Kd.C_drew ?_) | exact HR276.out)) | (with_reducible refine Kd.C_alloc ?_ _) | (with_reducible refine Kd.C_drewN ?_ _) | (with_reducible refine Kd.C_drew ?_)))
              (case side2 => exact HC276.out)
              (case side3 => exact LW.below HLW.out (by repeat (first | (with_reducible first | exact HB.out | apply below_alloc | apply pw_below_drewN | apply below_drew1 | refine below_set ?_ GE258.out) | exact HB.out)))
              rintro e w46 ⟨rfl, hb⟩
              refine ⟨_, rfl, ?_⟩
              have n0_ := Aside0.mk (Kd.R_below (by (with_reducible repeat (first | apply Kd.R_alloc | apply Kd.R_drewN | apply Kd.R_drew)); exact HO_5.out) hb)
              have n1_ := Aside0.mk (blk_below (g := gb258) (o := .cells #[.bool true, .int .u8 a0_1, .int .u8 a0_2, .int .u8 a0_3, .int .u8 a0_4, .int .u8 a0_5, .int .u8 a0_6, .int .u8 a0_7, .int .u8 a0_8, .int .u8 a0_9, .int .u8 a0_10, .int .u8 a0_11, .int .u8 a0_12, .int .u8 a0_13, .int .u8 a0_14, .int .u8 a0_15, .int .u8 a0_16] 25 (0, 0)) (by (with_reducible repeat (first | refine blk_drewN ?_ _ | refine blk_drew ?_ | refine blk_alloc ?_ _)); exact BK258.out) hb)
              have n2_ := Aside0.mk (Kd.C_below (by repeat (first | (with_reducible exact HR276.out) | (with_reducible refine Kd.C_alloc ?_ _) | (with_reducible refine Kd.C_drewN ?_ _) | (with_reducible refine Kd.C_drew ?_) | exact HR276.out)) hb)
              have n3_ := Aside0.mk (Kd.C_below (by repeat (first | (with_reducible exact HR281.out) | (with_reducible refine Kd.C_alloc ?_ _) | (with_reducible refine Kd.C_drewN ?_ _) | (with_reducible refine Kd.C_drew ?_) | exact HR281.out)) hb)
              have n4_ := Aside0.mk (below_step (by repeat (first | (with_reducible first | exact HB.out | apply below_alloc | apply pw_below_drewN | apply below_drew1 | refine below_set ?_ GE258.out) | exact HB.out)) hb)
              clear HO_5
              clear BK258
              clear HR276
              clear HR281
              clear HB
              have HO_5 := n0_
              have BK258 := n1_
              have HR276 := n2_
              have HR281 := n3_
              have HB := n4_
              clear n0_ n1_ n2_ n3_ n4_
              (try clear hb)
              (try clear hb2)
              (try clear hk)
              (try clear hi)
              refine hK.out _ _ trivial (fun hHeld => ?_)
              clear hK K
              refine norm_ (a' := ?_) ?_ ?_
              rotate_left
              ·show Act.put _ (some 58) _ = _
               simp only [Act.put, List.setIfInBounds_toArray, List.set_cons_zero, List.set_cons_succ, i64_w, i32_w]
               rfl
              refine pure_ (i := 4) (N := some 59) (v := ?_) (a' := ?_) #[true, true, true, true, true, true, true, true, true, true, false, false, false, false] rfl rfl (any_of HT_.out (by kernel_rfl)) (fun _ _ _ h => h) (Or.inl ⟨by rfl, ?_⟩) ?_ ?_
              rotate_left
              ·intro w'
               go_simp
               with_reducible rfl
              rotate_left
              ·simp only [Act.put, List.setIfInBounds_toArray, List.set_cons_zero, List.set_cons_succ, i64_w, i32_w]
               rfl
              refine one_ (i := 10) (N := some 65) #[true, true, true, true, true, true, true, true, true, true, true, false, false, false] rfl rfl (one_of HT_.out (by kernel_rfl)) (by decide) (fun K hK => ?_)
              refine goes_ Tryd.func34 (by kernel_rfl) rfl #[.slice A45 y278.length c45] (by rfl) rfl rfl (by (try simp only [List.map_toArray, List.map_cons, List.map_nil]); first | done | rfl | (simp only [List.length_drop, List.length_take]; rfl)) ?_
              with_reducible refine (ip_hex.calls k1 _ _ y278 t282 _ ?side3 ?side1 ?side2 A40.out).mono ?_
              (case side1 => repeat (first | exact (by repeat (first | (with_reducible exact HR281.out) | (with_reducible refine Kd.C_alloc ?_ _) | (with_reducible refine Kd.C_drewN ?_ _) | (with_reducible refine Kd.C_drew ?_) | exact HR281.out)) | (with_reducible refine Kd.C_alloc ?_ _) | (with_reducible refine Kd.C_drewN ?_ _) | (with_reducible refine Kd.C_drew ?_)))
              (case side2 => exact HC281.out)
              (case side3 => exact LW.below HLW.out (by repeat (first | (with_reducible first | exact HB.out | apply below_alloc | apply pw_below_drewN | apply below_drew1 | refine below_set ?_ GE258.out) | exact HB.out)))
              rintro e w47 ⟨rfl, hb⟩
              refine ⟨_, rfl, ?_⟩
              have n0_ := Aside0.mk (Kd.R_below (by (with_reducible repeat (first | apply Kd.R_alloc | apply Kd.R_drewN | apply Kd.R_drew)); exact HO_5.out) hb)
              have n1_ := Aside0.mk (blk_below (g := gb258) (o := .cells #[.bool true, .int .u8 a0_1, .int .u8 a0_2, .int .u8 a0_3, .int .u8 a0_4, .int .u8 a0_5, .int .u8 a0_6, .int .u8 a0_7, .int .u8 a0_8, .int .u8 a0_9, .int .u8 a0_10, .int .u8 a0_11, .int .u8 a0_12, .int .u8 a0_13, .int .u8 a0_14, .int .u8 a0_15, .int .u8 a0_16] 25 (0, 0)) (by (with_reducible repeat (first | refine blk_drewN ?_ _ | refine blk_drew ?_ | refine blk_alloc ?_ _)); exact BK258.out) hb)
              have n2_ := Aside0.mk (Kd.C_below (by repeat (first | (with_reducible exact HR276.out) | (with_reducible refine Kd.C_alloc ?_ _) | (with_reducible refine Kd.C_drewN ?_ _) | (with_reducible refine Kd.C_drew ?_) | exact HR276.out)) hb)
              have n3_ := Aside0.mk (Kd.C_below (by repeat (first | (with_reducible exact HR281.out) | (with_reducible refine Kd.C_alloc ?_ _) | (with_reducible refine Kd.C_drewN ?_ _) | (with_reducible refine Kd.C_drew ?_) | exact HR281.out)) hb)
              have n4_ := Aside0.mk (below_step (by repeat (first | (with_reducible first | exact HB.out | apply below_alloc | apply pw_below_drewN | apply below_drew1 | refine below_set ?_ GE258.out) | exact HB.out)) hb)
              clear HO_5
              clear BK258
              clear HR276
              clear HR281
              clear HB
              have HO_5 := n0_
              have BK258 := n1_
              have HR276 := n2_
              have HR281 := n3_
              have HB := n4_
              clear n0_ n1_ n2_ n3_ n4_
              (try clear hb)
              (try clear hb2)
              (try clear hk)
              (try clear hi)
              refine hK.out _ _ trivial (fun hHeld => ?_)
              clear hK K
              refine norm_ (a' := ?_) ?_ ?_
              rotate_left
              ·show Act.put _ (some 65) _ = _
               simp only [Act.put, List.setIfInBounds_toArray, List.set_cons_zero, List.set_cons_succ, i64_w, i32_w]
               rfl
              refine pure_ (i := 11) (N := some 66) (v := ?_) (a' := ?_) #[true, true, true, true, true, true, true, true, true, true, true, true, false, false] rfl rfl (any_of HT_.out (by kernel_rfl)) (fun _ _ _ h => h) (Or.inl ⟨by rfl, ?_⟩) ?_ ?_
              rotate_left
              ·intro w'
               go_simp
               with_reducible rfl
              rotate_left
              ·simp only [Act.put, List.setIfInBounds_toArray, List.set_cons_zero, List.set_cons_succ, i64_w, i32_w]
               rfl
              refine pure_ (i := 12) (N := some 2) (v := ?_) (a' := ?_) #[true, true, true, true, true, true, true, true, true, true, true, true, true, false] rfl rfl (any_of HT_.out (by kernel_rfl)) (fun _ _ _ h => h) (Or.inl ⟨by rfl, ?_⟩) ?_ ?_
              rotate_left
              ·intro w'
               go_simp
               with_reducible rfl
              rotate_left
              ·simp only [Act.put, List.setIfInBounds_toArray, List.set_cons_zero, List.set_cons_succ, i64_w, i32_w]
               rfl
              refine pure_ (i := 13) (N := some 3) (v := ?_) (a' := ?_) #[true, true, true, true, true, true, true, true, true, true, true, true, true, true] rfl rfl (any_of HT_.out (by kernel_rfl)) (fun _ _ _ h => h) (Or.inl ⟨by rfl, ?_⟩) ?_ ?_
              rotate_left
              ·intro w'
               go_simp
               with_reducible rfl
              rotate_left
              ·simp only [Act.put, List.setIfInBounds_toArray, List.set_cons_zero, List.set_cons_succ, i64_w, i32_w]
               rfl
              refine done_ (done_of HT_.out (by kernel_rfl)) ?_
              try go_wp2
              go_ret2
              exact ⟨by first | rfl | (simp [errW_none, errW_some] <;> rfl) | (simp only [← hji37]; first | rfl | (simp [errW_none, errW_some] <;> rfl)) | (simp [*, errW_none, errW_some] <;> rfl) | (simp [errW_none, errW_some]; first | exact isEmpty_bne _ | exact isEmpty_beq _ | exact (isEmpty_bne _).symm), by repeat (first | (with_reducible first | exact HB.out | apply below_alloc | apply pw_below_drewN | apply below_drew1 | refine below_set ?_ GE258.out) | exact HB.out)⟩
             ·rw [if_neg c41] at H
              exact absurd H (by simp)
            ·rw [if_neg c39] at H
             exact absurd H (by simp)
           ·rw [if_neg c38] at H
            exact absurd H (by simp)
          ·rw [if_neg c36] at H
           exact absurd H (by simp)
         ·rw [if_neg c34] at H
          exact absurd H (by simp)
        ·rw [if_neg c33] at H
         exact absurd H (by simp)
  ·replace c4 := Bool.eq_false_iff.mpr c4
   subst c4
   have H1 : ((ip_dots.f k ([a0_13, a0_14, a0_15, a0_16] : List Int)).bind fun t261 => (some (t261, 0))) = some (r1, r2) := by rw [if_neg (show ¬ (false = true) by decide)] at H; exact H
   clear H
   have H := H1
   clear H1
   replace H := Option.bind_eq_some_iff.mp H
   obtain ⟨t261, A480, H⟩ := H
   replace H : (some (t261, 0)) = some (r1, r2) := H
   have A48 := Aside0.mk A480
   clear A480
   simp only [Option.some.injEq, Prod.mk.injEq] at H
   obtain ⟨rfl, rfl⟩ := H
   go_enter Tryd.func11, Tryd.ntmps11
   go_wp2_with (first | ((with_reducible refine gate_dst (N := 1) rfl ?_); refine box_event ?hg (N := 1) ?hd (cs := #[.bool false, .int .u8 a0_1, .int .u8 a0_2, .int .u8 a0_3, .int .u8 a0_4, .int .u8 a0_5, .int .u8 a0_6, .int .u8 a0_7, .int .u8 a0_8, .int .u8 a0_9, .int .u8 a0_10, .int .u8 a0_11, .int .u8 a0_12, .int .u8 a0_13, .int .u8 a0_14, .int .u8 a0_15, .int .u8 a0_16]) (t := 25) ?hr ?_; (case hd => rfl); (case hg => rfl); (case hr => first | (go_simp; done) | (go_simp; rfl)); intro gb258 hg w49 hbox hb; have n0_ := Aside0.mk (below_step (by repeat (first | (with_reducible first | exact HB.out | apply below_alloc | apply pw_below_drewN | apply below_drew1) | exact HB.out)) hb); have n1_ := Aside0.mk (hbox); have n2_ := Aside0.mk ((by rw [hg]; exact (below_size (by repeat (first | (with_reducible first | exact HB.out | apply below_alloc | apply pw_below_drewN | apply below_drew1) | exact HB.out))) : w.heap.size ≤ gb258)); have n3_ := Aside0.mk ((by rw [hg]; exact (below_size (by repeat (first | (with_reducible first | exact HB.out | apply below_alloc | apply pw_below_drewN | apply below_drew1) | exact HB.out))) : w.heap.size ≤ gb258)); clear HB; have HB := n0_; have BK258 := n1_; have GW258 := n2_; have GE258 := n3_; clear n0_ n1_ n2_ n3_; clear hb hbox hg) | ((with_reducible refine gate_dst (N := 9) rfl ?_); (try (refine gate_guard (by rfl) ?_; dsimp only)); refine load_box ?hg 25 (.tmp 1) rfl BK258.out [] [.bool false, .int .u8 a0_1, .int .u8 a0_2, .int .u8 a0_3, .int .u8 a0_4, .int .u8 a0_5, .int .u8 a0_6, .int .u8 a0_7, .int .u8 a0_8, .int .u8 a0_9, .int .u8 a0_10, .int .u8 a0_11, .int .u8 a0_12, .int .u8 a0_13, .int .u8 a0_14, .int .u8 a0_15, .int .u8 a0_16] [] rfl 0 rfl rfl Tryd.underlying25 rfl (by kernel_rfl) ?_; (case hg => rfl)) | ((with_reducible refine gate_callee (f := 13) rfl ?_); refine goesL_ (some 10) rfl rfl Tryd.func13 (by kernel_rfl) rfl #[.agg #[.bool false, .int .u8 a0_1, .int .u8 a0_2, .int .u8 a0_3, .int .u8 a0_4, .int .u8 a0_5, .int .u8 a0_6, .int .u8 a0_7, .int .u8 a0_8, .int .u8 a0_9, .int .u8 a0_10, .int .u8 a0_11, .int .u8 a0_12, .int .u8 a0_13, .int .u8 a0_14, .int .u8 a0_15, .int .u8 a0_16]] rfl (by (try simp only [List.map_toArray, List.map_cons, List.map_nil]); first | done | rfl | (simp only [List.length_drop, List.length_take]; rfl)) ?_; (with_reducible refine (ip_Check.calls false a0_1 a0_2 a0_3 a0_4 a0_5 a0_6 a0_7 a0_8 a0_9 a0_10 a0_11 a0_12 a0_13 a0_14 a0_15 a0_16 t259 _ ?side1 A2.out).mono ?_); (case side1 => exact LW.below HLW.out (by repeat (first | (with_reducible first | exact HB.out | apply below_alloc | apply pw_below_drewN | apply below_drew1 | refine below_set ?_ GE258.out) | exact HB.out))); rintro e w50 ⟨rfl, hb⟩; refine ⟨_, rfl, ?_⟩; have n0_ := Aside0.mk (blk_below (g := gb258) (o := .cells #[.bool false, .int .u8 a0_1, .int .u8 a0_2, .int .u8 a0_3, .int .u8 a0_4, .int .u8 a0_5, .int .u8 a0_6, .int .u8 a0_7, .int .u8 a0_8, .int .u8 a0_9, .int .u8 a0_10, .int .u8 a0_11, .int .u8 a0_12, .int .u8 a0_13, .int .u8 a0_14, .int .u8 a0_15, .int .u8 a0_16] 25 (0, 0)) (by (with_reducible repeat (first | refine blk_drewN ?_ _ | refine blk_drew ?_ | refine blk_alloc ?_ _)); exact BK258.out) hb); have n1_ := Aside0.mk (below_step (by repeat (first | (with_reducible first | exact HB.out | apply below_alloc | apply pw_below_drewN | apply below_drew1 | refine below_set ?_ GE258.out) | exact HB.out)) hb); clear BK258; clear HB; have BK258 := n0_; have HB := n1_; clear n0_ n1_; (try clear hb); (try clear hb2); (try clear hk); (try clear hi); have hcz51_0 : w50.cell? ⟨gb258, 0, none⟩ = some (.bool false) := (blk_cell BK258.out 0).trans rfl; have hcz51_1 : w50.cell? ⟨gb258, 1, none⟩ = some (.int .u8 a0_1) := (blk_cell BK258.out 1).trans rfl; have hcz51_2 : w50.cell? ⟨gb258, 2, none⟩ = some (.int .u8 a0_2) := (blk_cell BK258.out 2).trans rfl; have hcz51_3 : w50.cell? ⟨gb258, 3, none⟩ = some (.int .u8 a0_3) := (blk_cell BK258.out 3).trans rfl; have hcz51_4 : w50.cell? ⟨gb258, 4, none⟩ = some (.int .u8 a0_4) := (blk_cell BK258.out 4).trans rfl; have hcz51_5 : w50.cell? ⟨gb258, 5, none⟩ = some (.int .u8 a0_5) := (blk_cell BK258.out 5).trans rfl; have hcz51_6 : w50.cell? ⟨gb258, 6, none⟩ = some (.int .u8 a0_6) := (blk_cell BK258.out 6).trans rfl; have hcz51_7 : w50.cell? ⟨gb258, 7, none⟩ = some (.int .u8 a0_7) := (blk_cell BK258.out 7).trans rfl; have hcz51_8 : w50.cell? ⟨gb258, 8, none⟩ = some (.int .u8 a0_8) := (blk_cell BK258.out 8).trans rfl; have hcz51_9 : w50.cell? ⟨gb258, 9, none⟩ = some (.int .u8 a0_9) := (blk_cell BK258.out 9).trans rfl; have hcz51_10 : w50.cell? ⟨gb258, 10, none⟩ = some (.int .u8 a0_10) := (blk_cell BK258.out 10).trans rfl; have hcz51_11 : w50.cell? ⟨gb258, 11, none⟩ = some (.int .u8 a0_11) := (blk_cell BK258.out 11).trans rfl; have hcz51_12 : w50.cell? ⟨gb258, 12, none⟩ = some (.int .u8 a0_12) := (blk_cell BK258.out 12).trans rfl; have hcz51_13 : w50.cell? ⟨gb258, 13, none⟩ = some (.int .u8 a0_13) := (blk_cell BK258.out 13).trans rfl; have hcz51_14 : w50.cell? ⟨gb258, 14, none⟩ = some (.int .u8 a0_14) := (blk_cell BK258.out 14).trans rfl; have hcz51_15 : w50.cell? ⟨gb258, 15, none⟩ = some (.int .u8 a0_15) := (blk_cell BK258.out 15).trans rfl; have hcz51_16 : w50.cell? ⟨gb258, 16, none⟩ = some (.int .u8 a0_16) := (blk_cell BK258.out 16).trans rfl; have hfz51_0 := blk_frozen BK258.out 0; have hfz51_1 := blk_frozen BK258.out 1; have hfz51_2 := blk_frozen BK258.out 2; have hfz51_3 := blk_frozen BK258.out 3; have hfz51_4 := blk_frozen BK258.out 4; have hfz51_5 := blk_frozen BK258.out 5; have hfz51_6 := blk_frozen BK258.out 6; have hfz51_7 := blk_frozen BK258.out 7; have hfz51_8 := blk_frozen BK258.out 8; have hfz51_9 := blk_frozen BK258.out 9; have hfz51_10 := blk_frozen BK258.out 10; have hfz51_11 := blk_frozen BK258.out 11; have hfz51_12 := blk_frozen BK258.out 12; have hfz51_13 := blk_frozen BK258.out 13; have hfz51_14 := blk_frozen BK258.out 14; have hfz51_15 := blk_frozen BK258.out 15; have hfz51_16 := blk_frozen BK258.out 16; have HR260 := Aside0.mk (C_arr BK258.out .u8 [.bool false, .int .u8 a0_1, .int .u8 a0_2, .int .u8 a0_3, .int .u8 a0_4, .int .u8 a0_5, .int .u8 a0_6, .int .u8 a0_7, .int .u8 a0_8, .int .u8 a0_9, .int .u8 a0_10, .int .u8 a0_11, .int .u8 a0_12] [a0_13, a0_14, a0_15, a0_16] [] rfl (q := 13) rfl (by show 4 ≤ 9223372036854775807; decide)); have HC260 := Aside0.mk (show ([a0_13, a0_14, a0_15, a0_16] : List Int).length ≤ 4 from by show 4 ≤ 4; decide); have hl260 : ([a0_13, a0_14, a0_15, a0_16] : List Int).length = 4 := rfl) | ((with_reducible refine gate_callee (f := 31) rfl ?_); refine goesL_ (some 19) rfl rfl Tryd.func31 (by kernel_rfl) rfl #[.slice (some ⟨gb258, 13, none⟩) ([a0_13, a0_14, a0_15, a0_16] : List Int).length 4] rfl (by (try simp only [List.map_toArray, List.map_cons, List.map_nil]); first | done | (rw [show ([a0_13, a0_14, a0_15, a0_16] : List Int).length = 4 from rfl] <;> rfl) | rfl | (simp only [List.length_drop, List.length_take]; rfl)) ?_; (with_reducible refine (ip_dots.calls k _ _ ([a0_13, a0_14, a0_15, a0_16] : List Int) t261 _ ?side3 ?side1 ?side2 A48.out).mono ?_); (case side1 => repeat (first | exact (by repeat (first | (with_reducible exact HR260.out) | (with_reducible refine Kd.C_alloc ?_ _) | (with_reducible refine Kd.C_drewN ?_ _) | (with_reducible refine Kd.C_drew ?_) | exact HR260.out)) | (with_reducible refine Kd.C_alloc ?_ _) | (with_reducible refine Kd.C_drewN ?_ _) | (with_reducible refine Kd.C_drew ?_))); (case side2 => exact HC260.out); (case side3 => exact LW.below HLW.out (by repeat (first | (with_reducible first | exact HB.out | apply below_alloc | apply pw_below_drewN | apply below_drew1 | refine below_set ?_ GE258.out) | exact HB.out))); rintro e w52 ⟨rfl, hb⟩; refine ⟨_, rfl, ?_⟩; have n0_ := Aside0.mk (blk_below (g := gb258) (o := .cells #[.bool false, .int .u8 a0_1, .int .u8 a0_2, .int .u8 a0_3, .int .u8 a0_4, .int .u8 a0_5, .int .u8 a0_6, .int .u8 a0_7, .int .u8 a0_8, .int .u8 a0_9, .int .u8 a0_10, .int .u8 a0_11, .int .u8 a0_12, .int .u8 a0_13, .int .u8 a0_14, .int .u8 a0_15, .int .u8 a0_16] 25 (0, 0)) (by (with_reducible repeat (first | refine blk_drewN ?_ _ | refine blk_drew ?_ | refine blk_alloc ?_ _)); exact BK258.out) hb); have n1_ := Aside0.mk (Kd.C_below (by repeat (first | (with_reducible exact HR260.out) | (with_reducible refine Kd.C_alloc ?_ _) | (with_reducible refine Kd.C_drewN ?_ _) | (with_reducible refine Kd.C_drew ?_) | exact HR260.out)) hb); have n2_ := Aside0.mk (below_step (by repeat (first | (with_reducible first | exact HB.out | apply below_alloc | apply pw_below_drewN | apply below_drew1 | refine below_set ?_ GE258.out) | exact HB.out)) hb); clear BK258; clear HR260; clear HB; have BK258 := n0_; have HR260 := n1_; have HB := n2_; clear n0_ n1_ n2_; (try clear hb); (try clear hb2); (try clear hk); (try clear hi)))
   go_ret2
   exact ⟨by first | rfl | (simp [errW_none, errW_some] <;> rfl) | (simp [*, errW_none, errW_some] <;> rfl) | (simp [errW_none, errW_some]; first | exact isEmpty_bne _ | exact isEmpty_beq _ | exact (isEmpty_bne _).symm), by repeat (first | (with_reducible first | exact HB.out | apply below_alloc | apply pw_below_drewN | apply below_drew1 | refine below_set ?_ GE258.out) | exact HB.out)⟩
 ·rw [if_neg c3] at H
  have c3b0 : (t259 == 0) = false := beq_eq_false_iff_ne.mpr c3
  have c3b1 : (t259 != 0) = true := bne_iff_ne.mpr c3
  simp only [Option.some.injEq, Prod.mk.injEq] at H
  obtain ⟨rfl, rfl⟩ := H
  go_enter Tryd.func11, Tryd.ntmps11
  go_wp2_with (first | ((with_reducible refine gate_dst (N := 1) rfl ?_); refine box_event ?hg (N := 1) ?hd (cs := #[.bool a0_0, .int .u8 a0_1, .int .u8 a0_2, .int .u8 a0_3, .int .u8 a0_4, .int .u8 a0_5, .int .u8 a0_6, .int .u8 a0_7, .int .u8 a0_8, .int .u8 a0_9, .int .u8 a0_10, .int .u8 a0_11, .int .u8 a0_12, .int .u8 a0_13, .int .u8 a0_14, .int .u8 a0_15, .int .u8 a0_16]) (t := 25) ?hr ?_; (case hd => rfl); (case hg => rfl); (case hr => first | (go_simp; done) | (go_simp; rfl)); intro gb258 hg w53 hbox hb; have n0_ := Aside0.mk (below_step (by repeat (first | (with_reducible first | exact HB.out | apply below_alloc | apply pw_below_drewN | apply below_drew1) | exact HB.out)) hb); have n1_ := Aside0.mk (hbox); have n2_ := Aside0.mk ((by rw [hg]; exact (below_size (by repeat (first | (with_reducible first | exact HB.out | apply below_alloc | apply pw_below_drewN | apply below_drew1) | exact HB.out))) : w.heap.size ≤ gb258)); have n3_ := Aside0.mk ((by rw [hg]; exact (below_size (by repeat (first | (with_reducible first | exact HB.out | apply below_alloc | apply pw_below_drewN | apply below_drew1) | exact HB.out))) : w.heap.size ≤ gb258)); clear HB; have HB := n0_; have BK258 := n1_; have GW258 := n2_; have GE258 := n3_; clear n0_ n1_ n2_ n3_; clear hb hbox hg) | ((with_reducible refine gate_dst (N := 9) rfl ?_); (try (refine gate_guard (by rfl) ?_; dsimp only)); refine load_box ?hg 25 (.tmp 1) rfl BK258.out [] [.bool a0_0, .int .u8 a0_1, .int .u8 a0_2, .int .u8 a0_3, .int .u8 a0_4, .int .u8 a0_5, .int .u8 a0_6, .int .u8 a0_7, .int .u8 a0_8, .int .u8 a0_9, .int .u8 a0_10, .int .u8 a0_11, .int .u8 a0_12, .int .u8 a0_13, .int .u8 a0_14, .int .u8 a0_15, .int .u8 a0_16] [] rfl 0 rfl rfl Tryd.underlying25 rfl (by kernel_rfl) ?_; (case hg => rfl)) | ((with_reducible refine gate_callee (f := 13) rfl ?_); refine goesL_ (some 10) rfl rfl Tryd.func13 (by kernel_rfl) rfl #[.agg #[.bool a0_0, .int .u8 a0_1, .int .u8 a0_2, .int .u8 a0_3, .int .u8 a0_4, .int .u8 a0_5, .int .u8 a0_6, .int .u8 a0_7, .int .u8 a0_8, .int .u8 a0_9, .int .u8 a0_10, .int .u8 a0_11, .int .u8 a0_12, .int .u8 a0_13, .int .u8 a0_14, .int .u8 a0_15, .int .u8 a0_16]] rfl (by (try simp only [List.map_toArray, List.map_cons, List.map_nil]); first | done | rfl | (simp only [List.length_drop, List.length_take]; rfl)) ?_; (with_reducible refine (ip_Check.calls a0_0 a0_1 a0_2 a0_3 a0_4 a0_5 a0_6 a0_7 a0_8 a0_9 a0_10 a0_11 a0_12 a0_13 a0_14 a0_15 a0_16 t259 _ ?side1 A2.out).mono ?_); (case side1 => exact LW.below HLW.out (by repeat (first | (with_reducible first | exact HB.out | apply below_alloc | apply pw_below_drewN | apply below_drew1 | refine below_set ?_ GE258.out) | exact HB.out))); rintro e w54 ⟨rfl, hb⟩; refine ⟨_, rfl, ?_⟩; have n0_ := Aside0.mk (blk_below (g := gb258) (o := .cells #[.bool a0_0, .int .u8 a0_1, .int .u8 a0_2, .int .u8 a0_3, .int .u8 a0_4, .int .u8 a0_5, .int .u8 a0_6, .int .u8 a0_7, .int .u8 a0_8, .int .u8 a0_9, .int .u8 a0_10, .int .u8 a0_11, .int .u8 a0_12, .int .u8 a0_13, .int .u8 a0_14, .int .u8 a0_15, .int .u8 a0_16] 25 (0, 0)) (by (with_reducible repeat (first | refine blk_drewN ?_ _ | refine blk_drew ?_ | refine blk_alloc ?_ _)); exact BK258.out) hb); have n1_ := Aside0.mk (below_step (by repeat (first | (with_reducible first | exact HB.out | apply below_alloc | apply pw_below_drewN | apply below_drew1 | refine below_set ?_ GE258.out) | exact HB.out)) hb); clear BK258; clear HB; have BK258 := n0_; have HB := n1_; clear n0_ n1_; (try clear hb); (try clear hb2); (try clear hk); (try clear hi)))
  go_ret2
  exact ⟨by first | rfl | (simp [errW_none, errW_some] <;> rfl) | (simp [*, errW_none, errW_some] <;> rfl) | (simp [errW_none, errW_some]; first | exact isEmpty_bne _ | exact isEmpty_beq _ | exact (isEmpty_bne _).symm), by repeat (first | (with_reducible first | exact HB.out | apply below_alloc | apply pw_below_drewN | apply below_drew1 | refine below_set ?_ GE258.out) | exact HB.out)⟩

def lanternlaw05_awake.f (k : Nat)  : Option (Bool) := (ip_Loose.f k (⟨#[48, 120, 55, 102, 46, 49]⟩ : ByteArray)).bind fun bt283 => ((ip_Print.f k bt283.1 bt283.2.1 bt283.2.2.1 bt283.2.2.2.1 bt283.2.2.2.2.1 bt283.2.2.2.2.2.1 bt283.2.2.2.2.2.2.1 bt283.2.2.2.2.2.2.2.1 bt283.2.2.2.2.2.2.2.2.1 bt283.2.2.2.2.2.2.2.2.2.1 bt283.2.2.2.2.2.2.2.2.2.2.1 bt283.2.2.2.2.2.2.2.2.2.2.2.1 bt283.2.2.2.2.2.2.2.2.2.2.2.2.1 bt283.2.2.2.2.2.2.2.2.2.2.2.2.2.1 bt283.2.2.2.2.2.2.2.2.2.2.2.2.2.2.1 bt283.2.2.2.2.2.2.2.2.2.2.2.2.2.2.2.1 bt283.2.2.2.2.2.2.2.2.2.2.2.2.2.2.2.2.1).bind fun bt302 => ((ip_Parse.f k (⟨#[48, 120, 55, 102, 46, 49]⟩ : ByteArray)).bind fun bt304 => (if bt283.2.2.2.2.2.2.2.2.2.2.2.2.2.2.2.2.2 = 0 then (if bt302.2 = 0 then (if bt302.1.toList = ([49, 50, 55, 46, 48, 46, 48, 46, 49] : List UInt8) then (some (bt304.2.2.2.2.2.2.2.2.2.2.2.2.2.2.2.2.2 == 5)) else (none)) else (none)) else (none))))
theorem lanternlaw05_awake.mono : ∀ k, LeO (lanternlaw05_awake.f k ) (lanternlaw05_awake.f (k + 1) ) := by
 intro  k
 unfold lanternlaw05_awake.f
 repeat' first
   | (with_reducible exact ip_Loose.mono _ _)
   | (with_reducible exact ip_Parse.mono _ _)
   | (with_reducible exact ip_Print.mono _ _ _ _ _ _ _ _ _ _ _ _ _ _ _ _ _ _)
   | (with_reducible exact LeO.refl _)
   | (with_reducible exact LeO.none _)
   | (with_reducible refine LeO.ite ?_ ?_)
   | (with_reducible refine LeO.bind ?_ (fun _ => ?_))
   | exact ip_Loose.mono _ _
   | exact ip_Parse.mono _ _
   | exact ip_Print.mono _ _ _ _ _ _ _ _ _ _ _ _ _ _ _ _ _ _
   | exact LeO.none _
   | refine LeO.ite ?_ ?_
   | refine LeO.bind ?_ (fun _ => ?_)
set_option maxHeartbeats 8000000 in
set_option maxRecDepth 100000 in
theorem lanternlaw05_awake.calls (k : Nat)  (r : Bool) (w : World) (hLW : LW w) (h : lanternlaw05_awake.f k  = some r) :
  Calls Tryd.prog 7 #[] w fun e w' => e = .returned (.bool r) ∧ Below w.heap.size w w' := by
 have hu25 := Tryd.underlying25
 have HLW := Aside0.mk hLW
 clear hLW
 have HB := Aside0.mk (Below.refl w.heap.size w)
 have H : ((ip_Loose.f k (⟨#[48, 120, 55, 102, 46, 49]⟩ : ByteArray)).bind fun bt283 => ((ip_Print.f k bt283.1 bt283.2.1 bt283.2.2.1 bt283.2.2.2.1 bt283.2.2.2.2.1 bt283.2.2.2.2.2.1 bt283.2.2.2.2.2.2.1 bt283.2.2.2.2.2.2.2.1 bt283.2.2.2.2.2.2.2.2.1 bt283.2.2.2.2.2.2.2.2.2.1 bt283.2.2.2.2.2.2.2.2.2.2.1 bt283.2.2.2.2.2.2.2.2.2.2.2.1 bt283.2.2.2.2.2.2.2.2.2.2.2.2.1 bt283.2.2.2.2.2.2.2.2.2.2.2.2.2.1 bt283.2.2.2.2.2.2.2.2.2.2.2.2.2.2.1 bt283.2.2.2.2.2.2.2.2.2.2.2.2.2.2.2.1 bt283.2.2.2.2.2.2.2.2.2.2.2.2.2.2.2.2.1).bind fun bt302 => ((ip_Parse.f k (⟨#[48, 120, 55, 102, 46, 49]⟩ : ByteArray)).bind fun bt304 => (if bt283.2.2.2.2.2.2.2.2.2.2.2.2.2.2.2.2.2 = 0 then (if bt302.2 = 0 then (if bt302.1.toList = ([49, 50, 55, 46, 48, 46, 48, 46, 49] : List UInt8) then (some (bt304.2.2.2.2.2.2.2.2.2.2.2.2.2.2.2.2.2 == 5)) else (none)) else (none)) else (none))))) = some r := h
 clear h
 replace H := Option.bind_eq_some_iff.mp H
 obtain ⟨⟨t283, t284, t285, t286, t287, t288, t289, t290, t291, t292, t293, t294, t295, t296, t297, t298, t299, t300⟩, A10, H⟩ := H
 replace H : ((ip_Print.f k t283 t284 t285 t286 t287 t288 t289 t290 t291 t292 t293 t294 t295 t296 t297 t298 t299).bind fun bt302 => ((ip_Parse.f k (⟨#[48, 120, 55, 102, 46, 49]⟩ : ByteArray)).bind fun bt304 => (if t300 = 0 then (if bt302.2 = 0 then (if bt302.1.toList = ([49, 50, 55, 46, 48, 46, 48, 46, 49] : List UInt8) then (some (bt304.2.2.2.2.2.2.2.2.2.2.2.2.2.2.2.2.2 == 5)) else (none)) else (none)) else (none)))) = some r := H
 have A1 := Aside0.mk A10
 clear A10
 replace H := Option.bind_eq_some_iff.mp H
 obtain ⟨⟨t302, t303⟩, A20, H⟩ := H
 replace H : ((ip_Parse.f k (⟨#[48, 120, 55, 102, 46, 49]⟩ : ByteArray)).bind fun bt304 => (if t300 = 0 then (if t303 = 0 then (if t302.toList = ([49, 50, 55, 46, 48, 46, 48, 46, 49] : List UInt8) then (some (bt304.2.2.2.2.2.2.2.2.2.2.2.2.2.2.2.2.2 == 5)) else (none)) else (none)) else (none))) = some r := H
 have A2 := Aside0.mk A20
 clear A20
 replace H := Option.bind_eq_some_iff.mp H
 obtain ⟨⟨t304, t305, t306, t307, t308, t309, t310, t311, t312, t313, t314, t315, t316, t317, t318, t319, t320, t321⟩, A30, H⟩ := H
 replace H : (if t300 = 0 then (if t303 = 0 then (if t302.toList = ([49, 50, 55, 46, 48, 46, 48, 46, 49] : List UInt8) then (some (t321 == 5)) else (none)) else (none)) else (none)) = some r := H
 have A3 := Aside0.mk A30
 clear A30
 by_cases c4 : t300 = 0
 ·rw [if_pos c4] at H
  have c4b0 : (t300 == 0) = true := beq_iff_eq.mpr c4
  have c4b1 : (t300 != 0) = false := bne_eq_false_iff_eq.mpr c4
  clear c4
  by_cases c5 : t303 = 0
  ·rw [if_pos c5] at H
   have c5b0 : (t303 == 0) = true := beq_iff_eq.mpr c5
   have c5b1 : (t303 != 0) = false := bne_eq_false_iff_eq.mpr c5
   clear c5
   by_cases c6 : t302.toList = ([49, 50, 55, 46, 48, 46, 48, 46, 49] : List UInt8)
   ·rw [if_pos c6] at H
    have c6b0 : (t302.toList == ([49, 50, 55, 46, 48, 46, 48, 46, 49] : List UInt8)) = true := beq_iff_eq.mpr c6
    have c6b1 : (t302.toList != ([49, 50, 55, 46, 48, 46, 48, 46, 49] : List UInt8)) = false := bne_eq_false_iff_eq.mpr c6
    clear c6
    obtain rfl := Option.some.inj H
    go_enter Tryd.func7, Tryd.ntmps7
    go_wp2_with (first | ((with_reducible refine gate_callee (f := 8) rfl ?_); refine goesL_ (some 8) rfl rfl Tryd.func8 (by kernel_rfl) rfl #[.string (⟨#[48, 120, 55, 102, 46, 49]⟩ : ByteArray)] rfl (by (try simp only [List.map_toArray, List.map_cons, List.map_nil]); first | done | rfl | (simp only [List.length_drop, List.length_take]; rfl)) ?_; (with_reducible refine (ip_Loose.calls k (⟨#[48, 120, 55, 102, 46, 49]⟩ : ByteArray) t283 t284 t285 t286 t287 t288 t289 t290 t291 t292 t293 t294 t295 t296 t297 t298 t299 t300 _ ?side1 A1.out).mono ?_); (case side1 => exact LW.below HLW.out (by repeat (first | (with_reducible first | exact HB.out | apply below_alloc | apply pw_below_drewN | apply below_drew1) | exact HB.out))); rintro e w7 ⟨rfl, hb⟩; refine ⟨_, rfl, ?_⟩; have n0_ := Aside0.mk (below_step (by repeat (first | (with_reducible first | exact HB.out | apply below_alloc | apply pw_below_drewN | apply below_drew1) | exact HB.out)) hb); clear HB; have HB := n0_; clear n0_; (try clear hb); (try clear hb2); (try clear hk); (try clear hi)) | ((with_reducible refine gate_dst (N := 1) rfl ?_); refine box_event ?hg (N := 1) ?hd (cs := #[.bool false, .int .u8 0, .int .u8 0, .int .u8 0, .int .u8 0, .int .u8 0, .int .u8 0, .int .u8 0, .int .u8 0, .int .u8 0, .int .u8 0, .int .u8 0, .int .u8 0, .int .u8 0, .int .u8 0, .int .u8 0, .int .u8 0]) (t := 25) ?hr ?_; (case hd => rfl); (case hg => rfl); (case hr => first | (go_simp; done) | (go_simp; rfl)); intro gb301 hg w8 hbox hb; have n0_ := Aside0.mk (below_step (by repeat (first | (with_reducible first | exact HB.out | apply below_alloc | apply pw_below_drewN | apply below_drew1) | exact HB.out)) hb); have n1_ := Aside0.mk (hbox); have n2_ := Aside0.mk ((by rw [hg]; exact (below_size (by repeat (first | (with_reducible first | exact HB.out | apply below_alloc | apply pw_below_drewN | apply below_drew1) | exact HB.out))) : w.heap.size ≤ gb301)); have n3_ := Aside0.mk ((by rw [hg]; exact (below_size (by repeat (first | (with_reducible first | exact HB.out | apply below_alloc | apply pw_below_drewN | apply below_drew1) | exact HB.out))) : w.heap.size ≤ gb301)); clear HB; have HB := n0_; have BK301 := n1_; have GW301 := n2_; have GE301 := n3_; clear n0_ n1_ n2_ n3_; clear hb hbox hg; have hcz9_0 : w8.cell? ⟨gb301, 0, none⟩ = some (.bool false) := (blk_cell BK301.out 0).trans rfl; have hcz9_1 : w8.cell? ⟨gb301, 1, none⟩ = some (.int .u8 0) := (blk_cell BK301.out 1).trans rfl; have hcz9_2 : w8.cell? ⟨gb301, 2, none⟩ = some (.int .u8 0) := (blk_cell BK301.out 2).trans rfl; have hcz9_3 : w8.cell? ⟨gb301, 3, none⟩ = some (.int .u8 0) := (blk_cell BK301.out 3).trans rfl; have hcz9_4 : w8.cell? ⟨gb301, 4, none⟩ = some (.int .u8 0) := (blk_cell BK301.out 4).trans rfl; have hcz9_5 : w8.cell? ⟨gb301, 5, none⟩ = some (.int .u8 0) := (blk_cell BK301.out 5).trans rfl; have hcz9_6 : w8.cell? ⟨gb301, 6, none⟩ = some (.int .u8 0) := (blk_cell BK301.out 6).trans rfl; have hcz9_7 : w8.cell? ⟨gb301, 7, none⟩ = some (.int .u8 0) := (blk_cell BK301.out 7).trans rfl; have hcz9_8 : w8.cell? ⟨gb301, 8, none⟩ = some (.int .u8 0) := (blk_cell BK301.out 8).trans rfl; have hcz9_9 : w8.cell? ⟨gb301, 9, none⟩ = some (.int .u8 0) := (blk_cell BK301.out 9).trans rfl; have hcz9_10 : w8.cell? ⟨gb301, 10, none⟩ = some (.int .u8 0) := (blk_cell BK301.out 10).trans rfl; have hcz9_11 : w8.cell? ⟨gb301, 11, none⟩ = some (.int .u8 0) := (blk_cell BK301.out 11).trans rfl; have hcz9_12 : w8.cell? ⟨gb301, 12, none⟩ = some (.int .u8 0) := (blk_cell BK301.out 12).trans rfl; have hcz9_13 : w8.cell? ⟨gb301, 13, none⟩ = some (.int .u8 0) := (blk_cell BK301.out 13).trans rfl; have hcz9_14 : w8.cell? ⟨gb301, 14, none⟩ = some (.int .u8 0) := (blk_cell BK301.out 14).trans rfl; have hcz9_15 : w8.cell? ⟨gb301, 15, none⟩ = some (.int .u8 0) := (blk_cell BK301.out 15).trans rfl; have hcz9_16 : w8.cell? ⟨gb301, 16, none⟩ = some (.int .u8 0) := (blk_cell BK301.out 16).trans rfl; have hfz9_0 := blk_frozen BK301.out 0; have hfz9_1 := blk_frozen BK301.out 1; have hfz9_2 := blk_frozen BK301.out 2; have hfz9_3 := blk_frozen BK301.out 3; have hfz9_4 := blk_frozen BK301.out 4; have hfz9_5 := blk_frozen BK301.out 5; have hfz9_6 := blk_frozen BK301.out 6; have hfz9_7 := blk_frozen BK301.out 7; have hfz9_8 := blk_frozen BK301.out 8; have hfz9_9 := blk_frozen BK301.out 9; have hfz9_10 := blk_frozen BK301.out 10; have hfz9_11 := blk_frozen BK301.out 11; have hfz9_12 := blk_frozen BK301.out 12; have hfz9_13 := blk_frozen BK301.out 13; have hfz9_14 := blk_frozen BK301.out 14; have hfz9_15 := blk_frozen BK301.out 15; have hfz9_16 := blk_frozen BK301.out 16) | ((with_reducible refine gate_store (t := 25) (p := 1) rfl ?_); refine store_all ?hg 25 1 _ rfl rfl gb301 [.bool false, .int .u8 0, .int .u8 0, .int .u8 0, .int .u8 0, .int .u8 0, .int .u8 0, .int .u8 0, .int .u8 0, .int .u8 0, .int .u8 0, .int .u8 0, .int .u8 0, .int .u8 0, .int .u8 0, .int .u8 0, .int .u8 0] [.bool t283, .int .u8 t284, .int .u8 t285, .int .u8 t286, .int .u8 t287, .int .u8 t288, .int .u8 t289, .int .u8 t290, .int .u8 t291, .int .u8 t292, .int .u8 t293, .int .u8 t294, .int .u8 t295, .int .u8 t296, .int .u8 t297, .int .u8 t298, .int .u8 t299] BK301.out rfl rfl rfl (by kernel_rfl) rfl ?_; (case hg => rfl); intro w10 hw; have n0_ : Aside0 (w10.heap[gb301]? = some (.cells #[.bool t283, .int .u8 t284, .int .u8 t285, .int .u8 t286, .int .u8 t287, .int .u8 t288, .int .u8 t289, .int .u8 t290, .int .u8 t291, .int .u8 t292, .int .u8 t293, .int .u8 t294, .int .u8 t295, .int .u8 t296, .int .u8 t297, .int .u8 t298, .int .u8 t299] 25 (0, 0))) := ⟨(by rw [hw]; exact (by (with_reducible repeat (first | refine blk_drewN ?_ _ | refine blk_drew ?_ | refine blk_alloc ?_ _)); refine blk_part [.bool t283, .int .u8 t284, .int .u8 t285, .int .u8 t286, .int .u8 t287, .int .u8 t288, .int .u8 t289, .int .u8 t290, .int .u8 t291, .int .u8 t292, .int .u8 t293, .int .u8 t294, .int .u8 t295, .int .u8 t296, .int .u8 t297, .int .u8 t298, .int .u8 t299] [.bool false, .int .u8 0, .int .u8 0, .int .u8 0, .int .u8 0, .int .u8 0, .int .u8 0, .int .u8 0, .int .u8 0, .int .u8 0, .int .u8 0, .int .u8 0, .int .u8 0, .int .u8 0, .int .u8 0, .int .u8 0, .int .u8 0] [] [] (cs := #[.bool false, .int .u8 0, .int .u8 0, .int .u8 0, .int .u8 0, .int .u8 0, .int .u8 0, .int .u8 0, .int .u8 0, .int .u8 0, .int .u8 0, .int .u8 0, .int .u8 0, .int .u8 0, .int .u8 0, .int .u8 0, .int .u8 0]) ?_ rfl rfl rfl; (with_reducible repeat (first | refine blk_drewN ?_ _ | refine blk_drew ?_ | refine blk_alloc ?_ _)); exact BK301.out))⟩; have n1_ : Aside0 (Below w.heap.size w w10) := ⟨(by rw [hw]; exact (by repeat (first | (with_reducible first | exact HB.out | apply below_alloc | apply pw_below_drewN | apply below_drew1 | refine below_set ?_ GE301.out | refine below_setC GE301.out _ _ ?_) | exact HB.out)))⟩; clear hw; clear BK301; clear HB; have BK301 := n0_; have HB := n1_; clear n0_ n1_) | ((with_reducible refine gate_dst (N := 12) rfl ?_); (try (refine gate_guard (by rfl) ?_; dsimp only)); refine load_box ?hg 25 (.tmp 1) rfl BK301.out [] [.bool t283, .int .u8 t284, .int .u8 t285, .int .u8 t286, .int .u8 t287, .int .u8 t288, .int .u8 t289, .int .u8 t290, .int .u8 t291, .int .u8 t292, .int .u8 t293, .int .u8 t294, .int .u8 t295, .int .u8 t296, .int .u8 t297, .int .u8 t298, .int .u8 t299] [] rfl 0 rfl rfl Tryd.underlying25 rfl (by kernel_rfl) ?_; (case hg => rfl)) | ((with_reducible refine gate_callee (f := 11) rfl ?_); refine goesL_ (some 13) rfl rfl Tryd.func11 (by kernel_rfl) rfl #[.agg #[.bool t283, .int .u8 t284, .int .u8 t285, .int .u8 t286, .int .u8 t287, .int .u8 t288, .int .u8 t289, .int .u8 t290, .int .u8 t291, .int .u8 t292, .int .u8 t293, .int .u8 t294, .int .u8 t295, .int .u8 t296, .int .u8 t297, .int .u8 t298, .int .u8 t299]] rfl (by (try simp only [List.map_toArray, List.map_cons, List.map_nil]); first | done | rfl | (simp only [List.length_drop, List.length_take]; rfl)) ?_; (with_reducible refine (ip_Print.calls k t283 t284 t285 t286 t287 t288 t289 t290 t291 t292 t293 t294 t295 t296 t297 t298 t299 t302 t303 _ ?side1 A2.out).mono ?_); (case side1 => exact LW.below HLW.out (by repeat (first | (with_reducible first | exact HB.out | apply below_alloc | apply pw_below_drewN | apply below_drew1 | refine below_set ?_ GE301.out) | exact HB.out))); rintro e w11 ⟨rfl, hb⟩; refine ⟨_, rfl, ?_⟩; have n0_ := Aside0.mk (blk_below (g := gb301) (o := .cells #[.bool t283, .int .u8 t284, .int .u8 t285, .int .u8 t286, .int .u8 t287, .int .u8 t288, .int .u8 t289, .int .u8 t290, .int .u8 t291, .int .u8 t292, .int .u8 t293, .int .u8 t294, .int .u8 t295, .int .u8 t296, .int .u8 t297, .int .u8 t298, .int .u8 t299] 25 (0, 0)) (by (with_reducible repeat (first | refine blk_drewN ?_ _ | refine blk_drew ?_ | refine blk_alloc ?_ _)); exact BK301.out) hb); have n1_ := Aside0.mk (below_step (by repeat (first | (with_reducible first | exact HB.out | apply below_alloc | apply pw_below_drewN | apply below_drew1 | refine below_set ?_ GE301.out) | exact HB.out)) hb); clear BK301; clear HB; have BK301 := n0_; have HB := n1_; clear n0_ n1_; (try clear hb); (try clear hb2); (try clear hk); (try clear hi)) | ((with_reducible refine gate_callee (f := 10) rfl ?_); refine goesL_ (some 17) rfl rfl Tryd.func10 (by kernel_rfl) rfl #[.string (⟨#[48, 120, 55, 102, 46, 49]⟩ : ByteArray)] rfl (by (try simp only [List.map_toArray, List.map_cons, List.map_nil]); first | done | rfl | (simp only [List.length_drop, List.length_take]; rfl)) ?_; (with_reducible refine (ip_Parse.calls k (⟨#[48, 120, 55, 102, 46, 49]⟩ : ByteArray) t304 t305 t306 t307 t308 t309 t310 t311 t312 t313 t314 t315 t316 t317 t318 t319 t320 t321 _ ?side1 A3.out).mono ?_); (case side1 => exact LW.below HLW.out (by repeat (first | (with_reducible first | exact HB.out | apply below_alloc | apply pw_below_drewN | apply below_drew1 | refine below_set ?_ GE301.out) | exact HB.out))); rintro e w12 ⟨rfl, hb⟩; refine ⟨_, rfl, ?_⟩; have n0_ := Aside0.mk (blk_below (g := gb301) (o := .cells #[.bool t283, .int .u8 t284, .int .u8 t285, .int .u8 t286, .int .u8 t287, .int .u8 t288, .int .u8 t289, .int .u8 t290, .int .u8 t291, .int .u8 t292, .int .u8 t293, .int .u8 t294, .int .u8 t295, .int .u8 t296, .int .u8 t297, .int .u8 t298, .int .u8 t299] 25 (0, 0)) (by (with_reducible repeat (first | refine blk_drewN ?_ _ | refine blk_drew ?_ | refine blk_alloc ?_ _)); exact BK301.out) hb); have n1_ := Aside0.mk (below_step (by repeat (first | (with_reducible first | exact HB.out | apply below_alloc | apply pw_below_drewN | apply below_drew1 | refine below_set ?_ GE301.out) | exact HB.out)) hb); clear BK301; clear HB; have BK301 := n0_; have HB := n1_; clear n0_ n1_; (try clear hb); (try clear hb2); (try clear hk); (try clear hi)) | ((with_reducible refine gate_dst (N := 5) rfl ?_); refine box_event ?hg (N := 5) ?hd (cs := #[.bool false, .int .u8 0, .int .u8 0, .int .u8 0, .int .u8 0, .int .u8 0, .int .u8 0, .int .u8 0, .int .u8 0, .int .u8 0, .int .u8 0, .int .u8 0, .int .u8 0, .int .u8 0, .int .u8 0, .int .u8 0, .int .u8 0]) (t := 25) ?hr ?_; (case hd => rfl); (case hg => rfl); (case hr => first | (go_simp; done) | (go_simp; rfl)); intro gb322 hg w13 hbox hb; have n0_ := Aside0.mk (blk_below (g := gb301) (o := .cells #[.bool t283, .int .u8 t284, .int .u8 t285, .int .u8 t286, .int .u8 t287, .int .u8 t288, .int .u8 t289, .int .u8 t290, .int .u8 t291, .int .u8 t292, .int .u8 t293, .int .u8 t294, .int .u8 t295, .int .u8 t296, .int .u8 t297, .int .u8 t298, .int .u8 t299] 25 (0, 0)) (by (with_reducible repeat (first | refine blk_drewN ?_ _ | refine blk_drew ?_ | refine blk_alloc ?_ _)); exact BK301.out) hb); have n1_ := Aside0.mk (below_step (by repeat (first | (with_reducible first | exact HB.out | apply below_alloc | apply pw_below_drewN | apply below_drew1 | refine below_set ?_ GE301.out) | exact HB.out)) hb); have n2_ := Aside0.mk (hbox); have n3_ := Aside0.mk ((by rw [hg]; exact (below_size (by repeat (first | (with_reducible first | exact HB.out | apply below_alloc | apply pw_below_drewN | apply below_drew1 | refine below_set ?_ GE301.out) | exact HB.out))) : w.heap.size ≤ gb322)); have n4_ := Aside0.mk ((by rw [hg]; exact (below_size (by repeat (first | (with_reducible first | exact HB.out | apply below_alloc | apply pw_below_drewN | apply below_drew1 | refine below_set ?_ GE301.out) | exact HB.out))) : w.heap.size ≤ gb322)); have n5_ := Aside0.mk ((by rw [hg]; exact Nat.ne_of_lt (blk_lt (g := gb301) (o := .cells #[.bool t283, .int .u8 t284, .int .u8 t285, .int .u8 t286, .int .u8 t287, .int .u8 t288, .int .u8 t289, .int .u8 t290, .int .u8 t291, .int .u8 t292, .int .u8 t293, .int .u8 t294, .int .u8 t295, .int .u8 t296, .int .u8 t297, .int .u8 t298, .int .u8 t299] 25 (0, 0)) (by (with_reducible repeat (first | refine blk_drewN ?_ _ | refine blk_drew ?_ | refine blk_alloc ?_ _)); exact BK301.out)) : gb301 ≠ gb322)); have n6_ := Aside0.mk ((by rw [hg]; exact Nat.ne_of_gt (blk_lt (g := gb301) (o := .cells #[.bool t283, .int .u8 t284, .int .u8 t285, .int .u8 t286, .int .u8 t287, .int .u8 t288, .int .u8 t289, .int .u8 t290, .int .u8 t291, .int .u8 t292, .int .u8 t293, .int .u8 t294, .int .u8 t295, .int .u8 t296, .int .u8 t297, .int .u8 t298, .int .u8 t299] 25 (0, 0)) (by (with_reducible repeat (first | refine blk_drewN ?_ _ | refine blk_drew ?_ | refine blk_alloc ?_ _)); exact BK301.out)) : gb322 ≠ gb301)); clear BK301; clear HB; have BK301 := n0_; have HB := n1_; have BK322 := n2_; have GW322 := n3_; have GE322 := n4_; have NB301_322 := n5_; have NB322_301 := n6_; clear n0_ n1_ n2_ n3_ n4_ n5_ n6_; clear hb hbox hg; have hnb14 := NB322_301.out; have hnc14 := NB301_322.out; have hcz15_0 : w13.cell? ⟨gb322, 0, none⟩ = some (.bool false) := (blk_cell BK322.out 0).trans rfl; have hcz15_1 : w13.cell? ⟨gb322, 1, none⟩ = some (.int .u8 0) := (blk_cell BK322.out 1).trans rfl; have hcz15_2 : w13.cell? ⟨gb322, 2, none⟩ = some (.int .u8 0) := (blk_cell BK322.out 2).trans rfl; have hcz15_3 : w13.cell? ⟨gb322, 3, none⟩ = some (.int .u8 0) := (blk_cell BK322.out 3).trans rfl; have hcz15_4 : w13.cell? ⟨gb322, 4, none⟩ = some (.int .u8 0) := (blk_cell BK322.out 4).trans rfl; have hcz15_5 : w13.cell? ⟨gb322, 5, none⟩ = some (.int .u8 0) := (blk_cell BK322.out 5).trans rfl; have hcz15_6 : w13.cell? ⟨gb322, 6, none⟩ = some (.int .u8 0) := (blk_cell BK322.out 6).trans rfl; have hcz15_7 : w13.cell? ⟨gb322, 7, none⟩ = some (.int .u8 0) := (blk_cell BK322.out 7).trans rfl; have hcz15_8 : w13.cell? ⟨gb322, 8, none⟩ = some (.int .u8 0) := (blk_cell BK322.out 8).trans rfl; have hcz15_9 : w13.cell? ⟨gb322, 9, none⟩ = some (.int .u8 0) := (blk_cell BK322.out 9).trans rfl; have hcz15_10 : w13.cell? ⟨gb322, 10, none⟩ = some (.int .u8 0) := (blk_cell BK322.out 10).trans rfl; have hcz15_11 : w13.cell? ⟨gb322, 11, none⟩ = some (.int .u8 0) := (blk_cell BK322.out 11).trans rfl; have hcz15_12 : w13.cell? ⟨gb322, 12, none⟩ = some (.int .u8 0) := (blk_cell BK322.out 12).trans rfl; have hcz15_13 : w13.cell? ⟨gb322, 13, none⟩ = some (.int .u8 0) := (blk_cell BK322.out 13).trans rfl; have hcz15_14 : w13.cell? ⟨gb322, 14, none⟩ = some (.int .u8 0) := (blk_cell BK322.out 14).trans rfl; have hcz15_15 : w13.cell? ⟨gb322, 15, none⟩ = some (.int .u8 0) := (blk_cell BK322.out 15).trans rfl; have hcz15_16 : w13.cell? ⟨gb322, 16, none⟩ = some (.int .u8 0) := (blk_cell BK322.out 16).trans rfl; have hfz15_0 := blk_frozen BK322.out 0; have hfz15_1 := blk_frozen BK322.out 1; have hfz15_2 := blk_frozen BK322.out 2; have hfz15_3 := blk_frozen BK322.out 3; have hfz15_4 := blk_frozen BK322.out 4; have hfz15_5 := blk_frozen BK322.out 5; have hfz15_6 := blk_frozen BK322.out 6; have hfz15_7 := blk_frozen BK322.out 7; have hfz15_8 := blk_frozen BK322.out 8; have hfz15_9 := blk_frozen BK322.out 9; have hfz15_10 := blk_frozen BK322.out 10; have hfz15_11 := blk_frozen BK322.out 11; have hfz15_12 := blk_frozen BK322.out 12; have hfz15_13 := blk_frozen BK322.out 13; have hfz15_14 := blk_frozen BK322.out 14; have hfz15_15 := blk_frozen BK322.out 15; have hfz15_16 := blk_frozen BK322.out 16) | ((with_reducible refine gate_store (t := 25) (p := 5) rfl ?_); refine store_all ?hg 25 5 _ rfl rfl gb322 [.bool false, .int .u8 0, .int .u8 0, .int .u8 0, .int .u8 0, .int .u8 0, .int .u8 0, .int .u8 0, .int .u8 0, .int .u8 0, .int .u8 0, .int .u8 0, .int .u8 0, .int .u8 0, .int .u8 0, .int .u8 0, .int .u8 0] [.bool t304, .int .u8 t305, .int .u8 t306, .int .u8 t307, .int .u8 t308, .int .u8 t309, .int .u8 t310, .int .u8 t311, .int .u8 t312, .int .u8 t313, .int .u8 t314, .int .u8 t315, .int .u8 t316, .int .u8 t317, .int .u8 t318, .int .u8 t319, .int .u8 t320] BK322.out rfl rfl rfl (by kernel_rfl) rfl ?_; (case hg => rfl); intro w16 hw; have n0_ : Aside0 (w16.heap[gb301]? = some (.cells #[.bool t283, .int .u8 t284, .int .u8 t285, .int .u8 t286, .int .u8 t287, .int .u8 t288, .int .u8 t289, .int .u8 t290, .int .u8 t291, .int .u8 t292, .int .u8 t293, .int .u8 t294, .int .u8 t295, .int .u8 t296, .int .u8 t297, .int .u8 t298, .int .u8 t299] 25 (0, 0))) := ⟨(by rw [hw]; exact (by (with_reducible repeat (first | refine blk_drewN ?_ _ | refine blk_drew ?_ | refine blk_alloc ?_ _)); refine blk_farC NB301_322.out _ _ ?_; (with_reducible repeat (first | refine blk_drewN ?_ _ | refine blk_drew ?_ | refine blk_alloc ?_ _)); exact BK301.out))⟩; have n1_ : Aside0 (w16.heap[gb322]? = some (.cells #[.bool t304, .int .u8 t305, .int .u8 t306, .int .u8 t307, .int .u8 t308, .int .u8 t309, .int .u8 t310, .int .u8 t311, .int .u8 t312, .int .u8 t313, .int .u8 t314, .int .u8 t315, .int .u8 t316, .int .u8 t317, .int .u8 t318, .int .u8 t319, .int .u8 t320] 25 (0, 0))) := ⟨(by rw [hw]; exact (by (with_reducible repeat (first | refine blk_drewN ?_ _ | refine blk_drew ?_ | refine blk_alloc ?_ _)); refine blk_part [.bool t304, .int .u8 t305, .int .u8 t306, .int .u8 t307, .int .u8 t308, .int .u8 t309, .int .u8 t310, .int .u8 t311, .int .u8 t312, .int .u8 t313, .int .u8 t314, .int .u8 t315, .int .u8 t316, .int .u8 t317, .int .u8 t318, .int .u8 t319, .int .u8 t320] [.bool false, .int .u8 0, .int .u8 0, .int .u8 0, .int .u8 0, .int .u8 0, .int .u8 0, .int .u8 0, .int .u8 0, .int .u8 0, .int .u8 0, .int .u8 0, .int .u8 0, .int .u8 0, .int .u8 0, .int .u8 0, .int .u8 0] [] [] (cs := #[.bool false, .int .u8 0, .int .u8 0, .int .u8 0, .int .u8 0, .int .u8 0, .int .u8 0, .int .u8 0, .int .u8 0, .int .u8 0, .int .u8 0, .int .u8 0, .int .u8 0, .int .u8 0, .int .u8 0, .int .u8 0, .int .u8 0]) ?_ rfl rfl rfl; (with_reducible repeat (first | refine blk_drewN ?_ _ | refine blk_drew ?_ | refine blk_alloc ?_ _)); exact BK322.out))⟩; have n2_ : Aside0 (Below w.heap.size w w16) := ⟨(by rw [hw]; exact (by repeat (first | (with_reducible first | exact HB.out | apply below_alloc | apply pw_below_drewN | apply below_drew1 | refine below_set ?_ GE301.out | refine below_set ?_ GE322.out | refine below_setC GE301.out _ _ ?_ | refine below_setC GE322.out _ _ ?_) | exact HB.out)))⟩; clear hw; clear BK301; clear BK322; clear HB; have BK301 := n0_; have BK322 := n1_; have HB := n2_; clear n0_ n1_ n2_))
    go_ret
    exact ⟨by first | rfl | (simp [errW_none, errW_some] <;> rfl) | (simp [*, errW_none, errW_some] <;> rfl) | (simp [errW_none, errW_some]; first | exact isEmpty_bne _ | exact isEmpty_beq _ | exact (isEmpty_bne _).symm), by repeat (first | (with_reducible first | exact HB.out | apply below_alloc | apply pw_below_drewN | apply below_drew1 | refine below_set ?_ GE301.out | refine below_set ?_ GE322.out) | exact HB.out)⟩
   ·rw [if_neg c6] at H
    exact absurd H (by simp)
  ·rw [if_neg c5] at H
   exact absurd H (by simp)
 ·rw [if_neg c4] at H
  exact absurd H (by simp)
end Go.Proofs.YtfiefecjcmcejaaDoor.P
