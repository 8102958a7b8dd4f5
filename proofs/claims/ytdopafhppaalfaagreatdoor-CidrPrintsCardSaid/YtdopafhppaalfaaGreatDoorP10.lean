-- Written by a program of this session (wip/gen/lprint.py over the kit's print.py) out of the translation. Lean checks it.
import Derived.Test.YtdopafhppaalfaaGreatDoorP0
import Derived.Test.YtdopafhppaalfaaGreatDoorP7
import Derived.Test.YtdopafhppaalfaaGreatDoorP8
import Derived.Test.YtdopafhppaalfaaGreatDoorP9
import Derived.Test.YtdopafhppaalfaaGreatDoorZ
namespace Go.Proofs.YtdopafhppaalfaaGreatDoor.P
open Go.Proofs.YtdopafhppaalfaaGreatDoorZ
open Go.Proofs.YtdopafhppaalfaaGreatDoor.E Go.Proofs.YtdopafhppaalfaaGreatDoorV
open Go.RowKit Go.Proofs.YtdopafhppaalfaaGreatDoorW.PrintWords Go.Proofs.YtdopafhppaalfaaGreatDoorW.PrintLast Go.Proofs.YtdopafhppaalfaaGreatDoorW.PrintMore
attribute [local go_sem] max2_int min2_int max_two min_two max_three min_three max_four min_four   -- for this text's walks alone
set_option linter.unusedVariables false
set_option linter.unusedSimpArgs false

mutual
def lanternref05_Parse.l0 : Nat → List Int → Int → Bool → Int → Option (Bool × Int × Int × Int × Int × Int × Int × Int × Int × Int × Int × Int × Int × Int × Int × Int × Int × Bool)
 | 0, _, _, _, _ => none
 | k + 1, x5, x7, x8, x9 => if x9 < (x5.length : Int) then (if 0 ≤ x9 then (if (rd x5 x9) < 0 then (lanternref05_Parse.l0 k x5 x7 true (wrap64 (x9 + 1))) else (lanternref05_Parse.l0 k x5 (wrap64 (x7 + 1)) x8 (wrap64 (x9 + 1)))) else (none)) else (if x7 > 8 then (none) else (if x8 = true then (lanternref05_Parse.j1 k x5 x7 false) else (lanternref05_Parse.j1 k x5 x7 (x7 != 8))))
def lanternref05_Parse.j1 : Nat → List Int → Int → Bool → Option (Bool × Int × Int × Int × Int × Int × Int × Int × Int × Int × Int × Int × Int × Int × Int × Int × Int × Bool)
 | 0, _, _, _ => none
 | k + 1, x5, x7, x56 => if x56 = true then (none) else (lanternref05_Parse.l1 k x5 x7 0 0 true 0 0 0 0 0 0 0 0 0 0 0 0 0 0 0 0)
def lanternref05_Parse.l1 : Nat → List Int → Int → Int → Int → Bool → Int → Int → Int → Int → Int → Int → Int → Int → Int → Int → Int → Int → Int → Int → Int → Int → Option (Bool × Int × Int × Int × Int × Int × Int × Int × Int × Int × Int × Int × Int × Int × Int × Int × Int × Bool)
 | 0, _, _, _, _, _, _, _, _, _, _, _, _, _, _, _, _, _, _, _, _, _ => none
 | k + 1, x5, x7, x11, x12, V0, V1, V2, V3, V4, V5, V6, V7, V8, V9, V10, V11, V12, V13, V14, V15, V16 => if x12 < (x5.length : Int) then (if 0 ≤ x12 then (if (rd x5 x12) < 0 then (lanternref05_Parse.l1 k x5 x7 (wrap64 (x11 + (wrap64 (2 * (wrap64 (8 - x7)))))) (wrap64 (x12 + 1)) V0 V1 V2 V3 V4 V5 V6 V7 V8 V9 V10 V11 V12 V13 V14 V15 V16) else (if 0 ≤ x11 then (if x11 < 16 then (if 0 ≤ (wrap64 (x11 + 1)) then (if (wrap64 (x11 + 1)) < 16 then (lanternref05_Parse.l1 k x5 x7 (wrap64 (x11 + 2)) (wrap64 (x12 + 1)) V0 (upd (wrap64 (x11 + 1)) 0 ((Int.tmod (rd x5 x12) 256) % 256) (upd x11 0 ((wrap64 (Int.tdiv (rd x5 x12) 256)) % 256) V1)) (upd (wrap64 (x11 + 1)) 1 ((Int.tmod (rd x5 x12) 256) % 256) (upd x11 1 ((wrap64 (Int.tdiv (rd x5 x12) 256)) % 256) V2)) (upd (wrap64 (x11 + 1)) 2 ((Int.tmod (rd x5 x12) 256) % 256) (upd x11 2 ((wrap64 (Int.tdiv (rd x5 x12) 256)) % 256) V3)) (upd (wrap64 (x11 + 1)) 3 ((Int.tmod (rd x5 x12) 256) % 256) (upd x11 3 ((wrap64 (Int.tdiv (rd x5 x12) 256)) % 256) V4)) (upd (wrap64 (x11 + 1)) 4 ((Int.tmod (rd x5 x12) 256) % 256) (upd x11 4 ((wrap64 (Int.tdiv (rd x5 x12) 256)) % 256) V5)) (upd (wrap64 (x11 + 1)) 5 ((Int.tmod (rd x5 x12) 256) % 256) (upd x11 5 ((wrap64 (Int.tdiv (rd x5 x12) 256)) % 256) V6)) (upd (wrap64 (x11 + 1)) 6 ((Int.tmod (rd x5 x12) 256) % 256) (upd x11 6 ((wrap64 (Int.tdiv (rd x5 x12) 256)) % 256) V7)) (upd (wrap64 (x11 + 1)) 7 ((Int.tmod (rd x5 x12) 256) % 256) (upd x11 7 ((wrap64 (Int.tdiv (rd x5 x12) 256)) % 256) V8)) (upd (wrap64 (x11 + 1)) 8 ((Int.tmod (rd x5 x12) 256) % 256) (upd x11 8 ((wrap64 (Int.tdiv (rd x5 x12) 256)) % 256) V9)) (upd (wrap64 (x11 + 1)) 9 ((Int.tmod (rd x5 x12) 256) % 256) (upd x11 9 ((wrap64 (Int.tdiv (rd x5 x12) 256)) % 256) V10)) (upd (wrap64 (x11 + 1)) 10 ((Int.tmod (rd x5 x12) 256) % 256) (upd x11 10 ((wrap64 (Int.tdiv (rd x5 x12) 256)) % 256) V11)) (upd (wrap64 (x11 + 1)) 11 ((Int.tmod (rd x5 x12) 256) % 256) (upd x11 11 ((wrap64 (Int.tdiv (rd x5 x12) 256)) % 256) V12)) (upd (wrap64 (x11 + 1)) 12 ((Int.tmod (rd x5 x12) 256) % 256) (upd x11 12 ((wrap64 (Int.tdiv (rd x5 x12) 256)) % 256) V13)) (upd (wrap64 (x11 + 1)) 13 ((Int.tmod (rd x5 x12) 256) % 256) (upd x11 13 ((wrap64 (Int.tdiv (rd x5 x12) 256)) % 256) V14)) (upd (wrap64 (x11 + 1)) 14 ((Int.tmod (rd x5 x12) 256) % 256) (upd x11 14 ((wrap64 (Int.tdiv (rd x5 x12) 256)) % 256) V15)) (upd (wrap64 (x11 + 1)) 15 ((Int.tmod (rd x5 x12) 256) % 256) (upd x11 15 ((wrap64 (Int.tdiv (rd x5 x12) 256)) % 256) V16))) else (none)) else (none)) else (none)) else (none))) else (none)) else (some (V0, V1, V2, V3, V4, V5, V6, V7, V8, V9, V10, V11, V12, V13, V14, V15, V16, true))
end
def lanternref05_Parse.f (k : Nat) (a0 : ByteArray) : Option (Bool × Int × Int × Int × Int × Int × Int × Int × Int × Int × Int × Int × Int × Int × Int × Int × Int × Bool) := (lanternref05_four.f k a0).bind fun t232 => (if t232 ≥ 0 then ((lanternref05_V4.f k (IntKind.u64.wrap (t232))).bind fun bt233 => (some (bt233.1, bt233.2.1, bt233.2.2.1, bt233.2.2.2.1, bt233.2.2.2.2.1, bt233.2.2.2.2.2.1, bt233.2.2.2.2.2.2.1, bt233.2.2.2.2.2.2.2.1, bt233.2.2.2.2.2.2.2.2.1, bt233.2.2.2.2.2.2.2.2.2.1, bt233.2.2.2.2.2.2.2.2.2.2.1, bt233.2.2.2.2.2.2.2.2.2.2.2.1, bt233.2.2.2.2.2.2.2.2.2.2.2.2.1, bt233.2.2.2.2.2.2.2.2.2.2.2.2.2.1, bt233.2.2.2.2.2.2.2.2.2.2.2.2.2.2.1, bt233.2.2.2.2.2.2.2.2.2.2.2.2.2.2.2.1, bt233.2.2.2.2.2.2.2.2.2.2.2.2.2.2.2.2, true))) else ((lanternref05_groups.f k a0).bind fun bt250 => (if bt250.2 = true then ((lanternref05_cut.f k a0 58).bind fun t254 => (if (t254.length : Int) < 3 then (some (false, 0, 0, 0, 0, 0, 0, 0, 0, 0, 0, 0, 0, 0, 0, 0, 0, false)) else (lanternref05_Parse.l0 k bt250.1 0 false 0))) else (none))))
theorem lanternref05_Parse.mono_l : ∀ k, (∀ y0 y1 y2 y3, LeO (lanternref05_Parse.l0 k y0 y1 y2 y3) (lanternref05_Parse.l0 (k + 1) y0 y1 y2 y3)) ∧ (∀ y0 y1 y2, LeO (lanternref05_Parse.j1 k y0 y1 y2) (lanternref05_Parse.j1 (k + 1) y0 y1 y2)) ∧ (∀ y0 y1 y2 y3 y4 y5 y6 y7 y8 y9 y10 y11 y12 y13 y14 y15 y16 y17 y18 y19 y20, LeO (lanternref05_Parse.l1 k y0 y1 y2 y3 y4 y5 y6 y7 y8 y9 y10 y11 y12 y13 y14 y15 y16 y17 y18 y19 y20) (lanternref05_Parse.l1 (k + 1) y0 y1 y2 y3 y4 y5 y6 y7 y8 y9 y10 y11 y12 y13 y14 y15 y16 y17 y18 y19 y20))
 | 0 => ⟨fun _ _ _ _ r h => by simp [lanternref05_Parse.l0] at h, fun _ _ _ r h => by simp [lanternref05_Parse.j1] at h, fun _ _ _ _ _ _ _ _ _ _ _ _ _ _ _ _ _ _ _ _ _ r h => by simp [lanternref05_Parse.l1] at h⟩
 | k + 1 => by
  obtain ⟨ih0, ih1, ih2⟩ := lanternref05_Parse.mono_l k
  refine ⟨?_, ?_, ?_⟩
  ·intro y0 y1 y2 y3
   unfold lanternref05_Parse.l0
   repeat' first
   | (with_reducible exact ih0 _ _ _ _)
   | (with_reducible exact ih1 _ _ _)
   | (with_reducible exact ih2 _ _ _ _ _ _ _ _ _ _ _ _ _ _ _ _ _ _ _ _ _)
   | (with_reducible exact lanternref05_V4.mono _ _)
   | (with_reducible exact lanternref05_cut.mono _ _ _)
   | (with_reducible exact lanternref05_four.mono _ _)
   | (with_reducible exact lanternref05_groups.mono _ _)
   | (with_reducible exact LeO.refl _)
   | (with_reducible exact LeO.none _)
   | (with_reducible refine LeO.ite ?_ ?_)
   | (with_reducible refine LeO.bind ?_ (fun _ => ?_))
   | exact ih0 _ _ _ _
   | exact ih1 _ _ _
   | exact ih2 _ _ _ _ _ _ _ _ _ _ _ _ _ _ _ _ _ _ _ _ _
   | exact lanternref05_V4.mono _ _
   | exact lanternref05_cut.mono _ _ _
   | exact lanternref05_four.mono _ _
   | exact lanternref05_groups.mono _ _
   | exact LeO.none _
   | refine LeO.ite ?_ ?_
   | refine LeO.bind ?_ (fun _ => ?_)
  ·intro y0 y1 y2
   unfold lanternref05_Parse.j1
   repeat' first
   | (with_reducible exact ih0 _ _ _ _)
   | (with_reducible exact ih1 _ _ _)
   | (with_reducible exact ih2 _ _ _ _ _ _ _ _ _ _ _ _ _ _ _ _ _ _ _ _ _)
   | (with_reducible exact lanternref05_V4.mono _ _)
   | (with_reducible exact lanternref05_cut.mono _ _ _)
   | (with_reducible exact lanternref05_four.mono _ _)
   | (with_reducible exact lanternref05_groups.mono _ _)
   | (with_reducible exact LeO.refl _)
   | (with_reducible exact LeO.none _)
   | (with_reducible refine LeO.ite ?_ ?_)
   | (with_reducible refine LeO.bind ?_ (fun _ => ?_))
   | exact ih0 _ _ _ _
   | exact ih1 _ _ _
   | exact ih2 _ _ _ _ _ _ _ _ _ _ _ _ _ _ _ _ _ _ _ _ _
   | exact lanternref05_V4.mono _ _
   | exact lanternref05_cut.mono _ _ _
   | exact lanternref05_four.mono _ _
   | exact lanternref05_groups.mono _ _
   | exact LeO.none _
   | refine LeO.ite ?_ ?_
   | refine LeO.bind ?_ (fun _ => ?_)
  ·intro y0 y1 y2 y3 y4 y5 y6 y7 y8 y9 y10 y11 y12 y13 y14 y15 y16 y17 y18 y19 y20
   unfold lanternref05_Parse.l1
   repeat' first
   | (with_reducible exact ih0 _ _ _ _)
   | (with_reducible exact ih1 _ _ _)
   | (with_reducible exact ih2 _ _ _ _ _ _ _ _ _ _ _ _ _ _ _ _ _ _ _ _ _)
   | (with_reducible exact lanternref05_V4.mono _ _)
   | (with_reducible exact lanternref05_cut.mono _ _ _)
   | (with_reducible exact lanternref05_four.mono _ _)
   | (with_reducible exact lanternref05_groups.mono _ _)
   | (with_reducible exact LeO.refl _)
   | (with_reducible exact LeO.none _)
   | (with_reducible refine LeO.ite ?_ ?_)
   | (with_reducible refine LeO.bind ?_ (fun _ => ?_))
   | exact ih0 _ _ _ _
   | exact ih1 _ _ _
   | exact ih2 _ _ _ _ _ _ _ _ _ _ _ _ _ _ _ _ _ _ _ _ _
   | exact lanternref05_V4.mono _ _
   | exact lanternref05_cut.mono _ _ _
   | exact lanternref05_four.mono _ _
   | exact lanternref05_groups.mono _ _
   | exact LeO.none _
   | refine LeO.ite ?_ ?_
   | refine LeO.bind ?_ (fun _ => ?_)
theorem lanternref05_Parse.mono : ∀ a0 k, LeO (lanternref05_Parse.f k a0) (lanternref05_Parse.f (k + 1) a0) := by
 intro a0 k
 obtain ⟨ih0, ih1, ih2⟩ := lanternref05_Parse.mono_l k
 unfold lanternref05_Parse.f
 repeat' first
   | (with_reducible exact ih0 _ _ _ _)
   | (with_reducible exact ih1 _ _ _)
   | (with_reducible exact ih2 _ _ _ _ _ _ _ _ _ _ _ _ _ _ _ _ _ _ _ _ _)
   | (with_reducible exact lanternref05_V4.mono _ _)
   | (with_reducible exact lanternref05_cut.mono _ _ _)
   | (with_reducible exact lanternref05_four.mono _ _)
   | (with_reducible exact lanternref05_groups.mono _ _)
   | (with_reducible exact LeO.refl _)
   | (with_reducible exact LeO.none _)
   | (with_reducible refine LeO.ite ?_ ?_)
   | (with_reducible refine LeO.bind ?_ (fun _ => ?_))
   | exact ih0 _ _ _ _
   | exact ih1 _ _ _
   | exact ih2 _ _ _ _ _ _ _ _ _ _ _ _ _ _ _ _ _ _ _ _ _
   | exact lanternref05_V4.mono _ _
   | exact lanternref05_cut.mono _ _ _
   | exact lanternref05_four.mono _ _
   | exact lanternref05_groups.mono _ _
   | exact LeO.none _
   | refine LeO.ite ?_ ?_
   | refine LeO.bind ?_ (fun _ => ?_)
set_option maxHeartbeats 8000000 in
set_option maxRecDepth 100000 in
theorem lanternref05_Parse.calls (k : Nat) (a0 : ByteArray) (r1 : Bool) (r2 : Int) (r3 : Int) (r4 : Int) (r5 : Int) (r6 : Int) (r7 : Int) (r8 : Int) (r9 : Int) (r10 : Int) (r11 : Int) (r12 : Int) (r13 : Int) (r14 : Int) (r15 : Int) (r16 : Int) (r17 : Int) (r18 : Bool) (w : World) (hLW : LW w) (h : lanternref05_Parse.f k a0 = some (r1, r2, r3, r4, r5, r6, r7, r8, r9, r10, r11, r12, r13, r14, r15, r16, r17, r18)) :
  Calls Tryz.prog 18 #[.string a0] w fun e w' => e = .returned (.tuple #[.agg (ag_ r1 r2 r3 r4 r5 r6 r7 r8 r9 r10 r11 r12 r13 r14 r15 r16 r17), .bool r18]) ∧ Below w.heap.size w w' := by
 have hu24 := Tryz.underlying24
 have HLW := Aside0.mk hLW
 clear hLW
 have HB := Aside0.mk (Below.refl w.heap.size w)
 have H := h
 unfold lanternref05_Parse.f at H
 clear h
 replace H := Option.bind_eq_some_iff.mp H
 obtain ⟨t232, A20, H⟩ := H
 (try dsimp only at H)
 have A2 := Aside0.mk A20
 clear A20
 by_cases c3 : t232 ≥ 0
 ·rw [if_pos c3] at H
  have c3b0 := decide_eq_true c3
  clear c3
  replace H := Option.bind_eq_some_iff.mp H
  obtain ⟨⟨t233, t234, t235, t236, t237, t238, t239, t240, t241, t242, t243, t244, t245, t246, t247, t248, t249⟩, A40, H⟩ := H
  (try dsimp only at H)
  have A4 := Aside0.mk A40
  clear A40
  simp only [Option.some.injEq, Prod.mk.injEq] at H
  obtain ⟨rfl, rfl, rfl, rfl, rfl, rfl, rfl, rfl, rfl, rfl, rfl, rfl, rfl, rfl, rfl, rfl, rfl, rfl⟩ := H
  go_enter Tryz.func18, Tryz.ntmps18
  go_wp2_with (first | ((with_reducible refine gate_dst (N := 2) rfl ?_); (try (refine gate_guard (by rfl) ?_; dsimp only)); refine bx_ 2 az_ 24 ?_; intro gb231 hg w5 hbox hb; have BK231 := Aside0.mk (hbox); have GW231 := Aside0.mk (ge_ (w := w) hg); have GE231 := Aside0.mk (ge_ (w := w) hg); replace HB := Aside0.mk (below_step bq_ hb); clear hb hbox hg) | ((with_reducible refine gate_callee (f := 32) rfl ?_); refine goesL_ (some 14) rfl rfl Tryz.func32 (by kernel_rfl) rfl #[.string a0] rfl lq_ ?_; (with_reducible refine (lanternref05_four.calls k a0 t232 _ ?side1 A2.out).mono ?_); (case side1 => exact lg_); rintro e w6 ⟨rfl, hb⟩; refine ⟨_, rfl, ?_⟩; replace BK231 := Aside0.mk (bb_ BK231 hb); replace HB := Aside0.mk (below_step bg_ hb); (try clear hb); (try clear hb2); (try clear hk); (try clear hi)) | ((with_reducible refine gate_callee (f := 33) rfl ?_); refine goesL_ (some 19) rfl rfl Tryz.func33 (by kernel_rfl) rfl #[.int .u64 (IntKind.u64.wrap (t232))] rfl lq_ ?_; (with_reducible refine (lanternref05_V4.calls k (IntKind.u64.wrap (t232)) t233 t234 t235 t236 t237 t238 t239 t240 t241 t242 t243 t244 t245 t246 t247 t248 t249 _ ?side1 A4.out).mono ?_); (case side1 => exact lg_); rintro e w7 ⟨rfl, hb⟩; refine ⟨_, rfl, ?_⟩; replace BK231 := Aside0.mk (bb_ BK231 hb); replace HB := Aside0.mk (below_step bg_ hb); (try clear hb); (try clear hb2); (try clear hk); (try clear hi); obtain ⟨hcz8_0, hcz8_1, hcz8_2, hcz8_3, hcz8_4, hcz8_5, hcz8_6, hcz8_7, hcz8_8, hcz8_9, hcz8_10, hcz8_11, hcz8_12, hcz8_13, hcz8_14, hcz8_15, hcz8_16⟩ := c17_ BK231; obtain ⟨hfz8_0, hfz8_1, hfz8_2, hfz8_3, hfz8_4, hfz8_5, hfz8_6, hfz8_7, hfz8_8, hfz8_9, hfz8_10, hfz8_11, hfz8_12, hfz8_13, hfz8_14, hfz8_15, hfz8_16⟩ := f17_ BK231) | ((with_reducible refine gate_store (t := 24) (p := 2) rfl ?_); refine store_all ?hg 24 2 _ rfl rfl gb231 ay_ (al_ t233 t234 t235 t236 t237 t238 t239 t240 t241 t242 t243 t244 t245 t246 t247 t248 t249) BK231.out rfl rfl rfl (by kernel_rfl) rfl ?_; (case hg => rfl); intro w9 hw; replace BK231 := Aside0.mk (show w9.heap[gb231]? = some (.cells (ag_ t233 t234 t235 t236 t237 t238 t239 t240 t241 t242 t243 t244 t245 t246 t247 t248 t249) 24 (0, 0)) from ss_ BK231 hw); replace HB := Aside0.mk (sb_ hw); clear hw))
  refine bodyPost_ret (results_ct rfl _ _ gb231 24 (ag_ t233 t234 t235 t236 t237 t238 t239 t240 t241 t242 t243 t244 t245 t246 t247 t248 t249) (0, 0) _ rfl bk_ Tryz.underlying24 rfl (by kernel_rfl)) rfl ?_
  exact ⟨rq_, bg_⟩
 ·rw [if_neg c3] at H
  have c3b0 := decide_eq_false c3
  clear c3
  replace H := Option.bind_eq_some_iff.mp H
  obtain ⟨⟨t250, t251⟩, A100, H⟩ := H
  (try dsimp only at H)
  have A10 := Aside0.mk A100
  clear A100
  by_cases c11 : t251 = true
  ·subst c11
   replace H := ifT_ H
   replace H := Option.bind_eq_some_iff.mp H
   obtain ⟨t254, A120, H⟩ := H
   (try dsimp only at H)
   have A12 := Aside0.mk A120
   clear A120
   by_cases c13 : (t254.length : Int) < 3
   ·rw [if_pos c13] at H
    have c13b0 := decide_eq_true c13
    have c13b1 : decide (t254.length < 3) = true := decide_eq_true (by omega)
    clear c13
    simp only [Option.some.injEq, Prod.mk.injEq] at H
    obtain ⟨rfl, rfl, rfl, rfl, rfl, rfl, rfl, rfl, rfl, rfl, rfl, rfl, rfl, rfl, rfl, rfl, rfl, rfl⟩ := H
    go_enter Tryz.func18, Tryz.ntmps18
    go_wp2_with (first | ((with_reducible refine gate_dst (N := 2) rfl ?_); (try (refine gate_guard (by rfl) ?_; dsimp only)); refine bx_ 2 az_ 24 ?_; intro gb231 hg w14 hbox hb; have BK231 := Aside0.mk (hbox); have GW231 := Aside0.mk (ge_ (w := w) hg); have GE231 := Aside0.mk (ge_ (w := w) hg); replace HB := Aside0.mk (below_step bq_ hb); clear hb hbox hg) | ((with_reducible refine gate_callee (f := 32) rfl ?_); refine goesL_ (some 14) rfl rfl Tryz.func32 (by kernel_rfl) rfl #[.string a0] rfl lq_ ?_; (with_reducible refine (lanternref05_four.calls k a0 t232 _ ?side1 A2.out).mono ?_); (case side1 => exact lg_); rintro e w15 ⟨rfl, hb⟩; refine ⟨_, rfl, ?_⟩; replace BK231 := Aside0.mk (bb_ BK231 hb); replace HB := Aside0.mk (below_step bg_ hb); (try clear hb); (try clear hb2); (try clear hk); (try clear hi)) | ((with_reducible refine gate_callee (f := 34) rfl ?_); refine goesL_ (some 22) rfl rfl Tryz.func34 (by kernel_rfl) rfl #[.string a0] rfl lq_ ?_; (with_reducible refine (lanternref05_groups.calls k a0 t250 true _ ?side1 A10.out).mono ?_); (case side1 => exact lg_); rintro e w16 ⟨v252, rfl, ho0, hb⟩; refine ⟨_, rfl, ?_⟩; have HO253 := Aside0.mk (Kd.R_lower ho0 (below_size bg_)); replace BK231 := Aside0.mk (bb_ BK231 hb); replace HB := Aside0.mk (below_step bg_ hb); (try clear hb); (try clear hb2); (try clear hk); (try clear hi); (try clear ho0)) | (go_at_call 35; (with_reducible refine (lanternref05_cut.calls k a0 58 t254 _ ?side1 A12.out).mono ?_); (case side1 => exact lg_); rintro e w17 ⟨v255, rfl, ho0, hb⟩; replace HO253 := Aside0.mk (Kd.R_below (by (with_reducible repeat (first | apply Kd.R_alloc | apply Kd.R_drewN | apply Kd.R_drew)); exact HO253.out) hb); have HO256 := Aside0.mk (Kd.R_lower ho0 (below_size bg_)); replace BK231 := Aside0.mk (bb_ BK231 hb); replace HB := Aside0.mk (below_step bg_ hb); (try clear hb); (try clear hb2); (try clear hk); (try clear hi); (try clear ho0); obtain ⟨Ao18, co18, eo18⟩ := Kd.R_slice HO256.out; subst eo18; obtain ⟨hcz19_0, hcz19_1, hcz19_2, hcz19_3, hcz19_4, hcz19_5, hcz19_6, hcz19_7, hcz19_8, hcz19_9, hcz19_10, hcz19_11, hcz19_12, hcz19_13, hcz19_14, hcz19_15, hcz19_16⟩ := c17_ BK231; obtain ⟨hfz19_0, hfz19_1, hfz19_2, hfz19_3, hfz19_4, hfz19_5, hfz19_6, hfz19_7, hfz19_8, hfz19_9, hfz19_10, hfz19_11, hfz19_12, hfz19_13, hfz19_14, hfz19_15, hfz19_16⟩ := f17_ BK231) | ((with_reducible refine gate_store (t := 24) (p := 2) rfl ?_); refine store_all ?hg 24 2 _ rfl rfl gb231 ay_ ay_ BK231.out rfl rfl rfl (by kernel_rfl) rfl ?_; (case hg => rfl); intro w20 hw; have n0_ : Aside0 (Kd.R (Kd.int .i64) 3 w20 w.heap.size (fun _ => True) v252 t250) := ⟨(by rw [hw]; exact (by (with_reducible repeat (first | apply Kd.R_alloc | apply Kd.R_drewN | apply Kd.R_drew)); exact Kd.R_mono (R_farC (g := gb231) (fun _ hk => hk.2) (Kd.R_types HO253.out BK231.out (by decide)) ay_ 0) (fun _ hk => trivial)))⟩; have n1_ : Aside0 (Kd.R Kd.string 9 w20 w.heap.size (fun _ => True) (.slice Ao18 t254.length co18) t254) := ⟨(by rw [hw]; exact (by (with_reducible repeat (first | apply Kd.R_alloc | apply Kd.R_drewN | apply Kd.R_drew)); exact Kd.R_mono (R_farC (g := gb231) (fun _ hk => hk.2) (Kd.R_types HO256.out BK231.out (by decide)) ay_ 0) (fun _ hk => trivial)))⟩; have n2_ := Aside0.mk (show w20.heap[gb231]? = some (.cells az_ 24 (0, 0)) from ss_ BK231 hw); have n3_ := Aside0.mk (sb_ hw); clear hw; clear HO253; clear HO256; clear BK231; clear HB; have HO253 := n0_; have HO256 := n1_; have BK231 := n2_; have HB := n3_; clear n0_ n1_ n2_ n3_))
    refine bodyPost_ret (results_ct rfl _ _ gb231 24 az_ (0, 0) _ rfl bk_ Tryz.underlying24 rfl (by kernel_rfl)) rfl ?_
    exact ⟨rq_, bg_⟩
   ·rw [if_neg c13] at H
    have c13b0 := decide_eq_false c13
    have c13b1 : decide (t254.length < 3) = false := decide_eq_false (by omega)
    clear c13
    have H' := Aside0.mk H
    clear H
    go_enter Tryz.func18, Tryz.ntmps18
    go_wp2_with (first | ((with_reducible refine gate_dst (N := 2) rfl ?_); (try (refine gate_guard (by rfl) ?_; dsimp only)); refine bx_ 2 az_ 24 ?_; intro gb231 hg w21 hbox hb; have BK231 := Aside0.mk (hbox); have GW231 := Aside0.mk (ge_ (w := w) hg); have GE231 := Aside0.mk (ge_ (w := w) hg); replace HB := Aside0.mk (below_step bq_ hb); clear hb hbox hg) | ((with_reducible refine gate_callee (f := 32) rfl ?_); refine goesL_ (some 14) rfl rfl Tryz.func32 (by kernel_rfl) rfl #[.string a0] rfl lq_ ?_; (with_reducible refine (lanternref05_four.calls k a0 t232 _ ?side1 A2.out).mono ?_); (case side1 => exact lg_); rintro e w22 ⟨rfl, hb⟩; refine ⟨_, rfl, ?_⟩; replace BK231 := Aside0.mk (bb_ BK231 hb); replace HB := Aside0.mk (below_step bg_ hb); (try clear hb); (try clear hb2); (try clear hk); (try clear hi)) | ((with_reducible refine gate_callee (f := 34) rfl ?_); refine goesL_ (some 22) rfl rfl Tryz.func34 (by kernel_rfl) rfl #[.string a0] rfl lq_ ?_; (with_reducible refine (lanternref05_groups.calls k a0 t250 true _ ?side1 A10.out).mono ?_); (case side1 => exact lg_); rintro e w23 ⟨v252, rfl, ho0, hb⟩; refine ⟨_, rfl, ?_⟩; have HO253 := Aside0.mk (Kd.R_lower ho0 (below_size bg_)); replace BK231 := Aside0.mk (bb_ BK231 hb); replace HB := Aside0.mk (below_step bg_ hb); (try clear hb); (try clear hb2); (try clear hk); (try clear hi); (try clear ho0)) | (go_at_call 35; (with_reducible refine (lanternref05_cut.calls k a0 58 t254 _ ?side1 A12.out).mono ?_); (case side1 => exact lg_); rintro e w24 ⟨v255, rfl, ho0, hb⟩; replace HO253 := Aside0.mk (Kd.R_below (by (with_reducible repeat (first | apply Kd.R_alloc | apply Kd.R_drewN | apply Kd.R_drew)); exact HO253.out) hb); have HO256 := Aside0.mk (Kd.R_lower ho0 (below_size bg_)); replace BK231 := Aside0.mk (bb_ BK231 hb); replace HB := Aside0.mk (below_step bg_ hb); (try clear hb); (try clear hb2); (try clear hk); (try clear hi); (try clear ho0); obtain ⟨Ao25, co25, eo25⟩ := Kd.R_slice HO256.out; subst eo25))
    go_loopg [7, 8, 9] k (fun kq v7 v8 v9 w' => ∃ (x7_1 : Int) (x8_1 : Bool) (x9_1 : Int), v7 = .int .i64 x7_1 ∧ v8 = .bool x8_1 ∧ v9 = .int .i64 x9_1 ∧ Aside0 (lanternref05_Parse.l0 kq t250 x7_1 x8_1 x9_1 = some (r1, r2, r3, r4, r5, r6, r7, r8, r9, r10, r11, r12, r13, r14, r15, r16, r17, r18)) ∧ Aside0 (kq ≤ k) ∧ Aside0 (Kd.R (Kd.int .i64) 3 w' w.heap.size (fun _ => True) v252 t250) ∧ Aside0 (w'.heap[gb231]? = some (.cells az_ 24 (0, 0))) ∧ Aside0 (Below w.heap.size w w'))
    case atStart => exact ⟨(0), (false), (0), sq_, sq_, sq_, H', ⟨Nat.le_refl _⟩, ⟨by (with_reducible repeat (first | apply Kd.R_alloc | apply Kd.R_drewN | apply Kd.R_drew)); exact HO253.out⟩, ⟨bk_⟩, ⟨bg_⟩⟩
    case round =>
     clear H'
     obtain ⟨x7_1, x8_1, x9_1, rfl, rfl, rfl, HA, HK1, HO_5, BK231, HB⟩ := hrel
     cases gk with
     | zero => exact absurd HA.out (by simp [lanternref05_Parse.l0])
     | succ k1 =>
      have H := HA.out
      clear HA
      simp only [lanternref05_Parse.l0] at H
      by_cases c26 : x9_1 < (t250.length : Int)
      ·rw [if_pos c26] at H
       have c26b0 := decide_eq_true c26
       clear c26
       by_cases c27 : 0 ≤ x9_1
       ·rw [if_pos c27] at H
        have c27b0 := decide_eq_true c27
        clear c27
        by_cases c28 : (rd t250 x9_1) < 0
        ·rw [if_pos c28] at H
         have c28b0 := decide_eq_true c28
         clear c28
         have H' := Aside0.mk H
         clear H
         obtain ⟨Ao29, co29, eo29⟩ := Kd.R_slice HO_5.out
         subst eo29
         have p257 : 0 ≤ (x9_1 : Int) := of_decide_eq_true as_
         have q257 : x9_1 < (t250.length : Int) := of_decide_eq_true as_
         obtain ⟨ad257, e257, hx257_0⟩ := Kd.at_int (Kd.R_reads' HO_5.out).2.2 x9_1 p257 q257
         cases e257
         replace p257 := eq_true p257
         replace q257 := eq_true q257
         go_wp2
         go_roundg k1
         case measure => have := HK1.out; omega
         case rel => exact ⟨(x7_1), (true), (wrap64 (x9_1 + 1)), sq_, sq_, sq_, H', ⟨by have := HK1.out; omega⟩, ⟨by (with_reducible repeat (first | apply Kd.R_alloc | apply Kd.R_drewN | apply Kd.R_drew)); exact HO_5.out⟩, ⟨bk_⟩, ⟨bg_⟩⟩
        ·rw [if_neg c28] at H
         have c28b0 := decide_eq_false c28
         clear c28
         have H' := Aside0.mk H
         clear H
         obtain ⟨Ao30, co30, eo30⟩ := Kd.R_slice HO_5.out
         subst eo30
         have p257 : 0 ≤ (x9_1 : Int) := of_decide_eq_true as_
         have q257 : x9_1 < (t250.length : Int) := of_decide_eq_true as_
         obtain ⟨ad257, e257, hx257_0⟩ := Kd.at_int (Kd.R_reads' HO_5.out).2.2 x9_1 p257 q257
         cases e257
         replace p257 := eq_true p257
         replace q257 := eq_true q257
         go_wp2
         go_roundg k1
         case measure => have := HK1.out; omega
         case rel => exact ⟨(wrap64 (x7_1 + 1)), (x8_1), (wrap64 (x9_1 + 1)), sq_, sq_, sq_, H', ⟨by have := HK1.out; omega⟩, ⟨by (with_reducible repeat (first | apply Kd.R_alloc | apply Kd.R_drewN | apply Kd.R_drew)); exact HO_5.out⟩, ⟨bk_⟩, ⟨bg_⟩⟩
       ·rw [if_neg c27] at H
        exact absurd H (by simp)
      ·rw [if_neg c26] at H
       have c26b0 := decide_eq_false c26
       clear c26
       have HC31 := Aside0.mk H
       clear H
       obtain ⟨Ao32, co32, eo32⟩ := Kd.R_slice HO_5.out
       subst eo32
       go_upto_region 14 with (fail)
       go_cut [56] (fun v56 wc => ∃ (kq : Nat) (x56_30 : Bool), v56 = .bool x56_30 ∧ Aside0 (lanternref05_Parse.j1 kq t250 x7_1 x56_30 = some (r1, r2, r3, r4, r5, r6, r7, r8, r9, r10, r11, r12, r13, r14, r15, r16, r17, r18)) ∧ Aside0 (kq ≤ k1) ∧ Aside0 (Kd.R (Kd.int .i64) 3 wc w.heap.size (fun _ => True) (.slice Ao32 t250.length co32) t250) ∧ Aside0 (wc.heap[gb231]? = some (.cells az_ 24 (0, 0))) ∧ Aside0 (Below w.heap.size w wc))
       case first =>
        have H := HC31.out
        clear HC31
        by_cases c33 : x7_1 > 8
        ·rw [if_pos c33] at H
         exact absurd H (by simp)
        ·rw [if_neg c33] at H
         have c33b0 := decide_eq_false c33
         clear c33
         (first | rw [c33b0] | (simp only [i64_w, i32_w]; rw [c33b0]) | skip)
         by_cases c34 : x8_1 = true
         ·subst c34
          replace H := ifT_ H
          have H' := Aside0.mk H
          clear H
          go_wp2
          go_meet
          case rel => exact ⟨_, (false), sq_, H', ⟨by have := HK1.out; first | omega | exact Nat.le_refl _⟩, ⟨by (with_reducible repeat (first | apply Kd.R_alloc | apply Kd.R_drewN | apply Kd.R_drew)); exact HO_5.out⟩, ⟨bk_⟩, ⟨bg_⟩⟩
         ·replace c34 := Bool.eq_false_iff.mpr c34
          subst c34
          replace H := ifF_ H
          have H' := Aside0.mk H
          clear H
          go_wp2
          go_meet
          case rel => exact ⟨_, ((x7_1 != 8)), sq_, H', ⟨by have := HK1.out; first | omega | exact Nat.le_refl _⟩, ⟨by (with_reducible repeat (first | apply Kd.R_alloc | apply Kd.R_drewN | apply Kd.R_drew)); exact HO_5.out⟩, ⟨bk_⟩, ⟨bg_⟩⟩
       case rest =>
        clear HC31
        obtain ⟨kq, x56_30, rfl, HA, HJ30, HO_5, BK231, HB⟩ := hcut
        cases kq with
        | zero => exact absurd HA.out (by simp [lanternref05_Parse.j1])
        | succ kj30 =>
         have H := HA.out
         clear HA
         simp only [lanternref05_Parse.j1] at H
         by_cases c35 : x56_30 = true
         ·subst c35
          replace H := ifT_ H
          exact absurd H (by simp)
         ·replace c35 := Bool.eq_false_iff.mpr c35
          subst c35
          replace H := ifF_ H
          have H' := Aside0.mk H
          clear H
          go_wp2_with (first | ((with_reducible refine gate_dst (N := 10) rfl ?_); (try (refine gate_guard (by rfl) ?_; dsimp only)); refine bx_ 10 az_ 24 ?_; intro gb258 hg w36 hbox hb; have n0_ := Aside0.mk (Kd.R_below (by (with_reducible repeat (first | apply Kd.R_alloc | apply Kd.R_drewN | apply Kd.R_drew)); exact HO_5.out) hb); have n1_ := Aside0.mk (bb_ BK231 hb); have n2_ := Aside0.mk (below_step bg_ hb); have n3_ := Aside0.mk (hbox); have n4_ := Aside0.mk (gg_ (w := w) hg); have n5_ := Aside0.mk (gg_ (w := w) hg); have n6_ := Aside0.mk (nl_ BK231 hg); have n7_ := Aside0.mk (ng_ BK231 hg); clear HO_5; clear BK231; clear HB; have HO_5 := n0_; have BK231 := n1_; have HB := n2_; have BK258 := n3_; have GW258 := n4_; have GE258 := n5_; have NB231_258 := n6_; have NB258_231 := n7_; clear n0_ n1_ n2_ n3_ n4_ n5_ n6_ n7_; clear hb hbox hg; have hnb37 := NB258_231.out; have hnc37 := NB231_258.out; obtain ⟨hcz38_0, hcz38_1, hcz38_2, hcz38_3, hcz38_4, hcz38_5, hcz38_6, hcz38_7, hcz38_8, hcz38_9, hcz38_10, hcz38_11, hcz38_12, hcz38_13, hcz38_14, hcz38_15, hcz38_16⟩ := c17_ BK258; obtain ⟨hfz38_0, hfz38_1, hfz38_2, hfz38_3, hfz38_4, hfz38_5, hfz38_6, hfz38_7, hfz38_8, hfz38_9, hfz38_10, hfz38_11, hfz38_12, hfz38_13, hfz38_14, hfz38_15, hfz38_16⟩ := f17_ BK258) | ((with_reducible refine gate_store (t := 24) (p := 10) rfl ?_); refine store_all ?hg 24 10 _ rfl rfl gb258 ay_ (al_ true 0 0 0 0 0 0 0 0 0 0 0 0 0 0 0 0) BK258.out rfl rfl rfl (by kernel_rfl) rfl ?_; (case hg => rfl); intro w39 hw; have n0_ : Aside0 (Kd.R (Kd.int .i64) 3 w39 w.heap.size (fun _ => True) (.slice Ao32 t250.length co32) t250) := ⟨(by rw [hw]; exact (by (with_reducible repeat (first | apply Kd.R_alloc | apply Kd.R_drewN | apply Kd.R_drew)); exact Kd.R_mono (R_farC (g := gb258) (fun _ hk => hk.2) (Kd.R_types HO_5.out BK258.out (by decide)) (al_ true 0 0 0 0 0 0 0 0 0 0 0 0 0 0 0 0) 0) (fun _ hk => trivial)))⟩; have n1_ := Aside0.mk (sf_ BK231 NB231_258 hw); have n2_ := Aside0.mk (show w39.heap[gb258]? = some (.cells (ag_ true 0 0 0 0 0 0 0 0 0 0 0 0 0 0 0 0) 24 (0, 0)) from ss_ BK258 hw); have n3_ := Aside0.mk (sb_ hw); clear hw; clear HO_5; clear BK231; clear BK258; clear HB; have HO_5 := n0_; have BK231 := n1_; have BK258 := n2_; have HB := n3_; clear n0_ n1_ n2_ n3_))
          go_loopg [11, 12] kj30 (fun kq v11 v12 w' => ∃ (x11_3 : Int) (x12_3 : Int) (V1_3 : Int) (V2_3 : Int) (V3_3 : Int) (V4_3 : Int) (V5_3 : Int) (V6_3 : Int) (V7_3 : Int) (V8_3 : Int) (V9_3 : Int) (V10_3 : Int) (V11_3 : Int) (V12_3 : Int) (V13_3 : Int) (V14_3 : Int) (V15_3 : Int) (V16_3 : Int), v11 = .int .i64 x11_3 ∧ v12 = .int .i64 x12_3 ∧ Aside0 (lanternref05_Parse.l1 kq t250 x7_1 x11_3 x12_3 true V1_3 V2_3 V3_3 V4_3 V5_3 V6_3 V7_3 V8_3 V9_3 V10_3 V11_3 V12_3 V13_3 V14_3 V15_3 V16_3 = some (r1, r2, r3, r4, r5, r6, r7, r8, r9, r10, r11, r12, r13, r14, r15, r16, r17, r18)) ∧ Aside0 (kq ≤ kj30) ∧ Aside0 (Kd.R (Kd.int .i64) 3 w' w.heap.size (fun _ => True) (.slice Ao32 t250.length co32) t250) ∧ Aside0 (w'.heap[gb231]? = some (.cells az_ 24 (0, 0))) ∧ Aside0 (w'.heap[gb258]? = some (.cells (ag_ true V1_3 V2_3 V3_3 V4_3 V5_3 V6_3 V7_3 V8_3 V9_3 V10_3 V11_3 V12_3 V13_3 V14_3 V15_3 V16_3) 24 (0, 0))) ∧ Aside0 (Below w.heap.size w w'))
          case atStart => exact ⟨(0), (0), (0), (0), (0), (0), (0), (0), (0), (0), (0), (0), (0), (0), (0), (0), (0), (0), sq_, sq_, H', ⟨Nat.le_refl _⟩, ⟨by (with_reducible repeat (first | apply Kd.R_alloc | apply Kd.R_drewN | apply Kd.R_drew)); exact HO_5.out⟩, ⟨bk_⟩, ⟨bk_⟩, ⟨bg_⟩⟩
          case round =>
           clear H'
           obtain ⟨x11_3, x12_3, V1_3, V2_3, V3_3, V4_3, V5_3, V6_3, V7_3, V8_3, V9_3, V10_3, V11_3, V12_3, V13_3, V14_3, V15_3, V16_3, rfl, rfl, HA, HK3, HO_5, BK231, BK258, HB⟩ := hrel
           cases gk with
           | zero => exact absurd HA.out (by simp [lanternref05_Parse.l1])
           | succ k3 =>
            have H := HA.out
            clear HA
            simp only [lanternref05_Parse.l1] at H
            by_cases c40 : x12_3 < (t250.length : Int)
            ·rw [if_pos c40] at H
             have c40b0 := decide_eq_true c40
             clear c40
             by_cases c41 : 0 ≤ x12_3
             ·rw [if_pos c41] at H
              have c41b0 := decide_eq_true c41
              clear c41
              by_cases c42 : (rd t250 x12_3) < 0
              ·rw [if_pos c42] at H
               have c42b0 := decide_eq_true c42
               clear c42
               have H' := Aside0.mk H
               clear H
               have p259 : 0 ≤ (x12_3 : Int) := of_decide_eq_true as_
               have q259 : x12_3 < (t250.length : Int) := of_decide_eq_true as_
               obtain ⟨ad259, e259, hx259_0⟩ := Kd.at_int (Kd.R_reads' HO_5.out).2.2 x12_3 p259 q259
               cases e259
               replace p259 := eq_true p259
               replace q259 := eq_true q259
               go_wp2
               go_roundg k3
               case measure => have := HK1.out; have := HJ30.out; have := HK3.out; omega
               case rel => exact ⟨(wrap64 (x11_3 + (wrap64 (2 * (wrap64 (8 - x7_1)))))), (wrap64 (x12_3 + 1)), (V1_3), (V2_3), (V3_3), (V4_3), (V5_3), (V6_3), (V7_3), (V8_3), (V9_3), (V10_3), (V11_3), (V12_3), (V13_3), (V14_3), (V15_3), (V16_3), sq_, sq_, H', ⟨by have := HK1.out; have := HJ30.out; have := HK3.out; omega⟩, ⟨by (with_reducible repeat (first | apply Kd.R_alloc | apply Kd.R_drewN | apply Kd.R_drew)); exact HO_5.out⟩, ⟨bk_⟩, ⟨bk_⟩, ⟨bg_⟩⟩
              ·rw [if_neg c42] at H
               have c42b0 := decide_eq_false c42
               clear c42
               by_cases c43 : 0 ≤ x11_3
               ·rw [if_pos c43] at H
                have c43b0 := decide_eq_true c43
                clear c43
                by_cases c44 : x11_3 < 16
                ·rw [if_pos c44] at H
                 have c44b0 := decide_eq_true c44
                 clear c44
                 obtain ⟨ji45, hji45⟩ : ∃ j_ : Int, (wrap64 (x11_3 + 1)) = j_ := ⟨_, rfl⟩
                 replace H : (if 0 ≤ (ji45) then (if (ji45) < 16 then (lanternref05_Parse.l1 k3 t250 x7_1 (wrap64 (x11_3 + 2)) (wrap64 (x12_3 + 1)) true (upd (ji45) 0 ((Int.tmod (rd t250 x12_3) 256) % 256) (upd x11_3 0 ((wrap64 (Int.tdiv (rd t250 x12_3) 256)) % 256) V1_3)) (upd (ji45) 1 ((Int.tmod (rd t250 x12_3) 256) % 256) (upd x11_3 1 ((wrap64 (Int.tdiv (rd t250 x12_3) 256)) % 256) V2_3)) (upd (ji45) 2 ((Int.tmod (rd t250 x12_3) 256) % 256) (upd x11_3 2 ((wrap64 (Int.tdiv (rd t250 x12_3) 256)) % 256) V3_3)) (upd (ji45) 3 ((Int.tmod (rd t250 x12_3) 256) % 256) (upd x11_3 3 ((wrap64 (Int.tdiv (rd t250 x12_3) 256)) % 256) V4_3)) (upd (ji45) 4 ((Int.tmod (rd t250 x12_3) 256) % 256) (upd x11_3 4 ((wrap64 (Int.tdiv (rd t250 x12_3) 256)) % 256) V5_3)) (upd (ji45) 5 ((Int.tmod (rd t250 x12_3) 256) % 256) (upd x11_3 5 ((wrap64 (Int.tdiv (rd t250 x12_3) 256)) % 256) V6_3)) (upd (ji45) 6 ((Int.tmod (rd t250 x12_3) 256) % 256) (upd x11_3 6 ((wrap64 (Int.tdiv (rd t250 x12_3) 256)) % 256) V7_3)) (upd (ji45) 7 ((Int.tmod (rd t250 x12_3) 256) % 256) (upd x11_3 7 ((wrap64 (Int.tdiv (rd t250 x12_3) 256)) % 256) V8_3)) (upd (ji45) 8 ((Int.tmod (rd t250 x12_3) 256) % 256) (upd x11_3 8 ((wrap64 (Int.tdiv (rd t250 x12_3) 256)) % 256) V9_3)) (upd (ji45) 9 ((Int.tmod (rd t250 x12_3) 256) % 256) (upd x11_3 9 ((wrap64 (Int.tdiv (rd t250 x12_3) 256)) % 256) V10_3)) (upd (ji45) 10 ((Int.tmod (rd t250 x12_3) 256) % 256) (upd x11_3 10 ((wrap64 (Int.tdiv (rd t250 x12_3) 256)) % 256) V11_3)) (upd (ji45) 11 ((Int.tmod (rd t250 x12_3) 256) % 256) (upd x11_3 11 ((wrap64 (Int.tdiv (rd t250 x12_3) 256)) % 256) V12_3)) (upd (ji45) 12 ((Int.tmod (rd t250 x12_3) 256) % 256) (upd x11_3 12 ((wrap64 (Int.tdiv (rd t250 x12_3) 256)) % 256) V13_3)) (upd (ji45) 13 ((Int.tmod (rd t250 x12_3) 256) % 256) (upd x11_3 13 ((wrap64 (Int.tdiv (rd t250 x12_3) 256)) % 256) V14_3)) (upd (ji45) 14 ((Int.tmod (rd t250 x12_3) 256) % 256) (upd x11_3 14 ((wrap64 (Int.tdiv (rd t250 x12_3) 256)) % 256) V15_3)) (upd (ji45) 15 ((Int.tmod (rd t250 x12_3) 256) % 256) (upd x11_3 15 ((wrap64 (Int.tdiv (rd t250 x12_3) 256)) % 256) V16_3))) else (none)) else (none)) = some (r1, r2, r3, r4, r5, r6, r7, r8, r9, r10, r11, r12, r13, r14, r15, r16, r17, r18) := by first | (rw [hji45] at H; exact H) | (simp only [hji45] at H ⊢; exact H)
                 have hji45w : (IntKind.i64.wrap (x11_3 + 1)) = ji45 := (i64_w _).trans hji45
                 by_cases c46 : 0 ≤ (ji45)
                 ·rw [if_pos c46] at H
                  have c46b0 := decide_eq_true c46
                  clear c46
                  by_cases c47 : (ji45) < 16
                  ·rw [if_pos c47] at H
                   have c47b0 := decide_eq_true c47
                   clear c47
                   have H' := Aside0.mk H
                   clear H
                   have p259 : 0 ≤ (x12_3 : Int) := of_decide_eq_true as_
                   have q259 : x12_3 < (t250.length : Int) := of_decide_eq_true as_
                   obtain ⟨ad259, e259, hx259_0⟩ := Kd.at_int (Kd.R_reads' HO_5.out).2.2 x12_3 p259 q259
                   cases e259
                   replace p259 := eq_true p259
                   replace q259 := eq_true q259
                   have p260 : 0 ≤ (x12_3 : Int) := of_decide_eq_true as_
                   have q260 : x12_3 < (t250.length : Int) := of_decide_eq_true as_
                   obtain ⟨ad260, e260, hx260_0⟩ := Kd.at_int (Kd.R_reads' HO_5.out).2.2 x12_3 p260 q260
                   obtain rfl : ad259 = ad260 := (by injection e260)
                   replace p260 := eq_true p260
                   replace q260 := eq_true q260
                   have par48 : (0 ≤ x11_3) = True := eq_true (of_decide_eq_true as_)
                   have qar48 : (x11_3 < 16) = True := eq_true (of_decide_eq_true as_)
                   have hnb49 := NB258_231.out
                   have hnc49 := NB231_258.out
                   obtain ⟨hcz50_0, hcz50_1, hcz50_2, hcz50_3, hcz50_4, hcz50_5, hcz50_6, hcz50_7, hcz50_8, hcz50_9, hcz50_10, hcz50_11, hcz50_12, hcz50_13, hcz50_14, hcz50_15, hcz50_16⟩ := c17_ BK258
                   obtain ⟨hfz50_0, hfz50_1, hfz50_2, hfz50_3, hfz50_4, hfz50_5, hfz50_6, hfz50_7, hfz50_8, hfz50_9, hfz50_10, hfz50_11, hfz50_12, hfz50_13, hfz50_14, hfz50_15, hfz50_16⟩ := f17_ BK258
                   have hxar48 : wr.cell? ⟨gb258, 1 + (x11_3).toNat, none⟩ = some (.int .u8 (rd [V1_3, V2_3, V3_3, V4_3, V5_3, V6_3, V7_3, V8_3, V9_3, V10_3, V11_3, V12_3, V13_3, V14_3, V15_3, V16_3] x11_3)) := (blk_idx BK258.out .u8 [.bool true] [V1_3, V2_3, V3_3, V4_3, V5_3, V6_3, V7_3, V8_3, V9_3, V10_3, V11_3, V12_3, V13_3, V14_3, V15_3, V16_3] [] rfl x11_3 (of_decide_eq_true as_) (of_decide_eq_true as_) rfl)
                   have hfar48 := bf_ BK258 (1 + (x11_3).toNat)
                   go_wp2_with (first | ((with_reducible refine gate_store (t := 5) (p := 83) rfl ?_); refine store_event (t := 5) (p := 83) (v := ?vo_w51) (w1 := (wr.setCell ⟨gb258, 1 + (x11_3).toNat, none⟩ (.int .u8 ((wrap64 (Int.tdiv (rd t250 x12_3) 256)) % 256)))) ?hg ?ho ?hn ?hr ?_; (case ho => rfl); (case hg => rfl); (case hn => rfl); (case hr => first | (go_simp; done) | (go_simp; rfl)); intro w51 hw; have n0_ : Aside0 (Kd.R (Kd.int .i64) 3 w51 w.heap.size (fun _ => True) (.slice (some ad259) t250.length co32) t250) := ⟨(by rw [hw]; exact (by (with_reducible repeat (first | apply Kd.R_alloc | apply Kd.R_drewN | apply Kd.R_drew)); exact Kd.R_mono (Kd.R_far (p := ⟨gb258, 1 + (x11_3).toNat, none⟩) (Kd.R_types HO_5.out BK258.out (by decide)) (fun _ hk => hk.2) (.int .u8 ((wrap64 (Int.tdiv (rd t250 x12_3) 256)) % 256))) (fun _ hk => trivial)))⟩; have n1_ : Aside0 (w51.heap[gb231]? = some (.cells az_ 24 (0, 0))) := ⟨(by rw [hw]; exact (by (with_reducible repeat (first | refine blk_drewN ?_ _ | refine blk_drew ?_ | refine blk_alloc ?_ _)); refine blk_far ?_ NB231_258.out _; (with_reducible repeat (first | refine blk_drewN ?_ _ | refine blk_drew ?_ | refine blk_alloc ?_ _)); exact BK231.out))⟩; have n2_ : Aside0 (w51.heap[gb258]? = some (.cells #[.bool true, .int .u8 (upd x11_3 0 ((wrap64 (Int.tdiv (rd t250 x12_3) 256)) % 256) V1_3), .int .u8 (upd x11_3 1 ((wrap64 (Int.tdiv (rd t250 x12_3) 256)) % 256) V2_3), .int .u8 (upd x11_3 2 ((wrap64 (Int.tdiv (rd t250 x12_3) 256)) % 256) V3_3), .int .u8 (upd x11_3 3 ((wrap64 (Int.tdiv (rd t250 x12_3) 256)) % 256) V4_3), .int .u8 (upd x11_3 4 ((wrap64 (Int.tdiv (rd t250 x12_3) 256)) % 256) V5_3), .int .u8 (upd x11_3 5 ((wrap64 (Int.tdiv (rd t250 x12_3) 256)) % 256) V6_3), .int .u8 (upd x11_3 6 ((wrap64 (Int.tdiv (rd t250 x12_3) 256)) % 256) V7_3), .int .u8 (upd x11_3 7 ((wrap64 (Int.tdiv (rd t250 x12_3) 256)) % 256) V8_3), .int .u8 (upd x11_3 8 ((wrap64 (Int.tdiv (rd t250 x12_3) 256)) % 256) V9_3), .int .u8 (upd x11_3 9 ((wrap64 (Int.tdiv (rd t250 x12_3) 256)) % 256) V10_3), .int .u8 (upd x11_3 10 ((wrap64 (Int.tdiv (rd t250 x12_3) 256)) % 256) V11_3), .int .u8 (upd x11_3 11 ((wrap64 (Int.tdiv (rd t250 x12_3) 256)) % 256) V12_3), .int .u8 (upd x11_3 12 ((wrap64 (Int.tdiv (rd t250 x12_3) 256)) % 256) V13_3), .int .u8 (upd x11_3 13 ((wrap64 (Int.tdiv (rd t250 x12_3) 256)) % 256) V14_3), .int .u8 (upd x11_3 14 ((wrap64 (Int.tdiv (rd t250 x12_3) 256)) % 256) V15_3), .int .u8 (upd x11_3 15 ((wrap64 (Int.tdiv (rd t250 x12_3) 256)) % 256) V16_3)] 24 (0, 0))) := ⟨(by rw [hw]; exact (by (with_reducible repeat (first | refine blk_drewN ?_ _ | refine blk_drew ?_ | refine blk_alloc ?_ _)); refine blk_put (cs := (ag_ true V1_3 V2_3 V3_3 V4_3 V5_3 V6_3 V7_3 V8_3 V9_3 V10_3 V11_3 V12_3 V13_3 V14_3 V15_3 V16_3)) ?_ (1 + (x11_3).toNat) _ (upd_set .u8 [.bool true] [V1_3, V2_3, V3_3, V4_3, V5_3, V6_3, V7_3, V8_3, V9_3, V10_3, V11_3, V12_3, V13_3, V14_3, V15_3, V16_3] [] rfl x11_3 (of_decide_eq_true as_) (of_decide_eq_true as_) rfl _ rfl); (with_reducible repeat (first | refine blk_drewN ?_ _ | refine blk_drew ?_ | refine blk_alloc ?_ _)); exact BK258.out))⟩; have n3_ : Aside0 (Below w.heap.size w w51) := ⟨(by rw [hw]; exact bg_)⟩; clear hw; clear HO_5; clear BK231; clear BK258; clear HB; have HO_5 := n0_; have BK231 := n1_; have BK258 := n2_; have HB := n3_; clear n0_ n1_ n2_ n3_; have p262 : 0 ≤ (x12_3 : Int) := of_decide_eq_true as_; have q262 : x12_3 < (t250.length : Int) := of_decide_eq_true as_; obtain ⟨ad262, e262, hx262_0⟩ := Kd.at_int (Kd.R_reads' HO_5.out).2.2 x12_3 p262 q262; obtain rfl : ad259 = ad262 := (by injection e262); replace p262 := eq_true p262; replace q262 := eq_true q262; have par52 : (0 ≤ (ji45)) = True := eq_true (of_decide_eq_true as_); have qar52 : ((ji45) < 16) = True := eq_true (of_decide_eq_true as_); have hcz53_0 := cz_ BK258 0 (.bool true); have hcz53_1 : w51.cell? ⟨gb258, 1, none⟩ = some (.int .u8 (upd x11_3 0 ((wrap64 (Int.tdiv (rd t250 x12_3) 256)) % 256) V1_3)) := (blk_cell BK258.out 1).trans rfl; have hcz53_2 : w51.cell? ⟨gb258, 2, none⟩ = some (.int .u8 (upd x11_3 1 ((wrap64 (Int.tdiv (rd t250 x12_3) 256)) % 256) V2_3)) := (blk_cell BK258.out 2).trans rfl; have hcz53_3 : w51.cell? ⟨gb258, 3, none⟩ = some (.int .u8 (upd x11_3 2 ((wrap64 (Int.tdiv (rd t250 x12_3) 256)) % 256) V3_3)) := (blk_cell BK258.out 3).trans rfl; have hcz53_4 : w51.cell? ⟨gb258, 4, none⟩ = some (.int .u8 (upd x11_3 3 ((wrap64 (Int.tdiv (rd t250 x12_3) 256)) % 256) V4_3)) := (blk_cell BK258.out 4).trans rfl; have hcz53_5 : w51.cell? ⟨gb258, 5, none⟩ = some (.int .u8 (upd x11_3 4 ((wrap64 (Int.tdiv (rd t250 x12_3) 256)) % 256) V5_3)) := (blk_cell BK258.out 5).trans rfl; have hcz53_6 : w51.cell? ⟨gb258, 6, none⟩ = some (.int .u8 (upd x11_3 5 ((wrap64 (Int.tdiv (rd t250 x12_3) 256)) % 256) V6_3)) := (blk_cell BK258.out 6).trans rfl; have hcz53_7 : w51.cell? ⟨gb258, 7, none⟩ = some (.int .u8 (upd x11_3 6 ((wrap64 (Int.tdiv (rd t250 x12_3) 256)) % 256) V7_3)) := (blk_cell BK258.out 7).trans rfl; have hcz53_8 : w51.cell? ⟨gb258, 8, none⟩ = some (.int .u8 (upd x11_3 7 ((wrap64 (Int.tdiv (rd t250 x12_3) 256)) % 256) V8_3)) := (blk_cell BK258.out 8).trans rfl; have hcz53_9 : w51.cell? ⟨gb258, 9, none⟩ = some (.int .u8 (upd x11_3 8 ((wrap64 (Int.tdiv (rd t250 x12_3) 256)) % 256) V9_3)) := (blk_cell BK258.out 9).trans rfl; have hcz53_10 : w51.cell? ⟨gb258, 10, none⟩ = some (.int .u8 (upd x11_3 9 ((wrap64 (Int.tdiv (rd t250 x12_3) 256)) % 256) V10_3)) := (blk_cell BK258.out 10).trans rfl; have hcz53_11 : w51.cell? ⟨gb258, 11, none⟩ = some (.int .u8 (upd x11_3 10 ((wrap64 (Int.tdiv (rd t250 x12_3) 256)) % 256) V11_3)) := (blk_cell BK258.out 11).trans rfl; have hcz53_12 : w51.cell? ⟨gb258, 12, none⟩ = some (.int .u8 (upd x11_3 11 ((wrap64 (Int.tdiv (rd t250 x12_3) 256)) % 256) V12_3)) := (blk_cell BK258.out 12).trans rfl; have hcz53_13 : w51.cell? ⟨gb258, 13, none⟩ = some (.int .u8 (upd x11_3 12 ((wrap64 (Int.tdiv (rd t250 x12_3) 256)) % 256) V13_3)) := (blk_cell BK258.out 13).trans rfl; have hcz53_14 : w51.cell? ⟨gb258, 14, none⟩ = some (.int .u8 (upd x11_3 13 ((wrap64 (Int.tdiv (rd t250 x12_3) 256)) % 256) V14_3)) := (blk_cell BK258.out 14).trans rfl; have hcz53_15 : w51.cell? ⟨gb258, 15, none⟩ = some (.int .u8 (upd x11_3 14 ((wrap64 (Int.tdiv (rd t250 x12_3) 256)) % 256) V15_3)) := (blk_cell BK258.out 15).trans rfl; have hcz53_16 : w51.cell? ⟨gb258, 16, none⟩ = some (.int .u8 (upd x11_3 15 ((wrap64 (Int.tdiv (rd t250 x12_3) 256)) % 256) V16_3)) := (blk_cell BK258.out 16).trans rfl; obtain ⟨hfz53_0, hfz53_1, hfz53_2, hfz53_3, hfz53_4, hfz53_5, hfz53_6, hfz53_7, hfz53_8, hfz53_9, hfz53_10, hfz53_11, hfz53_12, hfz53_13, hfz53_14, hfz53_15, hfz53_16⟩ := f17_ BK258; have hxar52 : w51.cell? ⟨gb258, 1 + ((ji45)).toNat, none⟩ = some (.int .u8 (rd [upd x11_3 0 ((wrap64 (Int.tdiv (rd t250 x12_3) 256)) % 256) V1_3, upd x11_3 1 ((wrap64 (Int.tdiv (rd t250 x12_3) 256)) % 256) V2_3, upd x11_3 2 ((wrap64 (Int.tdiv (rd t250 x12_3) 256)) % 256) V3_3, upd x11_3 3 ((wrap64 (Int.tdiv (rd t250 x12_3) 256)) % 256) V4_3, upd x11_3 4 ((wrap64 (Int.tdiv (rd t250 x12_3) 256)) % 256) V5_3, upd x11_3 5 ((wrap64 (Int.tdiv (rd t250 x12_3) 256)) % 256) V6_3, upd x11_3 6 ((wrap64 (Int.tdiv (rd t250 x12_3) 256)) % 256) V7_3, upd x11_3 7 ((wrap64 (Int.tdiv (rd t250 x12_3) 256)) % 256) V8_3, upd x11_3 8 ((wrap64 (Int.tdiv (rd t250 x12_3) 256)) % 256) V9_3, upd x11_3 9 ((wrap64 (Int.tdiv (rd t250 x12_3) 256)) % 256) V10_3, upd x11_3 10 ((wrap64 (Int.tdiv (rd t250 x12_3) 256)) % 256) V11_3, upd x11_3 11 ((wrap64 (Int.tdiv (rd t250 x12_3) 256)) % 256) V12_3, upd x11_3 12 ((wrap64 (Int.tdiv (rd t250 x12_3) 256)) % 256) V13_3, upd x11_3 13 ((wrap64 (Int.tdiv (rd t250 x12_3) 256)) % 256) V14_3, upd x11_3 14 ((wrap64 (Int.tdiv (rd t250 x12_3) 256)) % 256) V15_3, upd x11_3 15 ((wrap64 (Int.tdiv (rd t250 x12_3) 256)) % 256) V16_3] (ji45))) := (blk_idx BK258.out .u8 [.bool true] [upd x11_3 0 ((wrap64 (Int.tdiv (rd t250 x12_3) 256)) % 256) V1_3, upd x11_3 1 ((wrap64 (Int.tdiv (rd t250 x12_3) 256)) % 256) V2_3, upd x11_3 2 ((wrap64 (Int.tdiv (rd t250 x12_3) 256)) % 256) V3_3, upd x11_3 3 ((wrap64 (Int.tdiv (rd t250 x12_3) 256)) % 256) V4_3, upd x11_3 4 ((wrap64 (Int.tdiv (rd t250 x12_3) 256)) % 256) V5_3, upd x11_3 5 ((wrap64 (Int.tdiv (rd t250 x12_3) 256)) % 256) V6_3, upd x11_3 6 ((wrap64 (Int.tdiv (rd t250 x12_3) 256)) % 256) V7_3, upd x11_3 7 ((wrap64 (Int.tdiv (rd t250 x12_3) 256)) % 256) V8_3, upd x11_3 8 ((wrap64 (Int.tdiv (rd t250 x12_3) 256)) % 256) V9_3, upd x11_3 9 ((wrap64 (Int.tdiv (rd t250 x12_3) 256)) % 256) V10_3, upd x11_3 10 ((wrap64 (Int.tdiv (rd t250 x12_3) 256)) % 256) V11_3, upd x11_3 11 ((wrap64 (Int.tdiv (rd t250 x12_3) 256)) % 256) V12_3, upd x11_3 12 ((wrap64 (Int.tdiv (rd t250 x12_3) 256)) % 256) V13_3, upd x11_3 13 ((wrap64 (Int.tdiv (rd t250 x12_3) 256)) % 256) V14_3, upd x11_3 14 ((wrap64 (Int.tdiv (rd t250 x12_3) 256)) % 256) V15_3, upd x11_3 15 ((wrap64 (Int.tdiv (rd t250 x12_3) 256)) % 256) V16_3] [] rfl (ji45) (of_decide_eq_true as_) (of_decide_eq_true as_) rfl); have hfar52 := bf_ BK258 (1 + ((ji45)).toNat)) | ((with_reducible refine gate_store (t := 5) (p := 93) rfl ?_); refine store_event (t := 5) (p := 93) (v := ?vo_w54) (w1 := (w51.setCell ⟨gb258, 1 + ((ji45)).toNat, none⟩ (.int .u8 ((Int.tmod (rd t250 x12_3) 256) % 256)))) ?hg ?ho ?hn ?hr ?_; (case ho => rfl); (case hg => rfl); (case hn => rfl); (case hr => first | (go_simp; done) | (go_simp; rfl)); intro w54 hw; have n0_ : Aside0 (Kd.R (Kd.int .i64) 3 w54 w.heap.size (fun _ => True) (.slice (some ad259) t250.length co32) t250) := ⟨(by rw [hw]; exact (by (with_reducible repeat (first | apply Kd.R_alloc | apply Kd.R_drewN | apply Kd.R_drew)); exact Kd.R_mono (Kd.R_far (p := ⟨gb258, 1 + ((ji45)).toNat, none⟩) (Kd.R_types HO_5.out BK258.out (by decide)) (fun _ hk => hk.2) (.int .u8 ((Int.tmod (rd t250 x12_3) 256) % 256))) (fun _ hk => trivial)))⟩; have n1_ : Aside0 (w54.heap[gb231]? = some (.cells az_ 24 (0, 0))) := ⟨(by rw [hw]; exact (by (with_reducible repeat (first | refine blk_drewN ?_ _ | refine blk_drew ?_ | refine blk_alloc ?_ _)); refine blk_far ?_ NB231_258.out _; (with_reducible repeat (first | refine blk_drewN ?_ _ | refine blk_drew ?_ | refine blk_alloc ?_ _)); exact BK231.out))⟩; have n2_ : Aside0 (w54.heap[gb258]? = some (.cells #[.bool true, .int .u8 (upd (ji45) 0 ((Int.tmod (rd t250 x12_3) 256) % 256) (upd x11_3 0 ((wrap64 (Int.tdiv (rd t250 x12_3) 256)) % 256) V1_3)), .int .u8 (upd (ji45) 1 ((Int.tmod (rd t250 x12_3) 256) % 256) (upd x11_3 1 ((wrap64 (Int.tdiv (rd t250 x12_3) 256)) % 256) V2_3)), .int .u8 (upd (ji45) 2 ((Int.tmod (rd t250 x12_3) 256) % 256) (upd x11_3 2 ((wrap64 (Int.tdiv (rd t250 x12_3) 256)) % 256) V3_3)), .int .u8 (upd (ji45) 3 ((Int.tmod (rd t250 x12_3) 256) % 256) (upd x11_3 3 ((wrap64 (Int.tdiv (rd t250 x12_3) 256)) % 256) V4_3)), .int .u8 (upd (ji45) 4 ((Int.tmod (rd t250 x12_3) 256) % 256) (upd x11_3 4 ((wrap64 (Int.tdiv (rd t250 x12_3) 256)) % 256) V5_3)), .int .u8 (upd (ji45) 5 ((Int.tmod (rd t250 x12_3) 256) % 256) (upd x11_3 5 ((wrap64 (Int.tdiv (rd t250 x12_3) 256)) % 256) V6_3)), .int .u8 (upd (ji45) 6 ((Int.tmod (rd t250 x12_3) 256) % 256) (upd x11_3 6 ((wrap64 (Int.tdiv (rd t250 x12_3) 256)) % 256) V7_3)), .int .u8 (upd (ji45) 7 ((Int.tmod (rd t250 x12_3) 256) % 256) (upd x11_3 7 ((wrap64 (Int.tdiv (rd t250 x12_3) 256)) % 256) V8_3)), .int .u8 (upd (ji45) 8 ((Int.tmod (rd t250 x12_3) 256) % 256) (upd x11_3 8 ((wrap64 (Int.tdiv (rd t250 x12_3) 256)) % 256) V9_3)), .int .u8 (upd (ji45) 9 ((Int.tmod (rd t250 x12_3) 256) % 256) (upd x11_3 9 ((wrap64 (Int.tdiv (rd t250 x12_3) 256)) % 256) V10_3)), .int .u8 (upd (ji45) 10 ((Int.tmod (rd t250 x12_3) 256) % 256) (upd x11_3 10 ((wrap64 (Int.tdiv (rd t250 x12_3) 256)) % 256) V11_3)), .int .u8 (upd (ji45) 11 ((Int.tmod (rd t250 x12_3) 256) % 256) (upd x11_3 11 ((wrap64 (Int.tdiv (rd t250 x12_3) 256)) % 256) V12_3)), .int .u8 (upd (ji45) 12 ((Int.tmod (rd t250 x12_3) 256) % 256) (upd x11_3 12 ((wrap64 (Int.tdiv (rd t250 x12_3) 256)) % 256) V13_3)), .int .u8 (upd (ji45) 13 ((Int.tmod (rd t250 x12_3) 256) % 256) (upd x11_3 13 ((wrap64 (Int.tdiv (rd t250 x12_3) 256)) % 256) V14_3)), .int .u8 (upd (ji45) 14 ((Int.tmod (rd t250 x12_3) 256) % 256) (upd x11_3 14 ((wrap64 (Int.tdiv (rd t250 x12_3) 256)) % 256) V15_3)), .int .u8 (upd (ji45) 15 ((Int.tmod (rd t250 x12_3) 256) % 256) (upd x11_3 15 ((wrap64 (Int.tdiv (rd t250 x12_3) 256)) % 256) V16_3))] 24 (0, 0))) := ⟨(by rw [hw]; exact (by (with_reducible repeat (first | refine blk_drewN ?_ _ | refine blk_drew ?_ | refine blk_alloc ?_ _)); refine blk_put (cs := #[.bool true, .int .u8 (upd x11_3 0 ((wrap64 (Int.tdiv (rd t250 x12_3) 256)) % 256) V1_3), .int .u8 (upd x11_3 1 ((wrap64 (Int.tdiv (rd t250 x12_3) 256)) % 256) V2_3), .int .u8 (upd x11_3 2 ((wrap64 (Int.tdiv (rd t250 x12_3) 256)) % 256) V3_3), .int .u8 (upd x11_3 3 ((wrap64 (Int.tdiv (rd t250 x12_3) 256)) % 256) V4_3), .int .u8 (upd x11_3 4 ((wrap64 (Int.tdiv (rd t250 x12_3) 256)) % 256) V5_3), .int .u8 (upd x11_3 5 ((wrap64 (Int.tdiv (rd t250 x12_3) 256)) % 256) V6_3), .int .u8 (upd x11_3 6 ((wrap64 (Int.tdiv (rd t250 x12_3) 256)) % 256) V7_3), .int .u8 (upd x11_3 7 ((wrap64 (Int.tdiv (rd t250 x12_3) 256)) % 256) V8_3), .int .u8 (upd x11_3 8 ((wrap64 (Int.tdiv (rd t250 x12_3) 256)) % 256) V9_3), .int .u8 (upd x11_3 9 ((wrap64 (Int.tdiv (rd t250 x12_3) 256)) % 256) V10_3), .int .u8 (upd x11_3 10 ((wrap64 (Int.tdiv (rd t250 x12_3) 256)) % 256) V11_3), .int .u8 (upd x11_3 11 ((wrap64 (Int.tdiv (rd t250 x12_3) 256)) % 256) V12_3), .int .u8 (upd x11_3 12 ((wrap64 (Int.tdiv (rd t250 x12_3) 256)) % 256) V13_3), .int .u8 (upd x11_3 13 ((wrap64 (Int.tdiv (rd t250 x12_3) 256)) % 256) V14_3), .int .u8 (upd x11_3 14 ((wrap64 (Int.tdiv (rd t250 x12_3) 256)) % 256) V15_3), .int .u8 (upd x11_3 15 ((wrap64 (Int.tdiv (rd t250 x12_3) 256)) % 256) V16_3)]) ?_ (1 + ((ji45)).toNat) _ (upd_set .u8 [.bool true] [upd x11_3 0 ((wrap64 (Int.tdiv (rd t250 x12_3) 256)) % 256) V1_3, upd x11_3 1 ((wrap64 (Int.tdiv (rd t250 x12_3) 256)) % 256) V2_3, upd x11_3 2 ((wrap64 (Int.tdiv (rd t250 x12_3) 256)) % 256) V3_3, upd x11_3 3 ((wrap64 (Int.tdiv (rd t250 x12_3) 256)) % 256) V4_3, upd x11_3 4 ((wrap64 (Int.tdiv (rd t250 x12_3) 256)) % 256) V5_3, upd x11_3 5 ((wrap64 (Int.tdiv (rd t250 x12_3) 256)) % 256) V6_3, upd x11_3 6 ((wrap64 (Int.tdiv (rd t250 x12_3) 256)) % 256) V7_3, upd x11_3 7 ((wrap64 (Int.tdiv (rd t250 x12_3) 256)) % 256) V8_3, upd x11_3 8 ((wrap64 (Int.tdiv (rd t250 x12_3) 256)) % 256) V9_3, upd x11_3 9 ((wrap64 (Int.tdiv (rd t250 x12_3) 256)) % 256) V10_3, upd x11_3 10 ((wrap64 (Int.tdiv (rd t250 x12_3) 256)) % 256) V11_3, upd x11_3 11 ((wrap64 (Int.tdiv (rd t250 x12_3) 256)) % 256) V12_3, upd x11_3 12 ((wrap64 (Int.tdiv (rd t250 x12_3) 256)) % 256) V13_3, upd x11_3 13 ((wrap64 (Int.tdiv (rd t250 x12_3) 256)) % 256) V14_3, upd x11_3 14 ((wrap64 (Int.tdiv (rd t250 x12_3) 256)) % 256) V15_3, upd x11_3 15 ((wrap64 (Int.tdiv (rd t250 x12_3) 256)) % 256) V16_3] [] rfl (ji45) (of_decide_eq_true as_) (of_decide_eq_true as_) rfl _ rfl); (with_reducible repeat (first | refine blk_drewN ?_ _ | refine blk_drew ?_ | refine blk_alloc ?_ _)); exact BK258.out))⟩; have n3_ : Aside0 (Below w.heap.size w w54) := ⟨(by rw [hw]; exact bg_)⟩; clear hw; clear HO_5; clear BK231; clear BK258; clear HB; have HO_5 := n0_; have BK231 := n1_; have BK258 := n2_; have HB := n3_; clear n0_ n1_ n2_ n3_))
                   go_roundg k3
                   case measure => have := HK1.out; have := HJ30.out; have := HK3.out; omega
                   case rel => exact ⟨(wrap64 (x11_3 + 2)), (wrap64 (x12_3 + 1)), (upd (ji45) 0 ((Int.tmod (rd t250 x12_3) 256) % 256) (upd x11_3 0 ((wrap64 (Int.tdiv (rd t250 x12_3) 256)) % 256) V1_3)), (upd (ji45) 1 ((Int.tmod (rd t250 x12_3) 256) % 256) (upd x11_3 1 ((wrap64 (Int.tdiv (rd t250 x12_3) 256)) % 256) V2_3)), (upd (ji45) 2 ((Int.tmod (rd t250 x12_3) 256) % 256) (upd x11_3 2 ((wrap64 (Int.tdiv (rd t250 x12_3) 256)) % 256) V3_3)), (upd (ji45) 3 ((Int.tmod (rd t250 x12_3) 256) % 256) (upd x11_3 3 ((wrap64 (Int.tdiv (rd t250 x12_3) 256)) % 256) V4_3)), (upd (ji45) 4 ((Int.tmod (rd t250 x12_3) 256) % 256) (upd x11_3 4 ((wrap64 (Int.tdiv (rd t250 x12_3) 256)) % 256) V5_3)), (upd (ji45) 5 ((Int.tmod (rd t250 x12_3) 256) % 256) (upd x11_3 5 ((wrap64 (Int.tdiv (rd t250 x12_3) 256)) % 256) V6_3)), (upd (ji45) 6 ((Int.tmod (rd t250 x12_3) 256) % 256) (upd x11_3 6 ((wrap64 (Int.tdiv (rd t250 x12_3) 256)) % 256) V7_3)), (upd (ji45) 7 ((Int.tmod (rd t250 x12_3) 256) % 256) (upd x11_3 7 ((wrap64 (Int.tdiv (rd t250 x12_3) 256)) % 256) V8_3)), (upd (ji45) 8 ((Int.tmod (rd t250 x12_3) 256) % 256) (upd x11_3 8 ((wrap64 (Int.tdiv (rd t250 x12_3) 256)) % 256) V9_3)), (upd (ji45) 9 ((Int.tmod (rd t250 x12_3) 256) % 256) (upd x11_3 9 ((wrap64 (Int.tdiv (rd t250 x12_3) 256)) % 256) V10_3)), (upd (ji45) 10 ((Int.tmod (rd t250 x12_3) 256) % 256) (upd x11_3 10 ((wrap64 (Int.tdiv (rd t250 x12_3) 256)) % 256) V11_3)), (upd (ji45) 11 ((Int.tmod (rd t250 x12_3) 256) % 256) (upd x11_3 11 ((wrap64 (Int.tdiv (rd t250 x12_3) 256)) % 256) V12_3)), (upd (ji45) 12 ((Int.tmod (rd t250 x12_3) 256) % 256) (upd x11_3 12 ((wrap64 (Int.tdiv (rd t250 x12_3) 256)) % 256) V13_3)), (upd (ji45) 13 ((Int.tmod (rd t250 x12_3) 256) % 256) (upd x11_3 13 ((wrap64 (Int.tdiv (rd t250 x12_3) 256)) % 256) V14_3)), (upd (ji45) 14 ((Int.tmod (rd t250 x12_3) 256) % 256) (upd x11_3 14 ((wrap64 (Int.tdiv (rd t250 x12_3) 256)) % 256) V15_3)), (upd (ji45) 15 ((Int.tmod (rd t250 x12_3) 256) % 256) (upd x11_3 15 ((wrap64 (Int.tdiv (rd t250 x12_3) 256)) % 256) V16_3)), sq_, sq_, H', ⟨by have := HK1.out; have := HJ30.out; have := HK3.out; omega⟩, ⟨by (with_reducible repeat (first | apply Kd.R_alloc | apply Kd.R_drewN | apply Kd.R_drew)); exact HO_5.out⟩, ⟨bk_⟩, ⟨bk_⟩, ⟨bg_⟩⟩
                  ·rw [if_neg c47] at H
                   exact absurd H (by simp)
                 ·rw [if_neg c46] at H
                  exact absurd H (by simp)
                ·rw [if_neg c44] at H
                 exact absurd H (by simp)
               ·rw [if_neg c43] at H
                exact absurd H (by simp)
             ·rw [if_neg c41] at H
              exact absurd H (by simp)
            ·rw [if_neg c40] at H
             have c40b0 := decide_eq_false c40
             clear c40
             simp only [Option.some.injEq, Prod.mk.injEq] at H
             obtain ⟨rfl, rfl, rfl, rfl, rfl, rfl, rfl, rfl, rfl, rfl, rfl, rfl, rfl, rfl, rfl, rfl, rfl, rfl⟩ := H
             have hnb55 := NB231_258.out
             have hnc55 := NB258_231.out
             obtain ⟨hcz56_0, hcz56_1, hcz56_2, hcz56_3, hcz56_4, hcz56_5, hcz56_6, hcz56_7, hcz56_8, hcz56_9, hcz56_10, hcz56_11, hcz56_12, hcz56_13, hcz56_14, hcz56_15, hcz56_16⟩ := c17_ BK231
             obtain ⟨hfz56_0, hfz56_1, hfz56_2, hfz56_3, hfz56_4, hfz56_5, hfz56_6, hfz56_7, hfz56_8, hfz56_9, hfz56_10, hfz56_11, hfz56_12, hfz56_13, hfz56_14, hfz56_15, hfz56_16⟩ := f17_ BK231
             go_wp2_with (first | ((with_reducible refine gate_dst (N := 96) rfl ?_); (try (refine gate_guard (by rfl) ?_; dsimp only)); refine load_box ?hg 24 (.tmp 10) rfl BK258.out [] (al_ true V1_3 V2_3 V3_3 V4_3 V5_3 V6_3 V7_3 V8_3 V9_3 V10_3 V11_3 V12_3 V13_3 V14_3 V15_3 V16_3) [] rfl 0 rfl rfl Tryz.underlying24 rfl (by kernel_rfl) ?_; (case hg => rfl)) | ((with_reducible refine gate_store (t := 24) (p := 2) rfl ?_); refine store_all ?hg 24 2 _ rfl rfl gb231 ay_ (al_ true V1_3 V2_3 V3_3 V4_3 V5_3 V6_3 V7_3 V8_3 V9_3 V10_3 V11_3 V12_3 V13_3 V14_3 V15_3 V16_3) BK231.out rfl rfl rfl (by kernel_rfl) rfl ?_; (case hg => rfl); intro w57 hw; have n0_ : Aside0 (Kd.R (Kd.int .i64) 3 w57 w.heap.size (fun _ => True) (.slice Ao32 t250.length co32) t250) := ⟨(by rw [hw]; exact (by (with_reducible repeat (first | apply Kd.R_alloc | apply Kd.R_drewN | apply Kd.R_drew)); exact Kd.R_mono (R_farC (g := gb231) (fun _ hk => hk.2) (Kd.R_types HO_5.out BK231.out (by decide)) (al_ true V1_3 V2_3 V3_3 V4_3 V5_3 V6_3 V7_3 V8_3 V9_3 V10_3 V11_3 V12_3 V13_3 V14_3 V15_3 V16_3) 0) (fun _ hk => trivial)))⟩; have n1_ := Aside0.mk (show w57.heap[gb231]? = some (.cells (ag_ true V1_3 V2_3 V3_3 V4_3 V5_3 V6_3 V7_3 V8_3 V9_3 V10_3 V11_3 V12_3 V13_3 V14_3 V15_3 V16_3) 24 (0, 0)) from ss_ BK231 hw); have n2_ := Aside0.mk (sf_ BK258 NB258_231 hw); have n3_ := Aside0.mk (sb_ hw); clear hw; clear HO_5; clear BK231; clear BK258; clear HB; have HO_5 := n0_; have BK231 := n1_; have BK258 := n2_; have HB := n3_; clear n0_ n1_ n2_ n3_))
             refine bodyPost_ret (results_ct rfl _ _ gb231 24 (ag_ true V1_3 V2_3 V3_3 V4_3 V5_3 V6_3 V7_3 V8_3 V9_3 V10_3 V11_3 V12_3 V13_3 V14_3 V15_3 V16_3) (0, 0) _ rfl bk_ Tryz.underlying24 rfl (by kernel_rfl)) rfl ?_
             exact ⟨rq_, bg_⟩
  ·replace c11 := Bool.eq_false_iff.mpr c11
   subst c11
   replace H := ifF_ H
   exact absurd H (by simp)

end Go.Proofs.YtdopafhppaalfaaGreatDoor.P
