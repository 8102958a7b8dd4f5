-- Written by a program of this session (wip/gen/lprint.py over the kit's print.py) out of the translation. Lean checks it.
import Derived.Test.YtdopafhppaalfaaGreatDoorP0
import Derived.Test.YtdopafhppaalfaaGreatDoorZ
namespace Go.Proofs.YtdopafhppaalfaaGreatDoor.P
open Go.Proofs.YtdopafhppaalfaaGreatDoorZ
open Go.Proofs.YtdopafhppaalfaaGreatDoor.E Go.Proofs.YtdopafhppaalfaaGreatDoorV
open Go.RowKit Go.Proofs.YtdopafhppaalfaaGreatDoorW.PrintWords Go.Proofs.YtdopafhppaalfaaGreatDoorW.PrintLast Go.Proofs.YtdopafhppaalfaaGreatDoorW.PrintMore
attribute [local go_sem] max2_int min2_int max_two min_two max_three min_three max_four min_four   -- for this text's walks alone
set_option linter.unusedVariables false
set_option linter.unusedSimpArgs false

mutual
def ip_number.l0 : Nat → ByteArray → Int → Int → Int → Int → Option (Int × Bool)
 | 0, _, _, _, _, _ => none
 | k + 1, x0, x1, x2, x8, x9 => if x9 < (x0.size : Int) then (if 0 ≤ x9 then ((strings_IndexByte.f (⟨#[48, 49, 50, 51, 52, 53, 54, 55, 56, 57, 97, 98, 99, 100, 101, 102]⟩ : ByteArray) (Go.bits .or .u8 (bt x0 x9) 32)).bind fun t264 => (if (bt x0 x9) < 48 then (ip_number.j1 k x0 x1 x2 x8 x9 t264 true) else (if (bt x0 x9) > 57 then (if (bt x0 x9) < 65 then (ip_number.j1 k x0 x1 x2 x8 x9 t264 true) else (if t264 < 0 then (ip_number.j1 k x0 x1 x2 x8 x9 t264 true) else (ip_number.j1 k x0 x1 x2 x8 x9 t264 (decide ((IntKind.u64.wrap (t264)) ≥ x1))))) else (if t264 < 0 then (ip_number.j1 k x0 x1 x2 x8 x9 t264 true) else (ip_number.j1 k x0 x1 x2 x8 x9 t264 (decide ((IntKind.u64.wrap (t264)) ≥ x1))))))) else (none)) else (some (x8, (x0.toList != ([] : List UInt8))))
def ip_number.j1 : Nat → ByteArray → Int → Int → Int → Int → Int → Bool → Option (Int × Bool)
 | 0, _, _, _, _, _, _, _ => none
 | k + 1, x0, x1, x2, x8, x9, x10, x47 => if x47 = true then (some (0, false)) else (if (IntKind.u64.wrap ((IntKind.u64.wrap (x8 * x1)) + (IntKind.u64.wrap (x10)))) ≥ x2 then (some (0, false)) else (ip_number.l0 k x0 x1 x2 (IntKind.u64.wrap ((IntKind.u64.wrap (x8 * x1)) + (IntKind.u64.wrap (x10)))) (wrap64 (x9 + 1))))
end
def ip_number.f (k : Nat) (a0 : ByteArray) (a1 : Int) (a2 : Int) : Option (Int × Bool) := ip_number.l0 k a0 a1 a2 0 0
theorem ip_number.mono_l : ∀ k, (∀ y0 y1 y2 y3 y4, LeO (ip_number.l0 k y0 y1 y2 y3 y4) (ip_number.l0 (k + 1) y0 y1 y2 y3 y4)) ∧ (∀ y0 y1 y2 y3 y4 y5 y6, LeO (ip_number.j1 k y0 y1 y2 y3 y4 y5 y6) (ip_number.j1 (k + 1) y0 y1 y2 y3 y4 y5 y6))
 | 0 => ⟨fun _ _ _ _ _ r h => by simp [ip_number.l0] at h, fun _ _ _ _ _ _ _ r h => by simp [ip_number.j1] at h⟩
 | k + 1 => by
  obtain ⟨ih0, ih1⟩ := ip_number.mono_l k
  refine ⟨?_, ?_⟩
  ·intro y0 y1 y2 y3 y4
   unfold ip_number.l0
   repeat' first
   | (with_reducible exact ih0 _ _ _ _ _)
   | (with_reducible exact ih1 _ _ _ _ _ _ _)
   | (with_reducible exact LeO.refl _)
   | (with_reducible exact LeO.none _)
   | (with_reducible refine LeO.ite ?_ ?_)
   | (with_reducible refine LeO.bind ?_ (fun _ => ?_))
   | exact ih0 _ _ _ _ _
   | exact ih1 _ _ _ _ _ _ _
   | exact LeO.none _
   | refine LeO.ite ?_ ?_
   | refine LeO.bind ?_ (fun _ => ?_)
  ·intro y0 y1 y2 y3 y4 y5 y6
   unfold ip_number.j1
   repeat' first
   | (with_reducible exact ih0 _ _ _ _ _)
   | (with_reducible exact ih1 _ _ _ _ _ _ _)
   | (with_reducible exact LeO.refl _)
   | (with_reducible exact LeO.none _)
   | (with_reducible refine LeO.ite ?_ ?_)
   | (with_reducible refine LeO.bind ?_ (fun _ => ?_))
   | exact ih0 _ _ _ _ _
   | exact ih1 _ _ _ _ _ _ _
   | exact LeO.none _
   | refine LeO.ite ?_ ?_
   | refine LeO.bind ?_ (fun _ => ?_)
theorem ip_number.mono : ∀ a0 a1 a2 k, LeO (ip_number.f k a0 a1 a2) (ip_number.f (k + 1) a0 a1 a2) := by
 intro a0 a1 a2 k
 obtain ⟨ih0, ih1⟩ := ip_number.mono_l k
 unfold ip_number.f
 repeat' first
   | (with_reducible exact ih0 _ _ _ _ _)
   | (with_reducible exact ih1 _ _ _ _ _ _ _)
   | (with_reducible exact LeO.refl _)
   | (with_reducible exact LeO.none _)
   | (with_reducible refine LeO.ite ?_ ?_)
   | (with_reducible refine LeO.bind ?_ (fun _ => ?_))
   | exact ih0 _ _ _ _ _
   | exact ih1 _ _ _ _ _ _ _
   | exact LeO.none _
   | refine LeO.ite ?_ ?_
   | refine LeO.bind ?_ (fun _ => ?_)
set_option maxHeartbeats 8000000 in
set_option maxRecDepth 100000 in
theorem ip_number.calls (k : Nat) (a0 : ByteArray) (a1 : Int) (a2 : Int) (r1 : Int) (r2 : Bool) (w : World) (hLW : LW w) (h : ip_number.f k a0 a1 a2 = some (r1, r2)) :
  Calls Tryz.prog 60 #[.string a0, .int .u64 a1, .int .u64 a2] w fun e w' => e = .returned (.tuple #[.int .u64 r1, .bool r2]) ∧ Below w.heap.size w w' := by
 have HLW := Aside0.mk hLW
 clear hLW
 have HB := Aside0.mk (Below.refl w.heap.size w)
 have H := h
 unfold ip_number.f at H
 clear h
 have H' := Aside0.mk H
 clear H
 go_enter Tryz.func60, Tryz.ntmps60
 go_wp2
 go_loopg [8, 9] k (fun kq v8 v9 w' => ∃ (x8_1 : Int) (x9_1 : Int), v8 = .int .u64 x8_1 ∧ v9 = .int .i64 x9_1 ∧ Aside0 (ip_number.l0 kq a0 a1 a2 x8_1 x9_1 = some (r1, r2)) ∧ Aside0 (kq ≤ k) ∧ Aside0 (Below w.heap.size w w'))
 case atStart => exact ⟨(0), (0), sq_, sq_, H', ⟨Nat.le_refl _⟩, ⟨bq_⟩⟩
 case round =>
  clear H'
  try clear p2
  obtain ⟨x8_1, x9_1, rfl, rfl, HA, HK1, HB⟩ := hrel
  cases gk with
  | zero => exact absurd HA.out (by simp [ip_number.l0])
  | succ k1 =>
   have H := HA.out
   clear HA
   simp only [ip_number.l0] at H
   by_cases c4 : x9_1 < (a0.size : Int)
   ·rw [if_pos c4] at H
    have c4b0 := decide_eq_true c4
    clear c4
    by_cases c5 : 0 ≤ x9_1
    ·rw [if_pos c5] at H
     have c5b0 := decide_eq_true c5
     clear c5
     replace H := Option.bind_eq_some_iff.mp H
     obtain ⟨t264, A70, H⟩ := H
     (try dsimp only at H)
     have A7 := Aside0.mk A70
     clear A70
     have HC8 := Aside0.mk H
     clear H
     have p6 : 0 ≤ (x9_1 : Int) := of_decide_eq_true as_
     have q6 : x9_1 < (a0.size : Int) := of_decide_eq_true as_
     have hx6 := bt_at a0 x9_1
     replace p6 := eq_true p6
     replace q6 := eq_true q6
     go_upto_region 6 with (first | ((with_reducible refine gate_callee (f := 82) rfl ?_); refine goesL_ (some 21) rfl rfl Tryz.func82 (by kernel_rfl) rfl #[.string (⟨#[48, 49, 50, 51, 52, 53, 54, 55, 56, 57, 97, 98, 99, 100, 101, 102]⟩ : ByteArray), .int .u8 (Go.bits .or .u8 (bt a0 x9_1) 32)] rfl lq_ ?_; (with_reducible refine (strings_IndexByte.calls (⟨#[48, 49, 50, 51, 52, 53, 54, 55, 56, 57, 97, 98, 99, 100, 101, 102]⟩ : ByteArray) (Go.bits .or .u8 (bt a0 x9_1) 32) t264 _ ?side1 A7.out).mono ?_); (case side1 => exact lw_); rintro e w9 ⟨rfl, hb⟩; refine ⟨_, rfl, ?_⟩; replace HB := Aside0.mk (below_step bq_ hb); (try clear hb); (try clear hb2); (try clear hk); (try clear hi)))
     (try simp only [Act.put, List.setIfInBounds_toArray, List.set_cons_zero, List.set_cons_succ])
     go_cut [47] (fun v47 wc => ∃ (kq : Nat) (x47_7 : Bool), v47 = .bool x47_7 ∧ Aside0 (ip_number.j1 kq a0 a1 a2 x8_1 x9_1 t264 x47_7 = some (r1, r2)) ∧ Aside0 (kq ≤ k1) ∧ Aside0 (Below w.heap.size w wc))
     case first =>
      have H := HC8.out
      clear HC8
      by_cases c11 : (bt a0 x9_1) < 48
      ·rw [if_pos c11] at H
       have c11b0 := decide_eq_true c11
       clear c11
       (first | rw [c11b0] | (simp only [i64_w, i32_w]; rw [c11b0]) | skip)
       have H' := Aside0.mk H
       clear H
       have p10 : 0 ≤ (x9_1 : Int) := of_decide_eq_true as_
       have q10 : x9_1 < (a0.size : Int) := of_decide_eq_true as_
       have hx10 := bt_at a0 x9_1
       replace p10 := eq_true p10
       replace q10 := eq_true q10
       go_wp2
       go_meet
       case rel => exact ⟨_, (true), sq_, H', ⟨by have := HK1.out; first | omega | exact Nat.le_refl _⟩, ⟨bq_⟩⟩
      ·rw [if_neg c11] at H
       have c11b0 := decide_eq_false c11
       clear c11
       (first | rw [c11b0] | (simp only [i64_w, i32_w]; rw [c11b0]) | skip)
       by_cases c13 : (bt a0 x9_1) > 57
       ·rw [if_pos c13] at H
        have c13b0 := decide_eq_true c13
        clear c13
        by_cases c15 : (bt a0 x9_1) < 65
        ·rw [if_pos c15] at H
         have c15b0 := decide_eq_true c15
         clear c15
         have H' := Aside0.mk H
         clear H
         have p10 : 0 ≤ (x9_1 : Int) := of_decide_eq_true as_
         have q10 : x9_1 < (a0.size : Int) := of_decide_eq_true as_
         have hx10 := bt_at a0 x9_1
         replace p10 := eq_true p10
         replace q10 := eq_true q10
         have p12 : 0 ≤ (x9_1 : Int) := of_decide_eq_true as_
         have q12 : x9_1 < (a0.size : Int) := of_decide_eq_true as_
         have hx12 := bt_at a0 x9_1
         replace p12 := eq_true p12
         replace q12 := eq_true q12
         have p14 : 0 ≤ (x9_1 : Int) := of_decide_eq_true as_
         have q14 : x9_1 < (a0.size : Int) := of_decide_eq_true as_
         have hx14 := bt_at a0 x9_1
         replace p14 := eq_true p14
         replace q14 := eq_true q14
         go_wp2
         go_meet
         case rel => exact ⟨_, (true), sq_, H', ⟨by have := HK1.out; first | omega | exact Nat.le_refl _⟩, ⟨bq_⟩⟩
        ·rw [if_neg c15] at H
         have c15b0 := decide_eq_false c15
         clear c15
         by_cases c16 : t264 < 0
         ·rw [if_pos c16] at H
          have c16b0 := decide_eq_true c16
          clear c16
          have H' := Aside0.mk H
          clear H
          have p10 : 0 ≤ (x9_1 : Int) := of_decide_eq_true as_
          have q10 : x9_1 < (a0.size : Int) := of_decide_eq_true as_
          have hx10 := bt_at a0 x9_1
          replace p10 := eq_true p10
          replace q10 := eq_true q10
          have p12 : 0 ≤ (x9_1 : Int) := of_decide_eq_true as_
          have q12 : x9_1 < (a0.size : Int) := of_decide_eq_true as_
          have hx12 := bt_at a0 x9_1
          replace p12 := eq_true p12
          replace q12 := eq_true q12
          have p14 : 0 ≤ (x9_1 : Int) := of_decide_eq_true as_
          have q14 : x9_1 < (a0.size : Int) := of_decide_eq_true as_
          have hx14 := bt_at a0 x9_1
          replace p14 := eq_true p14
          replace q14 := eq_true q14
          go_wp2
          go_meet
          case rel => exact ⟨_, (true), sq_, H', ⟨by have := HK1.out; first | omega | exact Nat.le_refl _⟩, ⟨bq_⟩⟩
         ·rw [if_neg c16] at H
          have c16b0 := decide_eq_false c16
          clear c16
          have H' := Aside0.mk H
          clear H
          have p10 : 0 ≤ (x9_1 : Int) := of_decide_eq_true as_
          have q10 : x9_1 < (a0.size : Int) := of_decide_eq_true as_
          have hx10 := bt_at a0 x9_1
          replace p10 := eq_true p10
          replace q10 := eq_true q10
          have p12 : 0 ≤ (x9_1 : Int) := of_decide_eq_true as_
          have q12 : x9_1 < (a0.size : Int) := of_decide_eq_true as_
          have hx12 := bt_at a0 x9_1
          replace p12 := eq_true p12
          replace q12 := eq_true q12
          have p14 : 0 ≤ (x9_1 : Int) := of_decide_eq_true as_
          have q14 : x9_1 < (a0.size : Int) := of_decide_eq_true as_
          have hx14 := bt_at a0 x9_1
          replace p14 := eq_true p14
          replace q14 := eq_true q14
          go_wp2
          go_meet
          case rel => exact ⟨_, (decide ((IntKind.u64.wrap (t264)) ≥ a1)), sq_, H', ⟨by have := HK1.out; first | omega | exact Nat.le_refl _⟩, ⟨bq_⟩⟩
       ·rw [if_neg c13] at H
        have c13b0 := decide_eq_false c13
        clear c13
        by_cases c17 : t264 < 0
        ·rw [if_pos c17] at H
         have c17b0 := decide_eq_true c17
         clear c17
         have H' := Aside0.mk H
         clear H
         have p10 : 0 ≤ (x9_1 : Int) := of_decide_eq_true as_
         have q10 : x9_1 < (a0.size : Int) := of_decide_eq_true as_
         have hx10 := bt_at a0 x9_1
         replace p10 := eq_true p10
         replace q10 := eq_true q10
         have p12 : 0 ≤ (x9_1 : Int) := of_decide_eq_true as_
         have q12 : x9_1 < (a0.size : Int) := of_decide_eq_true as_
         have hx12 := bt_at a0 x9_1
         replace p12 := eq_true p12
         replace q12 := eq_true q12
         go_wp2
         go_meet
         case rel => exact ⟨_, (true), sq_, H', ⟨by have := HK1.out; first | omega | exact Nat.le_refl _⟩, ⟨bq_⟩⟩
        ·rw [if_neg c17] at H
         have c17b0 := decide_eq_false c17
         clear c17
         have H' := Aside0.mk H
         clear H
         have p10 : 0 ≤ (x9_1 : Int) := of_decide_eq_true as_
         have q10 : x9_1 < (a0.size : Int) := of_decide_eq_true as_
         have hx10 := bt_at a0 x9_1
         replace p10 := eq_true p10
         replace q10 := eq_true q10
         have p12 : 0 ≤ (x9_1 : Int) := of_decide_eq_true as_
         have q12 : x9_1 < (a0.size : Int) := of_decide_eq_true as_
         have hx12 := bt_at a0 x9_1
         replace p12 := eq_true p12
         replace q12 := eq_true q12
         go_wp2
         go_meet
         case rel => exact ⟨_, (decide ((IntKind.u64.wrap (t264)) ≥ a1)), sq_, H', ⟨by have := HK1.out; first | omega | exact Nat.le_refl _⟩, ⟨bq_⟩⟩
     case rest =>
      clear HC8
      try clear c1
      try clear p1
      try clear q1
      try clear hx1
      try clear p2
      try clear c4
      try clear c4b0
      try clear c5
      try clear c5b0
      try clear c6
      try clear p6
      try clear q6
      try clear hx6
      try clear c8
      try clear p10
      try clear q10
      try clear hx10
      try clear c11
      try clear c11b0
      try clear p12
      try clear q12
      try clear hx12
      try clear c13
      try clear c13b0
      try clear p14
      try clear q14
      try clear hx14
      try clear c15
      try clear c15b0
      try clear c16
      try clear c16b0
      try clear c17
      try clear c17b0
      try clear p10
      try clear p12
      try clear p14
      try clear p2
      try clear p6
      try clear q10
      try clear q12
      try clear q14
      try clear q6
      obtain ⟨kq, x47_7, rfl, HA, HJ7, HB⟩ := hcut
      cases kq with
      | zero => exact absurd HA.out (by simp [ip_number.j1])
      | succ kj7 =>
       have H := HA.out
       clear HA
       simp only [ip_number.j1] at H
       by_cases c18 : x47_7 = true
       ·subst c18
        replace H := ifT_ H
        simp only [Option.some.injEq, Prod.mk.injEq] at H
        obtain ⟨rfl, rfl⟩ := H
        go_wp2
        go_ret2
        exact ⟨rq_, bq_⟩
       ·replace c18 := Bool.eq_false_iff.mpr c18
        subst c18
        replace H := ifF_ H
        by_cases c19 : (IntKind.u64.wrap ((IntKind.u64.wrap (x8_1 * a1)) + (IntKind.u64.wrap (t264)))) ≥ a2
        ·rw [if_pos c19] at H
         have c19b0 := decide_eq_true c19
         clear c19
         simp only [Option.some.injEq, Prod.mk.injEq] at H
         obtain ⟨rfl, rfl⟩ := H
         go_wp2
         go_ret2
         exact ⟨rq_, bq_⟩
        ·rw [if_neg c19] at H
         have c19b0 := decide_eq_false c19
         clear c19
         have H' := Aside0.mk H
         clear H
         go_wp2
         go_roundg kj7
         case measure => have := HK1.out; have := HJ7.out; omega
         case rel => exact ⟨(IntKind.u64.wrap ((IntKind.u64.wrap (x8_1 * a1)) + (IntKind.u64.wrap (t264)))), (wrap64 (x9_1 + 1)), sq_, sq_, H', ⟨by have := HK1.out; have := HJ7.out; omega⟩, ⟨bq_⟩⟩
    ·rw [if_neg c5] at H
     exact absurd H (by simp)
   ·rw [if_neg c4] at H
    have c4b0 := decide_eq_false c4
    clear c4
    simp only [Option.some.injEq, Prod.mk.injEq] at H
    obtain ⟨rfl, rfl⟩ := H
    go_wp2
    go_ret2
    exact ⟨rq_, bq_⟩

def ip_four.l0 : Nat → List ByteArray → Int → Int → Int → Int → Int → Int → Option (Int × Int × Int × Int × Bool)
 | 0, _, _, _, _, _, _, _ => none
 | k + 1, x16, x17, x18, V4, V5, V6, V7 => if x18 < x17 then (if 0 ≤ x18 then (if x18 < (x16.length : Int) then ((ip_number.f k (rdOf ByteArray.empty x16 x18) 10 256).bind fun bt271 => (if bt271.2 = true then (if ((rdOf ByteArray.empty x16 x18).size : Int) > 1 then (if 0 < ((rdOf ByteArray.empty x16 x18).size : Int) then (if (bt (rdOf ByteArray.empty x16 x18) 0) = 48 then (some (V4, V5, V6, V7, false)) else (if x18 < 4 then (ip_four.l0 k x16 x17 (wrap64 (x18 + 1)) (upd x18 0 ((bt271.1) % 256) V4) (upd x18 1 ((bt271.1) % 256) V5) (upd x18 2 ((bt271.1) % 256) V6) (upd x18 3 ((bt271.1) % 256) V7)) else (none))) else (none)) else (if x18 < 4 then (ip_four.l0 k x16 x17 (wrap64 (x18 + 1)) (upd x18 0 ((bt271.1) % 256) V4) (upd x18 1 ((bt271.1) % 256) V5) (upd x18 2 ((bt271.1) % 256) V6) (upd x18 3 ((bt271.1) % 256) V7)) else (none))) else (some (V4, V5, V6, V7, false)))) else (none)) else (none)) else (some (V4, V5, V6, V7, true))
def ip_four.f (k : Nat) (a0 : ByteArray) : Option (Int × Int × Int × Int × Bool) := (strings_Split.f a0 (⟨#[46]⟩ : ByteArray)).bind fun t267 => (if (t267.length : Int) = 4 then (ip_four.l0 k t267 (t267.length : Int) 0 0 0 0 0) else (some (0, 0, 0, 0, false)))
theorem ip_four.mono_l : ∀ k, (∀ y0 y1 y2 y3 y4 y5 y6, LeO (ip_four.l0 k y0 y1 y2 y3 y4 y5 y6) (ip_four.l0 (k + 1) y0 y1 y2 y3 y4 y5 y6))
 | 0 => fun _ _ _ _ _ _ _ r h => by simp [ip_four.l0] at h
 | k + 1 => by
  have ih0 := ip_four.mono_l k
  ·intro y0 y1 y2 y3 y4 y5 y6
   unfold ip_four.l0
   repeat' first
   | (with_reducible exact ih0 _ _ _ _ _ _ _)
   | (with_reducible exact ip_number.mono _ _ _ _)
   | (with_reducible exact LeO.refl _)
   | (with_reducible exact LeO.none _)
   | (with_reducible refine LeO.ite ?_ ?_)
   | (with_reducible refine LeO.bind ?_ (fun _ => ?_))
   | exact ih0 _ _ _ _ _ _ _
   | exact ip_number.mono _ _ _ _
   | exact LeO.none _
   | refine LeO.ite ?_ ?_
   | refine LeO.bind ?_ (fun _ => ?_)
theorem ip_four.mono : ∀ a0 k, LeO (ip_four.f k a0) (ip_four.f (k + 1) a0) := by
 intro a0 k
 have ih0 := ip_four.mono_l k
 unfold ip_four.f
 repeat' first
   | (with_reducible exact ih0 _ _ _ _ _ _ _)
   | (with_reducible exact ip_number.mono _ _ _ _)
   | (with_reducible exact LeO.refl _)
   | (with_reducible exact LeO.none _)
   | (with_reducible refine LeO.ite ?_ ?_)
   | (with_reducible refine LeO.bind ?_ (fun _ => ?_))
   | exact ih0 _ _ _ _ _ _ _
   | exact ip_number.mono _ _ _ _
   | exact LeO.none _
   | refine LeO.ite ?_ ?_
   | refine LeO.bind ?_ (fun _ => ?_)
set_option maxHeartbeats 8000000 in
set_option maxRecDepth 100000 in
theorem ip_four.calls (k : Nat) (a0 : ByteArray) (r1 : Int) (r2 : Int) (r3 : Int) (r4 : Int) (r5 : Bool) (w : World) (hLW : LW w) (h : ip_four.f k a0 = some (r1, r2, r3, r4, r5)) :
  Calls Tryz.prog 44 #[.string a0] w fun e w' => e = .returned (.tuple #[.agg #[.int .u8 r1, .int .u8 r2, .int .u8 r3, .int .u8 r4], .bool r5]) ∧ Below w.heap.size w w' := by
 have hu78 := Tryz.underlying78
 have HLW := Aside0.mk hLW
 clear hLW
 have HB := Aside0.mk (Below.refl w.heap.size w)
 have H := h
 unfold ip_four.f at H
 clear h
 replace H := Option.bind_eq_some_iff.mp H
 obtain ⟨t267, A20, H⟩ := H
 (try dsimp only at H)
 have A2 := Aside0.mk A20
 clear A20
 by_cases c3 : (t267.length : Int) = 4
 ·rw [if_pos c3] at H
  have c3b0 := beq_iff_eq.mpr c3
  have c3b1 := bne_eq_false_iff_eq.mpr c3
  clear c3
  have H' := Aside0.mk H
  clear H
  go_enter Tryz.func44, Tryz.ntmps44
  go_wp2_with (first | ((with_reducible refine gate_dst (N := 2) rfl ?_); (try (refine gate_guard (by rfl) ?_; dsimp only)); refine bx_ 2 #[.int .u8 0, .int .u8 0, .int .u8 0, .int .u8 0] 78 ?_; intro gb265 hg w4 hbox hb; have BK265 := Aside0.mk (hbox); have GW265 := Aside0.mk (ge_ (w := w) hg); have GE265 := Aside0.mk (ge_ (w := w) hg); replace HB := Aside0.mk (below_step bq_ hb); clear hb hbox hg) | ((with_reducible refine gate_dst (N := 4) rfl ?_); (try (refine gate_guard (by rfl) ?_; dsimp only)); refine bx_ 4 #[.int .u8 0, .int .u8 0, .int .u8 0, .int .u8 0] 78 ?_; intro gb266 hg w5 hbox hb; have n0_ := Aside0.mk (bb_ BK265 hb); have n1_ := Aside0.mk (below_step bg_ hb); have n2_ := Aside0.mk (hbox); have n3_ := Aside0.mk (gg_ (w := w) hg); have n4_ := Aside0.mk (gg_ (w := w) hg); have n5_ := Aside0.mk (nl_ BK265 hg); have n6_ := Aside0.mk (ng_ BK265 hg); clear BK265; clear HB; have BK265 := n0_; have HB := n1_; have BK266 := n2_; have GW266 := n3_; have GE266 := n4_; have NB265_266 := n5_; have NB266_265 := n6_; clear n0_ n1_ n2_ n3_ n4_ n5_ n6_; clear hb hbox hg) | ((with_reducible refine gate_callee (f := 42) rfl ?_); refine goesL_ (some 11) rfl rfl Tryz.func42 (by kernel_rfl) rfl #[.string a0, .string (⟨#[46]⟩ : ByteArray)] rfl lq_ ?_; (with_reducible refine (strings_Split.calls a0 (⟨#[46]⟩ : ByteArray) t267 _ ?side1 A2.out).mono ?_); (case side1 => exact lg_); rintro e w6 ⟨v268, rfl, ho0, hb⟩; refine ⟨_, rfl, ?_⟩; have HO269 := Aside0.mk (Kd.R_lower ho0 (below_size bg_)); replace BK265 := Aside0.mk (bb_ BK265 hb); replace BK266 := Aside0.mk (bb_ BK266 hb); replace HB := Aside0.mk (below_step bg_ hb); (try clear hb); (try clear hb2); (try clear hk); (try clear hi); (try clear ho0); obtain ⟨Ao7, co7, eo7⟩ := Kd.R_slice HO269.out; subst eo7))
  go_loopg [18] k (fun kq v18 w' => ∃ (x18_1 : Int) (V0_1 : Int) (V1_1 : Int) (V2_1 : Int) (V3_1 : Int) (V4_1 : Int) (V5_1 : Int) (V6_1 : Int) (V7_1 : Int), v18 = .int .i64 x18_1 ∧ Aside0 (ip_four.l0 kq t267 (t267.length : Int) x18_1 V4_1 V5_1 V6_1 V7_1 = some (r1, r2, r3, r4, r5)) ∧ Aside0 (kq ≤ k) ∧ Aside0 (Kd.R Kd.string 9 w' w.heap.size (fun _ => True) (.slice Ao7 t267.length co7) t267) ∧ Aside0 (w'.heap[gb265]? = some (.cells #[.int .u8 V0_1, .int .u8 V1_1, .int .u8 V2_1, .int .u8 V3_1] 78 (0, 0))) ∧ Aside0 (w'.heap[gb266]? = some (.cells #[.int .u8 V4_1, .int .u8 V5_1, .int .u8 V6_1, .int .u8 V7_1] 78 (0, 0))) ∧ Aside0 (Below w.heap.size w w'))
  case atStart => exact ⟨(0), (0), (0), (0), (0), (0), (0), (0), (0), sq_, H', ⟨Nat.le_refl _⟩, ⟨by (with_reducible repeat (first | apply Kd.R_alloc | apply Kd.R_drewN | apply Kd.R_drew)); exact HO269.out⟩, ⟨bk_⟩, ⟨bk_⟩, ⟨bg_⟩⟩
  case round =>
   clear H'
   try clear p2
   try clear c3
   try clear c3b0
   try clear c3b1
   try clear c4
   obtain ⟨x18_1, V0_1, V1_1, V2_1, V3_1, V4_1, V5_1, V6_1, V7_1, rfl, HA, HK1, HO_16, BK265, BK266, HB⟩ := hrel
   cases gk with
   | zero => exact absurd HA.out (by simp [ip_four.l0])
   | succ k1 =>
    have H := HA.out
    clear HA
    simp only [ip_four.l0] at H
    by_cases c8 : x18_1 < (t267.length : Int)
    ·rw [if_pos c8] at H
     have c8b0 := decide_eq_true c8
     clear c8
     by_cases c9 : 0 ≤ x18_1
     ·rw [if_pos c9] at H
      have c9b0 := decide_eq_true c9
      clear c9
      by_cases c10 : x18_1 < (t267.length : Int)
      ·rw [if_pos c10] at H
       have c10b0 := decide_eq_true c10
       clear c10
       replace H := Option.bind_eq_some_iff.mp H
       obtain ⟨⟨t271, t272⟩, A110, H⟩ := H
       (try dsimp only at H)
       have A11 := Aside0.mk A110
       clear A110
       by_cases c12 : t272 = true
       ·subst c12
        replace H := ifT_ H
        by_cases c13 : ((rdOf ByteArray.empty t267 x18_1).size : Int) > 1
        ·rw [if_pos c13] at H
         have c13b0 := decide_eq_true c13
         have c13b1 : decide (1 < (rdOf ByteArray.empty t267 x18_1).size) = true := decide_eq_true (by omega)
         clear c13
         by_cases c14 : 0 < ((rdOf ByteArray.empty t267 x18_1).size : Int)
         ·rw [if_pos c14] at H
          have c14b0 := decide_eq_true c14
          have c14b1 : decide (0 < (rdOf ByteArray.empty t267 x18_1).size) = true := decide_eq_true (by omega)
          clear c14
          by_cases c16 : (bt (rdOf ByteArray.empty t267 x18_1) 0) = 48
          ·rw [if_pos c16] at H
           have c16b0 := beq_iff_eq.mpr c16
           have c16b1 := bne_eq_false_iff_eq.mpr c16
           clear c16
           simp only [Option.some.injEq, Prod.mk.injEq] at H
           obtain ⟨rfl, rfl, rfl, rfl, rfl⟩ := H
           have p270 : 0 ≤ (x18_1 : Int) := of_decide_eq_true as_
           have q270 : x18_1 < (t267.length : Int) := of_decide_eq_true as_
           obtain ⟨ad270, e270, hx270_0⟩ := Kd.at_string (Kd.R_reads' HO_16.out).2.2 x18_1 p270 q270
           cases e270
           replace p270 := eq_true p270
           replace q270 := eq_true q270
           go_wp2_with (first | ((with_reducible refine gate_callee (f := 60) rfl ?_); refine goesL_ (some 25) rfl rfl Tryz.func60 (by kernel_rfl) rfl #[.string (rdOf ByteArray.empty t267 x18_1), .int .u64 10, .int .u64 256] rfl lq_ ?_; (with_reducible refine (ip_number.calls k1 (rdOf ByteArray.empty t267 x18_1) 10 256 t271 true _ ?side1 A11.out).mono ?_); (case side1 => exact lg_); rintro e w17 ⟨rfl, hb⟩; refine ⟨_, rfl, ?_⟩; replace HO_16 := Aside0.mk (Kd.R_below (by (with_reducible repeat (first | apply Kd.R_alloc | apply Kd.R_drewN | apply Kd.R_drew)); exact HO_16.out) hb); replace BK265 := Aside0.mk (bb_ BK265 hb); replace BK266 := Aside0.mk (bb_ BK266 hb); replace HB := Aside0.mk (below_step bg_ hb); (try clear hb); (try clear hb2); (try clear hk); (try clear hi); have p15 : 0 ≤ (0 : Int) := (by omega); have q15 : 0 < (rdOf ByteArray.empty t267 x18_1).size := (by have : (0 : Int) < ((rdOf ByteArray.empty t267 x18_1).size : Int) := of_decide_eq_true as_; omega); have hx15 : ∀ h : 0 < (rdOf ByteArray.empty t267 x18_1).size, (((rdOf ByteArray.empty t267 x18_1)[0]'h).toNat : Int) = bt (rdOf ByteArray.empty t267 x18_1) 0 := bt_at (rdOf ByteArray.empty t267 x18_1) 0; clear p15; have qi15 : (0 < ((rdOf ByteArray.empty t267 x18_1).size : Int)) = True := eq_true (of_decide_eq_true as_); replace q15 := eq_true q15; have hnb18 := NB266_265.out; have hnc18 := NB265_266.out; have hcz19_0 := cz_ BK266 0 (.int .u8 V4_1); have hcz19_1 := cz_ BK266 1 (.int .u8 V5_1); have hcz19_2 := cz_ BK266 2 (.int .u8 V6_1); have hcz19_3 := cz_ BK266 3 (.int .u8 V7_1); have hfz19_0 := bf_ BK266 0; have hfz19_1 := bf_ BK266 1; have hfz19_2 := bf_ BK266 2; have hfz19_3 := bf_ BK266 3; have hcz20_0 := cz_ BK265 0 (.int .u8 V0_1); have hcz20_1 := cz_ BK265 1 (.int .u8 V1_1); have hcz20_2 := cz_ BK265 2 (.int .u8 V2_1); have hcz20_3 := cz_ BK265 3 (.int .u8 V3_1); have hfz20_0 := bf_ BK265 0; have hfz20_1 := bf_ BK265 1; have hfz20_2 := bf_ BK265 2; have hfz20_3 := bf_ BK265 3))
           refine bodyPost_ret (results_ct rfl _ _ gb265 78 #[.int .u8 V4_1, .int .u8 V5_1, .int .u8 V6_1, .int .u8 V7_1] (0, 0) _ rfl (by (with_reducible repeat (first | refine blk_drewN ?_ _ | refine blk_drew ?_ | refine blk_alloc ?_ _)); refine blk_put (cs := #[.int .u8 V4_1, .int .u8 V5_1, .int .u8 V6_1, .int .u8 V3_1]) ?_ 3 _ rfl; (with_reducible repeat (first | refine blk_drewN ?_ _ | refine blk_drew ?_ | refine blk_alloc ?_ _)); refine blk_put (cs := #[.int .u8 V4_1, .int .u8 V5_1, .int .u8 V2_1, .int .u8 V3_1]) ?_ 2 _ rfl; (with_reducible repeat (first | refine blk_drewN ?_ _ | refine blk_drew ?_ | refine blk_alloc ?_ _)); refine blk_put (cs := #[.int .u8 V4_1, .int .u8 V1_1, .int .u8 V2_1, .int .u8 V3_1]) ?_ 1 _ rfl; (with_reducible repeat (first | refine blk_drewN ?_ _ | refine blk_drew ?_ | refine blk_alloc ?_ _)); refine blk_put (cs := #[.int .u8 V0_1, .int .u8 V1_1, .int .u8 V2_1, .int .u8 V3_1]) ?_ 0 _ rfl; (with_reducible repeat (first | refine blk_drewN ?_ _ | refine blk_drew ?_ | refine blk_alloc ?_ _)); exact BK265.out) Tryz.underlying78 rfl (by kernel_rfl)) rfl ?_
           exact ⟨rq_, bg_⟩
          ·rw [if_neg c16] at H
           have c16b0 := beq_eq_false_iff_ne.mpr c16
           have c16b1 := bne_iff_ne.mpr c16
           by_cases c21 : x18_1 < 4
           ·rw [if_pos c21] at H
            have c21b0 := decide_eq_true c21
            clear c21
            have H' := Aside0.mk H
            clear H
            have p270 : 0 ≤ (x18_1 : Int) := of_decide_eq_true as_
            have q270 : x18_1 < (t267.length : Int) := of_decide_eq_true as_
            obtain ⟨ad270, e270, hx270_0⟩ := Kd.at_string (Kd.R_reads' HO_16.out).2.2 x18_1 p270 q270
            cases e270
            replace p270 := eq_true p270
            replace q270 := eq_true q270
            go_wp2_with (first | ((with_reducible refine gate_callee (f := 60) rfl ?_); refine goesL_ (some 25) rfl rfl Tryz.func60 (by kernel_rfl) rfl #[.string (rdOf ByteArray.empty t267 x18_1), .int .u64 10, .int .u64 256] rfl lq_ ?_; (with_reducible refine (ip_number.calls k1 (rdOf ByteArray.empty t267 x18_1) 10 256 t271 true _ ?side1 A11.out).mono ?_); (case side1 => exact lg_); rintro e w22 ⟨rfl, hb⟩; refine ⟨_, rfl, ?_⟩; replace HO_16 := Aside0.mk (Kd.R_below (by (with_reducible repeat (first | apply Kd.R_alloc | apply Kd.R_drewN | apply Kd.R_drew)); exact HO_16.out) hb); replace BK265 := Aside0.mk (bb_ BK265 hb); replace BK266 := Aside0.mk (bb_ BK266 hb); replace HB := Aside0.mk (below_step bg_ hb); (try clear hb); (try clear hb2); (try clear hk); (try clear hi); have p15 : 0 ≤ (0 : Int) := (by omega); have q15 : 0 < (rdOf ByteArray.empty t267 x18_1).size := (by have : (0 : Int) < ((rdOf ByteArray.empty t267 x18_1).size : Int) := of_decide_eq_true as_; omega); have hx15 : ∀ h : 0 < (rdOf ByteArray.empty t267 x18_1).size, (((rdOf ByteArray.empty t267 x18_1)[0]'h).toNat : Int) = bt (rdOf ByteArray.empty t267 x18_1) 0 := bt_at (rdOf ByteArray.empty t267 x18_1) 0; clear p15; have qi15 : (0 < ((rdOf ByteArray.empty t267 x18_1).size : Int)) = True := eq_true (of_decide_eq_true as_); replace q15 := eq_true q15; have par23 : (0 ≤ x18_1) = True := eq_true (of_decide_eq_true as_); have qar23 : (x18_1 < 4) = True := eq_true (of_decide_eq_true as_); have hnb24 := NB266_265.out; have hnc24 := NB265_266.out; have hcz25_0 := cz_ BK266 0 (.int .u8 V4_1); have hcz25_1 := cz_ BK266 1 (.int .u8 V5_1); have hcz25_2 := cz_ BK266 2 (.int .u8 V6_1); have hcz25_3 := cz_ BK266 3 (.int .u8 V7_1); have hfz25_0 := bf_ BK266 0; have hfz25_1 := bf_ BK266 1; have hfz25_2 := bf_ BK266 2; have hfz25_3 := bf_ BK266 3; have hxar23 : w22.cell? ⟨gb266, (x18_1).toNat, none⟩ = some (.int .u8 (rd [V4_1, V5_1, V6_1, V7_1] x18_1)) := (blk_idx BK266.out .u8 [] [V4_1, V5_1, V6_1, V7_1] [] rfl x18_1 (of_decide_eq_true as_) (of_decide_eq_true as_) (Nat.zero_add _).symm); have hfar23 := bf_ BK266 ((x18_1).toNat)) | ((with_reducible refine gate_store (t := 5) (p := 44) rfl ?_); refine store_event (t := 5) (p := 44) (v := ?vo_w26) (w1 := (w22.setCell ⟨gb266, (x18_1).toNat, none⟩ (.int .u8 ((t271) % 256)))) ?hg ?ho ?hn ?hr ?_; (case ho => rfl); (case hg => rfl); (case hn => rfl); (case hr => first | (go_simp; done) | (go_simp; rfl)); intro w26 hw; have n0_ : Aside0 (Kd.R Kd.string 9 w26 w.heap.size (fun _ => True) (.slice (some ad270) t267.length co7) t267) := ⟨(by rw [hw]; exact (by (with_reducible repeat (first | apply Kd.R_alloc | apply Kd.R_drewN | apply Kd.R_drew)); exact Kd.R_mono (Kd.R_far (p := ⟨gb266, (x18_1).toNat, none⟩) (Kd.R_types HO_16.out BK266.out (by decide)) (fun _ hk => hk.2) (.int .u8 ((t271) % 256))) (fun _ hk => trivial)))⟩; have n1_ : Aside0 (w26.heap[gb265]? = some (.cells #[.int .u8 V0_1, .int .u8 V1_1, .int .u8 V2_1, .int .u8 V3_1] 78 (0, 0))) := ⟨(by rw [hw]; exact (by (with_reducible repeat (first | refine blk_drewN ?_ _ | refine blk_drew ?_ | refine blk_alloc ?_ _)); refine blk_far ?_ NB265_266.out _; (with_reducible repeat (first | refine blk_drewN ?_ _ | refine blk_drew ?_ | refine blk_alloc ?_ _)); exact BK265.out))⟩; have n2_ : Aside0 (w26.heap[gb266]? = some (.cells #[.int .u8 (upd x18_1 0 ((t271) % 256) V4_1), .int .u8 (upd x18_1 1 ((t271) % 256) V5_1), .int .u8 (upd x18_1 2 ((t271) % 256) V6_1), .int .u8 (upd x18_1 3 ((t271) % 256) V7_1)] 78 (0, 0))) := ⟨(by rw [hw]; exact (by (with_reducible repeat (first | refine blk_drewN ?_ _ | refine blk_drew ?_ | refine blk_alloc ?_ _)); refine blk_put (cs := #[.int .u8 V4_1, .int .u8 V5_1, .int .u8 V6_1, .int .u8 V7_1]) ?_ ((x18_1).toNat) _ (upd_set .u8 [] [V4_1, V5_1, V6_1, V7_1] [] rfl x18_1 (of_decide_eq_true as_) (of_decide_eq_true as_) (Nat.zero_add _).symm _ rfl); (with_reducible repeat (first | refine blk_drewN ?_ _ | refine blk_drew ?_ | refine blk_alloc ?_ _)); exact BK266.out))⟩; have n3_ : Aside0 (Below w.heap.size w w26) := ⟨(by rw [hw]; exact bg_)⟩; clear hw; clear HO_16; clear BK265; clear BK266; clear HB; have HO_16 := n0_; have BK265 := n1_; have BK266 := n2_; have HB := n3_; clear n0_ n1_ n2_ n3_))
            go_roundg k1
            case measure => have := HK1.out; omega
            case rel => exact ⟨(wrap64 (x18_1 + 1)), (V0_1), (V1_1), (V2_1), (V3_1), (upd x18_1 0 ((t271) % 256) V4_1), (upd x18_1 1 ((t271) % 256) V5_1), (upd x18_1 2 ((t271) % 256) V6_1), (upd x18_1 3 ((t271) % 256) V7_1), sq_, H', ⟨by have := HK1.out; omega⟩, ⟨by (with_reducible repeat (first | apply Kd.R_alloc | apply Kd.R_drewN | apply Kd.R_drew)); exact HO_16.out⟩, ⟨bk_⟩, ⟨bk_⟩, ⟨bg_⟩⟩
           ·rw [if_neg c21] at H
            exact absurd H (by simp)
         ·rw [if_neg c14] at H
          exact absurd H (by simp)
        ·rw [if_neg c13] at H
         have c13b0 := decide_eq_false c13
         have c13b1 : decide (1 < (rdOf ByteArray.empty t267 x18_1).size) = false := decide_eq_false (by omega)
         clear c13
         by_cases c27 : x18_1 < 4
         ·rw [if_pos c27] at H
          have c27b0 := decide_eq_true c27
          clear c27
          have H' := Aside0.mk H
          clear H
          have p270 : 0 ≤ (x18_1 : Int) := of_decide_eq_true as_
          have q270 : x18_1 < (t267.length : Int) := of_decide_eq_true as_
          obtain ⟨ad270, e270, hx270_0⟩ := Kd.at_string (Kd.R_reads' HO_16.out).2.2 x18_1 p270 q270
          cases e270
          replace p270 := eq_true p270
          replace q270 := eq_true q270
          go_wp2_with (first | ((with_reducible refine gate_callee (f := 60) rfl ?_); refine goesL_ (some 25) rfl rfl Tryz.func60 (by kernel_rfl) rfl #[.string (rdOf ByteArray.empty t267 x18_1), .int .u64 10, .int .u64 256] rfl lq_ ?_; (with_reducible refine (ip_number.calls k1 (rdOf ByteArray.empty t267 x18_1) 10 256 t271 true _ ?side1 A11.out).mono ?_); (case side1 => exact lg_); rintro e w28 ⟨rfl, hb⟩; refine ⟨_, rfl, ?_⟩; replace HO_16 := Aside0.mk (Kd.R_below (by (with_reducible repeat (first | apply Kd.R_alloc | apply Kd.R_drewN | apply Kd.R_drew)); exact HO_16.out) hb); replace BK265 := Aside0.mk (bb_ BK265 hb); replace BK266 := Aside0.mk (bb_ BK266 hb); replace HB := Aside0.mk (below_step bg_ hb); (try clear hb); (try clear hb2); (try clear hk); (try clear hi); have par29 : (0 ≤ x18_1) = True := eq_true (of_decide_eq_true as_); have qar29 : (x18_1 < 4) = True := eq_true (of_decide_eq_true as_); have hnb30 := NB266_265.out; have hnc30 := NB265_266.out; have hcz31_0 := cz_ BK266 0 (.int .u8 V4_1); have hcz31_1 := cz_ BK266 1 (.int .u8 V5_1); have hcz31_2 := cz_ BK266 2 (.int .u8 V6_1); have hcz31_3 := cz_ BK266 3 (.int .u8 V7_1); have hfz31_0 := bf_ BK266 0; have hfz31_1 := bf_ BK266 1; have hfz31_2 := bf_ BK266 2; have hfz31_3 := bf_ BK266 3; have hxar29 : w28.cell? ⟨gb266, (x18_1).toNat, none⟩ = some (.int .u8 (rd [V4_1, V5_1, V6_1, V7_1] x18_1)) := (blk_idx BK266.out .u8 [] [V4_1, V5_1, V6_1, V7_1] [] rfl x18_1 (of_decide_eq_true as_) (of_decide_eq_true as_) (Nat.zero_add _).symm); have hfar29 := bf_ BK266 ((x18_1).toNat)) | ((with_reducible refine gate_store (t := 5) (p := 44) rfl ?_); refine store_event (t := 5) (p := 44) (v := ?vo_w32) (w1 := (w28.setCell ⟨gb266, (x18_1).toNat, none⟩ (.int .u8 ((t271) % 256)))) ?hg ?ho ?hn ?hr ?_; (case ho => rfl); (case hg => rfl); (case hn => rfl); (case hr => first | (go_simp; done) | (go_simp; rfl)); intro w32 hw; have n0_ : Aside0 (Kd.R Kd.string 9 w32 w.heap.size (fun _ => True) (.slice (some ad270) t267.length co7) t267) := ⟨(by rw [hw]; exact (by (with_reducible repeat (first | apply Kd.R_alloc | apply Kd.R_drewN | apply Kd.R_drew)); exact Kd.R_mono (Kd.R_far (p := ⟨gb266, (x18_1).toNat, none⟩) (Kd.R_types HO_16.out BK266.out (by decide)) (fun _ hk => hk.2) (.int .u8 ((t271) % 256))) (fun _ hk => trivial)))⟩; have n1_ : Aside0 (w32.heap[gb265]? = some (.cells #[.int .u8 V0_1, .int .u8 V1_1, .int .u8 V2_1, .int .u8 V3_1] 78 (0, 0))) := ⟨(by rw [hw]; exact (by (with_reducible repeat (first | refine blk_drewN ?_ _ | refine blk_drew ?_ | refine blk_alloc ?_ _)); refine blk_far ?_ NB265_266.out _; (with_reducible repeat (first | refine blk_drewN ?_ _ | refine blk_drew ?_ | refine blk_alloc ?_ _)); exact BK265.out))⟩; have n2_ : Aside0 (w32.heap[gb266]? = some (.cells #[.int .u8 (upd x18_1 0 ((t271) % 256) V4_1), .int .u8 (upd x18_1 1 ((t271) % 256) V5_1), .int .u8 (upd x18_1 2 ((t271) % 256) V6_1), .int .u8 (upd x18_1 3 ((t271) % 256) V7_1)] 78 (0, 0))) := ⟨(by rw [hw]; exact (by (with_reducible repeat (first | refine blk_drewN ?_ _ | refine blk_drew ?_ | refine blk_alloc ?_ _)); refine blk_put (cs := #[.int .u8 V4_1, .int .u8 V5_1, .int .u8 V6_1, .int .u8 V7_1]) ?_ ((x18_1).toNat) _ (upd_set .u8 [] [V4_1, V5_1, V6_1, V7_1] [] rfl x18_1 (of_decide_eq_true as_) (of_decide_eq_true as_) (Nat.zero_add _).symm _ rfl); (with_reducible repeat (first | refine blk_drewN ?_ _ | refine blk_drew ?_ | refine blk_alloc ?_ _)); exact BK266.out))⟩; have n3_ : Aside0 (Below w.heap.size w w32) := ⟨(by rw [hw]; exact bg_)⟩; clear hw; clear HO_16; clear BK265; clear BK266; clear HB; have HO_16 := n0_; have BK265 := n1_; have BK266 := n2_; have HB := n3_; clear n0_ n1_ n2_ n3_))
          go_roundg k1
          case measure => have := HK1.out; omega
          case rel => exact ⟨(wrap64 (x18_1 + 1)), (V0_1), (V1_1), (V2_1), (V3_1), (upd x18_1 0 ((t271) % 256) V4_1), (upd x18_1 1 ((t271) % 256) V5_1), (upd x18_1 2 ((t271) % 256) V6_1), (upd x18_1 3 ((t271) % 256) V7_1), sq_, H', ⟨by have := HK1.out; omega⟩, ⟨by (with_reducible repeat (first | apply Kd.R_alloc | apply Kd.R_drewN | apply Kd.R_drew)); exact HO_16.out⟩, ⟨bk_⟩, ⟨bk_⟩, ⟨bg_⟩⟩
         ·rw [if_neg c27] at H
          exact absurd H (by simp)
       ·replace c12 := Bool.eq_false_iff.mpr c12
        subst c12
        replace H := ifF_ H
        simp only [Option.some.injEq, Prod.mk.injEq] at H
        obtain ⟨rfl, rfl, rfl, rfl, rfl⟩ := H
        have p270 : 0 ≤ (x18_1 : Int) := of_decide_eq_true as_
        have q270 : x18_1 < (t267.length : Int) := of_decide_eq_true as_
        obtain ⟨ad270, e270, hx270_0⟩ := Kd.at_string (Kd.R_reads' HO_16.out).2.2 x18_1 p270 q270
        cases e270
        replace p270 := eq_true p270
        replace q270 := eq_true q270
        go_wp2_with (first | ((with_reducible refine gate_callee (f := 60) rfl ?_); refine goesL_ (some 25) rfl rfl Tryz.func60 (by kernel_rfl) rfl #[.string (rdOf ByteArray.empty t267 x18_1), .int .u64 10, .int .u64 256] rfl lq_ ?_; (with_reducible refine (ip_number.calls k1 (rdOf ByteArray.empty t267 x18_1) 10 256 t271 false _ ?side1 A11.out).mono ?_); (case side1 => exact lg_); rintro e w33 ⟨rfl, hb⟩; refine ⟨_, rfl, ?_⟩; replace HO_16 := Aside0.mk (Kd.R_below (by (with_reducible repeat (first | apply Kd.R_alloc | apply Kd.R_drewN | apply Kd.R_drew)); exact HO_16.out) hb); replace BK265 := Aside0.mk (bb_ BK265 hb); replace BK266 := Aside0.mk (bb_ BK266 hb); replace HB := Aside0.mk (below_step bg_ hb); (try clear hb); (try clear hb2); (try clear hk); (try clear hi); have hnb34 := NB266_265.out; have hnc34 := NB265_266.out; have hcz35_0 := cz_ BK266 0 (.int .u8 V4_1); have hcz35_1 := cz_ BK266 1 (.int .u8 V5_1); have hcz35_2 := cz_ BK266 2 (.int .u8 V6_1); have hcz35_3 := cz_ BK266 3 (.int .u8 V7_1); have hfz35_0 := bf_ BK266 0; have hfz35_1 := bf_ BK266 1; have hfz35_2 := bf_ BK266 2; have hfz35_3 := bf_ BK266 3; have hcz36_0 := cz_ BK265 0 (.int .u8 V0_1); have hcz36_1 := cz_ BK265 1 (.int .u8 V1_1); have hcz36_2 := cz_ BK265 2 (.int .u8 V2_1); have hcz36_3 := cz_ BK265 3 (.int .u8 V3_1); have hfz36_0 := bf_ BK265 0; have hfz36_1 := bf_ BK265 1; have hfz36_2 := bf_ BK265 2; have hfz36_3 := bf_ BK265 3))
        refine bodyPost_ret (results_ct rfl _ _ gb265 78 #[.int .u8 V4_1, .int .u8 V5_1, .int .u8 V6_1, .int .u8 V7_1] (0, 0) _ rfl (by (with_reducible repeat (first | refine blk_drewN ?_ _ | refine blk_drew ?_ | refine blk_alloc ?_ _)); refine blk_put (cs := #[.int .u8 V4_1, .int .u8 V5_1, .int .u8 V6_1, .int .u8 V3_1]) ?_ 3 _ rfl; (with_reducible repeat (first | refine blk_drewN ?_ _ | refine blk_drew ?_ | refine blk_alloc ?_ _)); refine blk_put (cs := #[.int .u8 V4_1, .int .u8 V5_1, .int .u8 V2_1, .int .u8 V3_1]) ?_ 2 _ rfl; (with_reducible repeat (first | refine blk_drewN ?_ _ | refine blk_drew ?_ | refine blk_alloc ?_ _)); refine blk_put (cs := #[.int .u8 V4_1, .int .u8 V1_1, .int .u8 V2_1, .int .u8 V3_1]) ?_ 1 _ rfl; (with_reducible repeat (first | refine blk_drewN ?_ _ | refine blk_drew ?_ | refine blk_alloc ?_ _)); refine blk_put (cs := #[.int .u8 V0_1, .int .u8 V1_1, .int .u8 V2_1, .int .u8 V3_1]) ?_ 0 _ rfl; (with_reducible repeat (first | refine blk_drewN ?_ _ | refine blk_drew ?_ | refine blk_alloc ?_ _)); exact BK265.out) Tryz.underlying78 rfl (by kernel_rfl)) rfl ?_
        exact ⟨rq_, bg_⟩
      ·rw [if_neg c10] at H
       exact absurd H (by simp)
     ·rw [if_neg c9] at H
      exact absurd H (by simp)
    ·rw [if_neg c8] at H
     have c8b0 := decide_eq_false c8
     clear c8
     simp only [Option.some.injEq, Prod.mk.injEq] at H
     obtain ⟨rfl, rfl, rfl, rfl, rfl⟩ := H
     have hnb37 := NB266_265.out
     have hnc37 := NB265_266.out
     have hcz38_0 := cz_ BK266 0 (.int .u8 V4_1)
     have hcz38_1 := cz_ BK266 1 (.int .u8 V5_1)
     have hcz38_2 := cz_ BK266 2 (.int .u8 V6_1)
     have hcz38_3 := cz_ BK266 3 (.int .u8 V7_1)
     have hfz38_0 := bf_ BK266 0
     have hfz38_1 := bf_ BK266 1
     have hfz38_2 := bf_ BK266 2
     have hfz38_3 := bf_ BK266 3
     have hcz39_0 := cz_ BK265 0 (.int .u8 V0_1)
     have hcz39_1 := cz_ BK265 1 (.int .u8 V1_1)
     have hcz39_2 := cz_ BK265 2 (.int .u8 V2_1)
     have hcz39_3 := cz_ BK265 3 (.int .u8 V3_1)
     have hfz39_0 := bf_ BK265 0
     have hfz39_1 := bf_ BK265 1
     have hfz39_2 := bf_ BK265 2
     have hfz39_3 := bf_ BK265 3
     go_wp2
     refine bodyPost_ret (results_ct rfl _ _ gb265 78 #[.int .u8 V4_1, .int .u8 V5_1, .int .u8 V6_1, .int .u8 V7_1] (0, 0) _ rfl (by (with_reducible repeat (first | refine blk_drewN ?_ _ | refine blk_drew ?_ | refine blk_alloc ?_ _)); refine blk_put (cs := #[.int .u8 V4_1, .int .u8 V5_1, .int .u8 V6_1, .int .u8 V3_1]) ?_ 3 _ rfl; (with_reducible repeat (first | refine blk_drewN ?_ _ | refine blk_drew ?_ | refine blk_alloc ?_ _)); refine blk_put (cs := #[.int .u8 V4_1, .int .u8 V5_1, .int .u8 V2_1, .int .u8 V3_1]) ?_ 2 _ rfl; (with_reducible repeat (first | refine blk_drewN ?_ _ | refine blk_drew ?_ | refine blk_alloc ?_ _)); refine blk_put (cs := #[.int .u8 V4_1, .int .u8 V1_1, .int .u8 V2_1, .int .u8 V3_1]) ?_ 1 _ rfl; (with_reducible repeat (first | refine blk_drewN ?_ _ | refine blk_drew ?_ | refine blk_alloc ?_ _)); refine blk_put (cs := #[.int .u8 V0_1, .int .u8 V1_1, .int .u8 V2_1, .int .u8 V3_1]) ?_ 0 _ rfl; (with_reducible repeat (first | refine blk_drewN ?_ _ | refine blk_drew ?_ | refine blk_alloc ?_ _)); exact BK265.out) Tryz.underlying78 rfl (by kernel_rfl)) rfl ?_
     exact ⟨rq_, bg_⟩
 ·rw [if_neg c3] at H
  have c3b0 := beq_eq_false_iff_ne.mpr c3
  have c3b1 := bne_iff_ne.mpr c3
  simp only [Option.some.injEq, Prod.mk.injEq] at H
  obtain ⟨rfl, rfl, rfl, rfl, rfl⟩ := H
  go_enter Tryz.func44, Tryz.ntmps44
  go_wp2_with (first | ((with_reducible refine gate_dst (N := 2) rfl ?_); (try (refine gate_guard (by rfl) ?_; dsimp only)); refine bx_ 2 #[.int .u8 0, .int .u8 0, .int .u8 0, .int .u8 0] 78 ?_; intro gb265 hg w40 hbox hb; have BK265 := Aside0.mk (hbox); have GW265 := Aside0.mk (ge_ (w := w) hg); have GE265 := Aside0.mk (ge_ (w := w) hg); replace HB := Aside0.mk (below_step bq_ hb); clear hb hbox hg) | ((with_reducible refine gate_dst (N := 4) rfl ?_); (try (refine gate_guard (by rfl) ?_; dsimp only)); refine bx_ 4 #[.int .u8 0, .int .u8 0, .int .u8 0, .int .u8 0] 78 ?_; intro gb266 hg w41 hbox hb; have n0_ := Aside0.mk (bb_ BK265 hb); have n1_ := Aside0.mk (below_step bg_ hb); have n2_ := Aside0.mk (hbox); have n3_ := Aside0.mk (gg_ (w := w) hg); have n4_ := Aside0.mk (gg_ (w := w) hg); have n5_ := Aside0.mk (nl_ BK265 hg); have n6_ := Aside0.mk (ng_ BK265 hg); clear BK265; clear HB; have BK265 := n0_; have HB := n1_; have BK266 := n2_; have GW266 := n3_; have GE266 := n4_; have NB265_266 := n5_; have NB266_265 := n6_; clear n0_ n1_ n2_ n3_ n4_ n5_ n6_; clear hb hbox hg) | ((with_reducible refine gate_callee (f := 42) rfl ?_); refine goesL_ (some 11) rfl rfl Tryz.func42 (by kernel_rfl) rfl #[.string a0, .string (⟨#[46]⟩ : ByteArray)] rfl lq_ ?_; (with_reducible refine (strings_Split.calls a0 (⟨#[46]⟩ : ByteArray) t267 _ ?side1 A2.out).mono ?_); (case side1 => exact lg_); rintro e w42 ⟨v268, rfl, ho0, hb⟩; refine ⟨_, rfl, ?_⟩; have HO269 := Aside0.mk (Kd.R_lower ho0 (below_size bg_)); replace BK265 := Aside0.mk (bb_ BK265 hb); replace BK266 := Aside0.mk (bb_ BK266 hb); replace HB := Aside0.mk (below_step bg_ hb); (try clear hb); (try clear hb2); (try clear hk); (try clear hi); (try clear ho0); obtain ⟨Ao43, co43, eo43⟩ := Kd.R_slice HO269.out; subst eo43; have hnb44 := NB266_265.out; have hnc44 := NB265_266.out; have hcz45_0 := cz_ BK266 0 (.int .u8 0); have hcz45_1 := cz_ BK266 1 (.int .u8 0); have hcz45_2 := cz_ BK266 2 (.int .u8 0); have hcz45_3 := cz_ BK266 3 (.int .u8 0); have hfz45_0 := bf_ BK266 0; have hfz45_1 := bf_ BK266 1; have hfz45_2 := bf_ BK266 2; have hfz45_3 := bf_ BK266 3; have hcz46_0 := cz_ BK265 0 (.int .u8 0); have hcz46_1 := cz_ BK265 1 (.int .u8 0); have hcz46_2 := cz_ BK265 2 (.int .u8 0); have hcz46_3 := cz_ BK265 3 (.int .u8 0); have hfz46_0 := bf_ BK265 0; have hfz46_1 := bf_ BK265 1; have hfz46_2 := bf_ BK265 2; have hfz46_3 := bf_ BK265 3))
  refine bodyPost_ret (results_ct rfl _ _ gb265 78 #[.int .u8 0, .int .u8 0, .int .u8 0, .int .u8 0] (0, 0) _ rfl (by (with_reducible repeat (first | refine blk_drewN ?_ _ | refine blk_drew ?_ | refine blk_alloc ?_ _)); refine blk_put (cs := #[.int .u8 0, .int .u8 0, .int .u8 0, .int .u8 0]) ?_ 3 _ rfl; (with_reducible repeat (first | refine blk_drewN ?_ _ | refine blk_drew ?_ | refine blk_alloc ?_ _)); refine blk_put (cs := #[.int .u8 0, .int .u8 0, .int .u8 0, .int .u8 0]) ?_ 2 _ rfl; (with_reducible repeat (first | refine blk_drewN ?_ _ | refine blk_drew ?_ | refine blk_alloc ?_ _)); refine blk_put (cs := #[.int .u8 0, .int .u8 0, .int .u8 0, .int .u8 0]) ?_ 1 _ rfl; (with_reducible repeat (first | refine blk_drewN ?_ _ | refine blk_drew ?_ | refine blk_alloc ?_ _)); refine blk_put (cs := #[.int .u8 0, .int .u8 0, .int .u8 0, .int .u8 0]) ?_ 0 _ rfl; (with_reducible repeat (first | refine blk_drewN ?_ _ | refine blk_drew ?_ | refine blk_alloc ?_ _)); exact BK265.out) Tryz.underlying78 rfl (by kernel_rfl)) rfl ?_
  exact ⟨rq_, bg_⟩

mutual
def ip_groups.l0 : Nat → Bool → List Int → List ByteArray → List ByteArray → Int → Int → Option (List Int × Bool)
 | 0, _, _, _, _, _, _ => none
 | k + 1, x1, x6, x7, x18, x19, x20 => if x20 < x19 then (if 0 ≤ x20 then (if x20 < (x18.length : Int) then ((ip_four.f k (rdOf ByteArray.empty x18 x20)).bind fun bt279 => (if bt279.2.2.2.2 = true then (if x1 = true then (ip_groups.j1 k x1 x6 x7 (rdOf ByteArray.empty x18 x20) x18 x19 x20 (x20 == (wrap64 ((x7.length : Int) - 1))) bt279.1 bt279.2.1 bt279.2.2.1 bt279.2.2.2.1) else (ip_groups.j1 k x1 x6 x7 (rdOf ByteArray.empty x18 x20) x18 x19 x20 false bt279.1 bt279.2.1 bt279.2.2.1 bt279.2.2.2.1)) else (ip_groups.j1 k x1 x6 x7 (rdOf ByteArray.empty x18 x20) x18 x19 x20 false bt279.1 bt279.2.1 bt279.2.2.1 bt279.2.2.2.1))) else (none)) else (none)) else (some (x6, true))
def ip_groups.j1 : Nat → Bool → List Int → List ByteArray → ByteArray → List ByteArray → Int → Int → Bool → Int → Int → Int → Int → Option (List Int × Bool)
 | 0, _, _, _, _, _, _, _, _, _, _, _, _ => none
 | k + 1, x1, x6, x7, x9, x18, x19, x20, x40, V8, V9, V10, V11 => if x40 = true then (if x6.length + ([V8, V9, V10, V11] : List Int).length < 140737488355328 then (some ((x6 ++ ([V8, V9, V10, V11] : List Int)), true)) else (none)) else ((ip_number.f k x9 16 65536).bind fun bt289 => (if bt289.2 = true then (if (x9.size : Int) > 4 then (some (([] : List Int), false)) else ((some (([(bt289.1 / 256) % 256, (bt289.1) % 256] : List Int) : List Int)).bind fun y291 => (if x6.length + y291.length < 140737488355328 then (ip_groups.l0 k x1 (x6 ++ y291) x7 x18 x19 (wrap64 (x20 + 1))) else (none)))) else (some (([] : List Int), false))))
end
def ip_groups.f (k : Nat) (a0 : ByteArray) (a1 : Bool) : Option (List Int × Bool) := if a0.toList = ([] : List UInt8) then (some (([] : List Int), true)) else ((strings_Split.f a0 (⟨#[58]⟩ : ByteArray)).bind fun t275 => (ip_groups.l0 k a1 ([] : List Int) t275 t275 (t275.length : Int) 0))
theorem ip_groups.mono_l : ∀ k, (∀ y0 y1 y2 y3 y4 y5, LeO (ip_groups.l0 k y0 y1 y2 y3 y4 y5) (ip_groups.l0 (k + 1) y0 y1 y2 y3 y4 y5)) ∧ (∀ y0 y1 y2 y3 y4 y5 y6 y7 y8 y9 y10 y11, LeO (ip_groups.j1 k y0 y1 y2 y3 y4 y5 y6 y7 y8 y9 y10 y11) (ip_groups.j1 (k + 1) y0 y1 y2 y3 y4 y5 y6 y7 y8 y9 y10 y11))
 | 0 => ⟨fun _ _ _ _ _ _ r h => by simp [ip_groups.l0] at h, fun _ _ _ _ _ _ _ _ _ _ _ _ r h => by simp [ip_groups.j1] at h⟩
 | k + 1 => by
  obtain ⟨ih0, ih1⟩ := ip_groups.mono_l k
  refine ⟨?_, ?_⟩
  ·intro y0 y1 y2 y3 y4 y5
   unfold ip_groups.l0
   repeat' first
   | (with_reducible exact ih0 _ _ _ _ _ _)
   | (with_reducible exact ih1 _ _ _ _ _ _ _ _ _ _ _ _)
   | (with_reducible exact ip_four.mono _ _)
   | (with_reducible exact ip_number.mono _ _ _ _)
   | (with_reducible exact LeO.refl _)
   | (with_reducible exact LeO.none _)
   | (with_reducible refine LeO.ite ?_ ?_)
   | (with_reducible refine LeO.bind ?_ (fun _ => ?_))
   | exact ih0 _ _ _ _ _ _
   | exact ih1 _ _ _ _ _ _ _ _ _ _ _ _
   | exact ip_four.mono _ _
   | exact ip_number.mono _ _ _ _
   | exact LeO.none _
   | refine LeO.ite ?_ ?_
   | refine LeO.bind ?_ (fun _ => ?_)
  ·intro y0 y1 y2 y3 y4 y5 y6 y7 y8 y9 y10 y11
   unfold ip_groups.j1
   repeat' first
   | (with_reducible exact ih0 _ _ _ _ _ _)
   | (with_reducible exact ih1 _ _ _ _ _ _ _ _ _ _ _ _)
   | (with_reducible exact ip_four.mono _ _)
   | (with_reducible exact ip_number.mono _ _ _ _)
   | (with_reducible exact LeO.refl _)
   | (with_reducible exact LeO.none _)
   | (with_reducible refine LeO.ite ?_ ?_)
   | (with_reducible refine LeO.bind ?_ (fun _ => ?_))
   | exact ih0 _ _ _ _ _ _
   | exact ih1 _ _ _ _ _ _ _ _ _ _ _ _
   | exact ip_four.mono _ _
   | exact ip_number.mono _ _ _ _
   | exact LeO.none _
   | refine LeO.ite ?_ ?_
   | refine LeO.bind ?_ (fun _ => ?_)
theorem ip_groups.mono : ∀ a0 a1 k, LeO (ip_groups.f k a0 a1) (ip_groups.f (k + 1) a0 a1) := by
 intro a0 a1 k
 obtain ⟨ih0, ih1⟩ := ip_groups.mono_l k
 unfold ip_groups.f
 repeat' first
   | (with_reducible exact ih0 _ _ _ _ _ _)
   | (with_reducible exact ih1 _ _ _ _ _ _ _ _ _ _ _ _)
   | (with_reducible exact ip_four.mono _ _)
   | (with_reducible exact ip_number.mono _ _ _ _)
   | (with_reducible exact LeO.refl _)
   | (with_reducible exact LeO.none _)
   | (with_reducible refine LeO.ite ?_ ?_)
   | (with_reducible refine LeO.bind ?_ (fun _ => ?_))
   | exact ih0 _ _ _ _ _ _
   | exact ih1 _ _ _ _ _ _ _ _ _ _ _ _
   | exact ip_four.mono _ _
   | exact ip_number.mono _ _ _ _
   | exact LeO.none _
   | refine LeO.ite ?_ ?_
   | refine LeO.bind ?_ (fun _ => ?_)
set_option maxHeartbeats 8000000 in
set_option maxRecDepth 100000 in
theorem ip_groups.calls (k : Nat) (a0 : ByteArray) (a1 : Bool) (r1 : List Int) (r2 : Bool) (w : World) (hLW : LW w) (h : ip_groups.f k a0 a1 = some (r1, r2)) :
  Calls Tryz.prog 61 #[.string a0, .bool a1] w fun e w' => ∃ v0_ : Value, e = .returned (.tuple #[v0_, .bool r2]) ∧ Kd.R (Kd.int .u8) 5 w' w.heap.size (fun _ => True) v0_ r1 ∧ Below w.heap.size w w' := by
 have hu78 := Tryz.underlying78
 have HLW := Aside0.mk hLW
 clear hLW
 have HB := Aside0.mk (Below.refl w.heap.size w)
 have H := h
 unfold ip_groups.f at H
 clear h
 by_cases c3 : a0.toList = ([] : List UInt8)
 ·rw [if_pos c3] at H
  have c3b0 := beq_iff_eq.mpr c3
  have c3b1 := bne_eq_false_iff_eq.mpr c3
  clear c3
  simp only [Option.some.injEq, Prod.mk.injEq] at H
  obtain ⟨rfl, rfl⟩ := H
  go_enter Tryz.func61, Tryz.ntmps61
  go_wp2
  go_ret2
  exact ⟨_, rq_, by first | exact Kd.R_nil _ _ _ _ _ | exact Kd.N_nil _ _ _ _ _ | exact Kd.V_nil _ _ _ _ _ | exact Kd.Q_nil _ _ _ _ _ | exact Kd.S_nil _ _ _ _ _, bq_⟩
 ·rw [if_neg c3] at H
  have c3b0 := beq_eq_false_iff_ne.mpr c3
  have c3b1 := bne_iff_ne.mpr c3
  replace H := Option.bind_eq_some_iff.mp H
  obtain ⟨t275, A40, H⟩ := H
  (try dsimp only at H)
  have A4 := Aside0.mk A40
  clear A40
  have H' := Aside0.mk H
  clear H
  go_enter Tryz.func61, Tryz.ntmps61
  go_wp2_with (first | ((with_reducible refine gate_callee (f := 42) rfl ?_); refine goesL_ (some 17) rfl rfl Tryz.func42 (by kernel_rfl) rfl #[.string a0, .string (⟨#[58]⟩ : ByteArray)] rfl lq_ ?_; (with_reducible refine (strings_Split.calls a0 (⟨#[58]⟩ : ByteArray) t275 _ ?side1 A4.out).mono ?_); (case side1 => exact lw_); rintro e w5 ⟨v276, rfl, ho0, hb⟩; refine ⟨_, rfl, ?_⟩; have HO277 := Aside0.mk (Kd.R_lower ho0 (below_size bq_)); replace HB := Aside0.mk (below_step bq_ hb); (try clear hb); (try clear hb2); (try clear hk); (try clear hi); (try clear ho0); obtain ⟨Ao6, co6, eo6⟩ := Kd.R_slice HO277.out; subst eo6))
  go_loopg [6, 20] k (fun kq v6 v20 w' => ∃ (x6_1 : List Int) (x20_1 : Int), v20 = .int .i64 x20_1 ∧ Aside0 (ip_groups.l0 kq a1 x6_1 t275 t275 (t275.length : Int) x20_1 = some (r1, r2)) ∧ Aside0 (kq ≤ k) ∧ Aside0 (Kd.R (Kd.int .u8) 5 w' w.heap.size (fun _ => True) v6 x6_1) ∧ Aside0 (Kd.R Kd.string 9 w' w.heap.size (fun _ => True) (.slice Ao6 t275.length co6) t275) ∧ Aside0 (Kd.R Kd.string 9 w' w.heap.size (fun _ => True) (.slice Ao6 t275.length co6) t275) ∧ Aside0 (Below w.heap.size w w'))
  case atStart => exact ⟨(([] : List Int)), (0), sq_, H', ⟨Nat.le_refl _⟩, ⟨by first | exact Kd.R_nil _ _ _ _ _ | exact Kd.N_nil _ _ _ _ _ | exact Kd.V_nil _ _ _ _ _ | exact Kd.Q_nil _ _ _ _ _ | exact Kd.S_nil _ _ _ _ _⟩, ⟨by (with_reducible repeat (first | apply Kd.R_alloc | apply Kd.R_drewN | apply Kd.R_drew)); exact HO277.out⟩, ⟨by (with_reducible repeat (first | apply Kd.R_alloc | apply Kd.R_drewN | apply Kd.R_drew)); exact HO277.out⟩, ⟨bq_⟩⟩
  case round =>
   clear H'
   try clear p2
   try clear c3
   try clear c3b0
   try clear c3b1
   try clear c4
   try clear c6
   obtain ⟨x6_1, x20_1, rfl, HA, HK1, HO_6, HO_7, HO_18, HB⟩ := hrel
   cases gk with
   | zero => exact absurd HA.out (by simp [ip_groups.l0])
   | succ k1 =>
    have H := HA.out
    clear HA
    simp only [ip_groups.l0] at H
    by_cases c7 : x20_1 < (t275.length : Int)
    ·rw [if_pos c7] at H
     have c7b0 := decide_eq_true c7
     clear c7
     by_cases c8 : 0 ≤ x20_1
     ·rw [if_pos c8] at H
      have c8b0 := decide_eq_true c8
      clear c8
      by_cases c9 : x20_1 < (t275.length : Int)
      ·rw [if_pos c9] at H
       have c9b0 := decide_eq_true c9
       clear c9
       replace H := Option.bind_eq_some_iff.mp H
       obtain ⟨⟨t279, t280, t281, t282, t283⟩, A100, H⟩ := H
       (try dsimp only at H)
       have A10 := Aside0.mk A100
       clear A100
       have HC11 := Aside0.mk H
       clear H
       have p278 : 0 ≤ (x20_1 : Int) := of_decide_eq_true as_
       have q278 : x20_1 < (t275.length : Int) := of_decide_eq_true as_
       obtain ⟨ad278, e278, hx278_0⟩ := Kd.at_string (Kd.R_reads' HO_18.out).2.2 x20_1 p278 q278
       cases e278
       replace p278 := eq_true p278
       replace q278 := eq_true q278
       go_upto_region 9 with (first | ((with_reducible refine gate_callee (f := 44) rfl ?_); refine goesL_ (some 27) rfl rfl Tryz.func44 (by kernel_rfl) rfl #[.string (rdOf ByteArray.empty t275 x20_1)] rfl lq_ ?_; (with_reducible refine (ip_four.calls k1 (rdOf ByteArray.empty t275 x20_1) t279 t280 t281 t282 t283 _ ?side1 A10.out).mono ?_); (case side1 => exact lw_); rintro e w12 ⟨rfl, hb⟩; refine ⟨_, rfl, ?_⟩; replace HO_6 := Aside0.mk (Kd.R_below (by (with_reducible repeat (first | apply Kd.R_alloc | apply Kd.R_drewN | apply Kd.R_drew)); exact HO_6.out) hb); replace HO_7 := Aside0.mk (Kd.R_below (by (with_reducible repeat (first | apply Kd.R_alloc | apply Kd.R_drewN | apply Kd.R_drew)); exact HO_7.out) hb); replace HO_18 := Aside0.mk (Kd.R_below (by (with_reducible repeat (first | apply Kd.R_alloc | apply Kd.R_drewN | apply Kd.R_drew)); exact HO_18.out) hb); replace HB := Aside0.mk (below_step bq_ hb); (try clear hb); (try clear hb2); (try clear hk); (try clear hi)) | ((with_reducible refine gate_dst (N := 10) rfl ?_); (try (refine gate_guard (by rfl) ?_; dsimp only)); refine bx_ 10 #[.int .u8 0, .int .u8 0, .int .u8 0, .int .u8 0] 78 ?_; intro gb284 hg w13 hbox hb; replace HO_6 := Aside0.mk (Kd.R_below (by (with_reducible repeat (first | apply Kd.R_alloc | apply Kd.R_drewN | apply Kd.R_drew)); exact HO_6.out) hb); replace HO_7 := Aside0.mk (Kd.R_below (by (with_reducible repeat (first | apply Kd.R_alloc | apply Kd.R_drewN | apply Kd.R_drew)); exact HO_7.out) hb); replace HO_18 := Aside0.mk (Kd.R_below (by (with_reducible repeat (first | apply Kd.R_alloc | apply Kd.R_drewN | apply Kd.R_drew)); exact HO_18.out) hb); have BK284 := Aside0.mk (hbox); have GW284 := Aside0.mk (ge_ (w := w) hg); have GE284 := Aside0.mk (ge_ (w := w) hg); replace HB := Aside0.mk (below_step bq_ hb); clear hb hbox hg; have hcz14_0 := cz_ BK284 0 (.int .u8 0); have hcz14_1 := cz_ BK284 1 (.int .u8 0); have hcz14_2 := cz_ BK284 2 (.int .u8 0); have hcz14_3 := cz_ BK284 3 (.int .u8 0); have hfz14_0 := bf_ BK284 0; have hfz14_1 := bf_ BK284 1; have hfz14_2 := bf_ BK284 2; have hfz14_3 := bf_ BK284 3))
       (try simp only [Act.put, List.setIfInBounds_toArray, List.set_cons_zero, List.set_cons_succ])
       go_cut [40] (fun v40 wc => ∃ (kq : Nat) (x40_10 : Bool), v40 = .bool x40_10 ∧ Aside0 (ip_groups.j1 kq a1 x6_1 t275 (rdOf ByteArray.empty t275 x20_1) t275 (t275.length : Int) x20_1 x40_10 t279 t280 t281 t282 = some (r1, r2)) ∧ Aside0 (kq ≤ k1) ∧ Aside0 (Kd.R (Kd.int .u8) 5 wc w.heap.size (fun _ => True) u6 x6_1) ∧ Aside0 (Kd.R Kd.string 9 wc w.heap.size (fun _ => True) (.slice (some ad278) t275.length co6) t275) ∧ Aside0 (Kd.R Kd.string 9 wc w.heap.size (fun _ => True) (.slice (some ad278) t275.length co6) t275) ∧ Aside0 (wc.heap[gb284]? = some (.cells #[.int .u8 t279, .int .u8 t280, .int .u8 t281, .int .u8 t282] 78 (0, 0))) ∧ Aside0 (Below w.heap.size w wc))
       case first =>
        have H := HC11.out
        clear HC11
        by_cases c15 : t283 = true
        ·subst c15
         replace H := ifT_ H
         by_cases c16 : a1 = true
         ·subst c16
          replace H := ifT_ H
          have H' := Aside0.mk H
          clear H
          go_wp2
          go_meet
          case rel => exact ⟨_, ((x20_1 == (wrap64 ((t275.length : Int) - 1)))), sq_, H', ⟨by have := HK1.out; first | omega | exact Nat.le_refl _⟩, ⟨by (with_reducible repeat (first | apply Kd.R_alloc | apply Kd.R_drewN | apply Kd.R_drew)); exact Kd.R_mono (Kd.R_far (p := ⟨gb284, 3, none⟩) (Kd.R_far (p := ⟨gb284, 2, none⟩) (Kd.R_far (p := ⟨gb284, 1, none⟩) (Kd.R_far (p := ⟨gb284, 0, none⟩) (Kd.R_types HO_6.out BK284.out (by decide)) (fun _ hk => hk.2) (.int .u8 t279)) (fun _ hk => hk.2) (.int .u8 t280)) (fun _ hk => hk.2) (.int .u8 t281)) (fun _ hk => hk.2) (.int .u8 t282)) (fun _ hk => trivial)⟩, ⟨by (with_reducible repeat (first | apply Kd.R_alloc | apply Kd.R_drewN | apply Kd.R_drew)); exact Kd.R_mono (Kd.R_far (p := ⟨gb284, 3, none⟩) (Kd.R_far (p := ⟨gb284, 2, none⟩) (Kd.R_far (p := ⟨gb284, 1, none⟩) (Kd.R_far (p := ⟨gb284, 0, none⟩) (Kd.R_types HO_7.out BK284.out (by decide)) (fun _ hk => hk.2) (.int .u8 t279)) (fun _ hk => hk.2) (.int .u8 t280)) (fun _ hk => hk.2) (.int .u8 t281)) (fun _ hk => hk.2) (.int .u8 t282)) (fun _ hk => trivial)⟩, ⟨by (with_reducible repeat (first | apply Kd.R_alloc | apply Kd.R_drewN | apply Kd.R_drew)); exact Kd.R_mono (Kd.R_far (p := ⟨gb284, 3, none⟩) (Kd.R_far (p := ⟨gb284, 2, none⟩) (Kd.R_far (p := ⟨gb284, 1, none⟩) (Kd.R_far (p := ⟨gb284, 0, none⟩) (Kd.R_types HO_18.out BK284.out (by decide)) (fun _ hk => hk.2) (.int .u8 t279)) (fun _ hk => hk.2) (.int .u8 t280)) (fun _ hk => hk.2) (.int .u8 t281)) (fun _ hk => hk.2) (.int .u8 t282)) (fun _ hk => trivial)⟩, ⟨by (with_reducible repeat (first | refine blk_drewN ?_ _ | refine blk_drew ?_ | refine blk_alloc ?_ _)); refine blk_put (cs := #[.int .u8 t279, .int .u8 t280, .int .u8 t281, .int .u8 0]) ?_ 3 _ rfl; (with_reducible repeat (first | refine blk_drewN ?_ _ | refine blk_drew ?_ | refine blk_alloc ?_ _)); refine blk_put (cs := #[.int .u8 t279, .int .u8 t280, .int .u8 0, .int .u8 0]) ?_ 2 _ rfl; (with_reducible repeat (first | refine blk_drewN ?_ _ | refine blk_drew ?_ | refine blk_alloc ?_ _)); refine blk_put (cs := #[.int .u8 t279, .int .u8 0, .int .u8 0, .int .u8 0]) ?_ 1 _ rfl; (with_reducible repeat (first | refine blk_drewN ?_ _ | refine blk_drew ?_ | refine blk_alloc ?_ _)); refine blk_put (cs := #[.int .u8 0, .int .u8 0, .int .u8 0, .int .u8 0]) ?_ 0 _ rfl; (with_reducible repeat (first | refine blk_drewN ?_ _ | refine blk_drew ?_ | refine blk_alloc ?_ _)); exact BK284.out⟩, ⟨bg_⟩⟩
         ·replace c16 := Bool.eq_false_iff.mpr c16
          subst c16
          replace H := ifF_ H
          have H' := Aside0.mk H
          clear H
          go_wp2
          go_meet
          case rel => exact ⟨_, (false), sq_, H', ⟨by have := HK1.out; first | omega | exact Nat.le_refl _⟩, ⟨by (with_reducible repeat (first | apply Kd.R_alloc | apply Kd.R_drewN | apply Kd.R_drew)); exact Kd.R_mono (Kd.R_far (p := ⟨gb284, 3, none⟩) (Kd.R_far (p := ⟨gb284, 2, none⟩) (Kd.R_far (p := ⟨gb284, 1, none⟩) (Kd.R_far (p := ⟨gb284, 0, none⟩) (Kd.R_types HO_6.out BK284.out (by decide)) (fun _ hk => hk.2) (.int .u8 t279)) (fun _ hk => hk.2) (.int .u8 t280)) (fun _ hk => hk.2) (.int .u8 t281)) (fun _ hk => hk.2) (.int .u8 t282)) (fun _ hk => trivial)⟩, ⟨by (with_reducible repeat (first | apply Kd.R_alloc | apply Kd.R_drewN | apply Kd.R_drew)); exact Kd.R_mono (Kd.R_far (p := ⟨gb284, 3, none⟩) (Kd.R_far (p := ⟨gb284, 2, none⟩) (Kd.R_far (p := ⟨gb284, 1, none⟩) (Kd.R_far (p := ⟨gb284, 0, none⟩) (Kd.R_types HO_7.out BK284.out (by decide)) (fun _ hk => hk.2) (.int .u8 t279)) (fun _ hk => hk.2) (.int .u8 t280)) (fun _ hk => hk.2) (.int .u8 t281)) (fun _ hk => hk.2) (.int .u8 t282)) (fun _ hk => trivial)⟩, ⟨by (with_reducible repeat (first | apply Kd.R_alloc | apply Kd.R_drewN | apply Kd.R_drew)); exact Kd.R_mono (Kd.R_far (p := ⟨gb284, 3, none⟩) (Kd.R_far (p := ⟨gb284, 2, none⟩) (Kd.R_far (p := ⟨gb284, 1, none⟩) (Kd.R_far (p := ⟨gb284, 0, none⟩) (Kd.R_types HO_18.out BK284.out (by decide)) (fun _ hk => hk.2) (.int .u8 t279)) (fun _ hk => hk.2) (.int .u8 t280)) (fun _ hk => hk.2) (.int .u8 t281)) (fun _ hk => hk.2) (.int .u8 t282)) (fun _ hk => trivial)⟩, ⟨by (with_reducible repeat (first | refine blk_drewN ?_ _ | refine blk_drew ?_ | refine blk_alloc ?_ _)); refine blk_put (cs := #[.int .u8 t279, .int .u8 t280, .int .u8 t281, .int .u8 0]) ?_ 3 _ rfl; (with_reducible repeat (first | refine blk_drewN ?_ _ | refine blk_drew ?_ | refine blk_alloc ?_ _)); refine blk_put (cs := #[.int .u8 t279, .int .u8 t280, .int .u8 0, .int .u8 0]) ?_ 2 _ rfl; (with_reducible repeat (first | refine blk_drewN ?_ _ | refine blk_drew ?_ | refine blk_alloc ?_ _)); refine blk_put (cs := #[.int .u8 t279, .int .u8 0, .int .u8 0, .int .u8 0]) ?_ 1 _ rfl; (with_reducible repeat (first | refine blk_drewN ?_ _ | refine blk_drew ?_ | refine blk_alloc ?_ _)); refine blk_put (cs := #[.int .u8 0, .int .u8 0, .int .u8 0, .int .u8 0]) ?_ 0 _ rfl; (with_reducible repeat (first | refine blk_drewN ?_ _ | refine blk_drew ?_ | refine blk_alloc ?_ _)); exact BK284.out⟩, ⟨bg_⟩⟩
        ·replace c15 := Bool.eq_false_iff.mpr c15
         subst c15
         replace H := ifF_ H
         have H' := Aside0.mk H
         clear H
         go_wp2
         go_meet
         case rel => exact ⟨_, (false), sq_, H', ⟨by have := HK1.out; first | omega | exact Nat.le_refl _⟩, ⟨by (with_reducible repeat (first | apply Kd.R_alloc | apply Kd.R_drewN | apply Kd.R_drew)); exact Kd.R_mono (Kd.R_far (p := ⟨gb284, 3, none⟩) (Kd.R_far (p := ⟨gb284, 2, none⟩) (Kd.R_far (p := ⟨gb284, 1, none⟩) (Kd.R_far (p := ⟨gb284, 0, none⟩) (Kd.R_types HO_6.out BK284.out (by decide)) (fun _ hk => hk.2) (.int .u8 t279)) (fun _ hk => hk.2) (.int .u8 t280)) (fun _ hk => hk.2) (.int .u8 t281)) (fun _ hk => hk.2) (.int .u8 t282)) (fun _ hk => trivial)⟩, ⟨by (with_reducible repeat (first | apply Kd.R_alloc | apply Kd.R_drewN | apply Kd.R_drew)); exact Kd.R_mono (Kd.R_far (p := ⟨gb284, 3, none⟩) (Kd.R_far (p := ⟨gb284, 2, none⟩) (Kd.R_far (p := ⟨gb284, 1, none⟩) (Kd.R_far (p := ⟨gb284, 0, none⟩) (Kd.R_types HO_7.out BK284.out (by decide)) (fun _ hk => hk.2) (.int .u8 t279)) (fun _ hk => hk.2) (.int .u8 t280)) (fun _ hk => hk.2) (.int .u8 t281)) (fun _ hk => hk.2) (.int .u8 t282)) (fun _ hk => trivial)⟩, ⟨by (with_reducible repeat (first | apply Kd.R_alloc | apply Kd.R_drewN | apply Kd.R_drew)); exact Kd.R_mono (Kd.R_far (p := ⟨gb284, 3, none⟩) (Kd.R_far (p := ⟨gb284, 2, none⟩) (Kd.R_far (p := ⟨gb284, 1, none⟩) (Kd.R_far (p := ⟨gb284, 0, none⟩) (Kd.R_types HO_18.out BK284.out (by decide)) (fun _ hk => hk.2) (.int .u8 t279)) (fun _ hk => hk.2) (.int .u8 t280)) (fun _ hk => hk.2) (.int .u8 t281)) (fun _ hk => hk.2) (.int .u8 t282)) (fun _ hk => trivial)⟩, ⟨by (with_reducible repeat (first | refine blk_drewN ?_ _ | refine blk_drew ?_ | refine blk_alloc ?_ _)); refine blk_put (cs := #[.int .u8 t279, .int .u8 t280, .int .u8 t281, .int .u8 0]) ?_ 3 _ rfl; (with_reducible repeat (first | refine blk_drewN ?_ _ | refine blk_drew ?_ | refine blk_alloc ?_ _)); refine blk_put (cs := #[.int .u8 t279, .int .u8 t280, .int .u8 0, .int .u8 0]) ?_ 2 _ rfl; (with_reducible repeat (first | refine blk_drewN ?_ _ | refine blk_drew ?_ | refine blk_alloc ?_ _)); refine blk_put (cs := #[.int .u8 t279, .int .u8 0, .int .u8 0, .int .u8 0]) ?_ 1 _ rfl; (with_reducible repeat (first | refine blk_drewN ?_ _ | refine blk_drew ?_ | refine blk_alloc ?_ _)); refine blk_put (cs := #[.int .u8 0, .int .u8 0, .int .u8 0, .int .u8 0]) ?_ 0 _ rfl; (with_reducible repeat (first | refine blk_drewN ?_ _ | refine blk_drew ?_ | refine blk_alloc ?_ _)); exact BK284.out⟩, ⟨bg_⟩⟩
       case rest =>
        clear HC11
        try clear c1
        try clear p2
        try clear q2
        try clear hx2
        try clear c3
        try clear c3b0
        try clear c3b1
        try clear c4
        try clear c6
        try clear p6
        try clear c7
        try clear c7b0
        try clear c8
        try clear c8b0
        try clear c9
        try clear c9b0
        try clear c15
        try clear c16
        try clear hcz14_0
        try clear hcz14_1
        try clear hcz14_2
        try clear hcz14_3
        try clear hfz14_0
        try clear hfz14_1
        try clear hfz14_2
        try clear hfz14_3
        try clear hx278_0
        try clear p2
        try clear p278
        try clear q278
        obtain ⟨kq, x40_10, rfl, HA, HJ10, HO_6, HO_7, HO_18, BK284, HB⟩ := hcut
        cases kq with
        | zero => exact absurd HA.out (by simp [ip_groups.j1])
        | succ kj10 =>
         have H := HA.out
         clear HA
         simp only [ip_groups.j1] at H
         by_cases c17 : x40_10 = true
         ·subst c17
          replace H := ifT_ H
          by_cases c18 : x6_1.length + ([t279, t280, t281, t282] : List Int).length < 140737488355328
          ·rw [if_pos c18] at H
           have LMc18 := Aside0.mk c18
           clear c18
           obtain ⟨y286, hy286⟩ : ∃ y_ : List Int, y_ = (x6_1 ++ ([t279, t280, t281, t282] : List Int)) := ⟨_, rfl⟩
           replace H : (some (y286, true)) = some (r1, r2) := by first | (rw [hy286]; with_reducible exact H) | (have H2_ := (Option.bind_some _ _).symm.trans H; rw [hy286]; with_reducible exact H2_) | (have H2_ := (Option.bind_some _ _).symm.trans H; with_reducible exact H2_) | with_reducible exact H | (rw [hy286]; exact H) | exact H
           have Ny286 := Aside0.mk hy286
           clear hy286
           simp only [Option.some.injEq, Prod.mk.injEq] at H
           obtain ⟨rfl, rfl⟩ := H
           have HR285 := Aside0.mk (C_arr BK284.out .u8 [] [t279, t280, t281, t282] [] rfl (q := 0) rfl (by show 4 ≤ 9223372036854775807; decide))
           have HC285 := Aside0.mk (show ([t279, t280, t281, t282] : List Int).length ≤ 4 from by show 4 ≤ 4; decide)
           have hl285 : ([t279, t280, t281, t282] : List Int).length = 4 := rfl
           go_wp2_with (first | ((with_reducible refine gate_builtin (b := .append) (xs := #[.tmp 41, .tmp 42]) rfl ?_); (try (refine gate_guard (by rfl) ?_; dsimp only)); at_builtin; refine Kd.R_append_rows (Kd.int .u8) (w0 := w) w.heap.size rfl (.tmp 41) (.tmp 42) 60 5 (.int .u8 0) 1 rfl Tryz.underlying60 info5 rfl (by decide) (by omega) u6 x6_1 ([t279, t280, t281, t282] : List Int) _ _ _ (fun _ => True) (fun _ => False) rfl rfl ?aO ?aR (fun _ _ h => h) (fun _ h => h.elim) ?aF ?aB ?aS ?aL ?_; (case aR => first | (rw [← show ([t279, t280, t281, t282] : List Int).length = 4 from rfl]; repeat (first | exact (by repeat (first | (with_reducible exact HR285.out) | (with_reducible refine Kd.C_alloc ?_ _) | (with_reducible refine Kd.C_drewN ?_ _) | (with_reducible refine Kd.C_drew ?_) | exact HR285.out)) | (with_reducible refine Kd.C_alloc ?_ _) | (with_reducible refine Kd.C_drewN ?_ _) | (with_reducible refine Kd.C_drew ?_))) | (repeat (first | exact (by repeat (first | (with_reducible exact HR285.out) | (with_reducible refine Kd.C_alloc ?_ _) | (with_reducible refine Kd.C_drewN ?_ _) | (with_reducible refine Kd.C_drew ?_) | exact HR285.out)) | (with_reducible refine Kd.C_alloc ?_ _) | (with_reducible refine Kd.C_drewN ?_ _) | (with_reducible refine Kd.C_drew ?_)))); (case aB => exact bg_); (case aF => exact (fun _ _ => trivial)); (case aO => exact (by (with_reducible repeat (first | apply Kd.R_alloc | apply Kd.R_drewN | apply Kd.R_drew)); exact HO_6.out)); (case aS => exact (below_size bg_)); (case aL => have := LMc18.out; have hlx_ := (show ([t279, t280, t281, t282] : List Int).length = 4 from rfl); omega); intro v287 w19 ho hb hg hat; rw [← Ny286.out] at ho; replace HO_7 := Aside0.mk (Kd.R_over' (by (with_reducible repeat (first | apply Kd.R_alloc | apply Kd.R_drewN | apply Kd.R_drew)); exact HO_7.out) (Kd.R_typed (by (with_reducible repeat (first | apply Kd.R_alloc | apply Kd.R_drewN | apply Kd.R_drew)); exact HO_6.out)) (by decide) hg); replace HO_18 := Aside0.mk (Kd.R_over' (by (with_reducible repeat (first | apply Kd.R_alloc | apply Kd.R_drewN | apply Kd.R_drew)); exact HO_18.out) (Kd.R_typed (by (with_reducible repeat (first | apply Kd.R_alloc | apply Kd.R_drewN | apply Kd.R_drew)); exact HO_6.out)) (by decide) hg); replace BK284 := Aside0.mk (blk_grown (g := gb284) (o := .cells #[.int .u8 t279, .int .u8 t280, .int .u8 t281, .int .u8 t282] 78 (0, 0)) bk_ hg (Kd.R_ne HO_6.out BK284.out (by decide))); have HO288 := Aside0.mk (ho); replace HB := Aside0.mk (hb); clear HO_6; clear ho hb hg hat))
           go_ret2
           exact ⟨_, rq_, by (with_reducible repeat (first | apply Kd.R_alloc | apply Kd.R_drewN | apply Kd.R_drew)); exact HO288.out, bg_⟩
          ·rw [if_neg c18] at H
           exact absurd H (by simp)
         ·replace c17 := Bool.eq_false_iff.mpr c17
          subst c17
          replace H := ifF_ H
          replace H := Option.bind_eq_some_iff.mp H
          obtain ⟨⟨t289, t290⟩, A200, H⟩ := H
          (try dsimp only at H)
          have A20 := Aside0.mk A200
          clear A200
          by_cases c21 : t290 = true
          ·subst c21
           replace H := ifT_ H
           by_cases c22 : ((rdOf ByteArray.empty t275 x20_1).size : Int) > 4
           ·rw [if_pos c22] at H
            have c22b0 := decide_eq_true c22
            have c22b1 : decide (4 < (rdOf ByteArray.empty t275 x20_1).size) = true := decide_eq_true (by omega)
            clear c22
            simp only [Option.some.injEq, Prod.mk.injEq] at H
            obtain ⟨rfl, rfl⟩ := H
            go_wp2_with (first | ((with_reducible refine gate_callee (f := 60) rfl ?_); refine goesL_ (some 46) rfl rfl Tryz.func60 (by kernel_rfl) rfl #[.string (rdOf ByteArray.empty t275 x20_1), .int .u64 16, .int .u64 65536] rfl lq_ ?_; (with_reducible refine (ip_number.calls kj10 (rdOf ByteArray.empty t275 x20_1) 16 65536 t289 true _ ?side1 A20.out).mono ?_); (case side1 => exact lg_); rintro e w23 ⟨rfl, hb⟩; refine ⟨_, rfl, ?_⟩; replace HO_6 := Aside0.mk (Kd.R_below (by (with_reducible repeat (first | apply Kd.R_alloc | apply Kd.R_drewN | apply Kd.R_drew)); exact HO_6.out) hb); replace HO_7 := Aside0.mk (Kd.R_below (by (with_reducible repeat (first | apply Kd.R_alloc | apply Kd.R_drewN | apply Kd.R_drew)); exact HO_7.out) hb); replace HO_18 := Aside0.mk (Kd.R_below (by (with_reducible repeat (first | apply Kd.R_alloc | apply Kd.R_drewN | apply Kd.R_drew)); exact HO_18.out) hb); replace BK284 := Aside0.mk (bb_ BK284 hb); replace HB := Aside0.mk (below_step bg_ hb); (try clear hb); (try clear hb2); (try clear hk); (try clear hi)))
            go_ret2
            exact ⟨_, rq_, by first | exact Kd.R_nil _ _ _ _ _ | exact Kd.N_nil _ _ _ _ _ | exact Kd.V_nil _ _ _ _ _ | exact Kd.Q_nil _ _ _ _ _ | exact Kd.S_nil _ _ _ _ _, bg_⟩
           ·rw [if_neg c22] at H
            have c22b0 := decide_eq_false c22
            have c22b1 : decide (4 < (rdOf ByteArray.empty t275 x20_1).size) = false := decide_eq_false (by omega)
            clear c22
            obtain ⟨y291, hy291⟩ : ∃ y_ : List Int, y_ = (([(t289 / 256) % 256, (t289) % 256] : List Int)) := ⟨_, rfl⟩
            replace H : (if x6_1.length + y291.length < 140737488355328 then (ip_groups.l0 kj10 a1 (x6_1 ++ y291) t275 t275 (t275.length : Int) (wrap64 (x20_1 + 1))) else (none)) = some (r1, r2) := by first | (rw [hy291]; with_reducible exact H) | (have H2_ := (Option.bind_some _ _).symm.trans H; rw [hy291]; with_reducible exact H2_) | (have H2_ := (Option.bind_some _ _).symm.trans H; with_reducible exact H2_) | with_reducible exact H | (rw [hy291]; exact H) | exact H
            have Ny291 := Aside0.mk hy291
            clear hy291
            by_cases c24 : x6_1.length + y291.length < 140737488355328
            ·rw [if_pos c24] at H
             have LMc24 := Aside0.mk c24
             clear c24
             obtain ⟨y294, hy294⟩ : ∃ y_ : List Int, y_ = (x6_1 ++ y291) := ⟨_, rfl⟩
             replace H : (ip_groups.l0 kj10 a1 y294 t275 t275 (t275.length : Int) (wrap64 (x20_1 + 1))) = some (r1, r2) := by first | (rw [hy294]; with_reducible exact H) | (have H2_ := (Option.bind_some _ _).symm.trans H; rw [hy294]; with_reducible exact H2_) | (have H2_ := (Option.bind_some _ _).symm.trans H; with_reducible exact H2_) | with_reducible exact H | (rw [hy294]; exact H) | exact H
             have Ny294 := Aside0.mk hy294
             clear hy294
             have H' := Aside0.mk H
             clear H
             go_wp2_with (first | ((with_reducible refine gate_callee (f := 60) rfl ?_); refine goesL_ (some 46) rfl rfl Tryz.func60 (by kernel_rfl) rfl #[.string (rdOf ByteArray.empty t275 x20_1), .int .u64 16, .int .u64 65536] rfl lq_ ?_; (with_reducible refine (ip_number.calls kj10 (rdOf ByteArray.empty t275 x20_1) 16 65536 t289 true _ ?side1 A20.out).mono ?_); (case side1 => exact lg_); rintro e w25 ⟨rfl, hb⟩; refine ⟨_, rfl, ?_⟩; replace HO_6 := Aside0.mk (Kd.R_below (by (with_reducible repeat (first | apply Kd.R_alloc | apply Kd.R_drewN | apply Kd.R_drew)); exact HO_6.out) hb); replace HO_7 := Aside0.mk (Kd.R_below (by (with_reducible repeat (first | apply Kd.R_alloc | apply Kd.R_drewN | apply Kd.R_drew)); exact HO_7.out) hb); replace HO_18 := Aside0.mk (Kd.R_below (by (with_reducible repeat (first | apply Kd.R_alloc | apply Kd.R_drewN | apply Kd.R_drew)); exact HO_18.out) hb); replace BK284 := Aside0.mk (bb_ BK284 hb); replace HB := Aside0.mk (below_step bg_ hb); (try clear hb); (try clear hb2); (try clear hk); (try clear hi)) | ((with_reducible refine gate_dst (N := 62) rfl ?_); (try (refine gate_guard (by rfl) ?_; dsimp only)); refine Kd.R_lit (Kd.int .u8) _ 5 ?hg (N := 62) ?hd (xs := ([(t289 / 256) % 256, (t289) % 256] : List Int)) (inner := [.int .u8 ((t289 / 256) % 256), .int .u8 ((t289) % 256)]) (ok := fun _ => True) (okp := fun _ => True) ?hr ?hp (fun _ hk => hk) trivial (Below.refl _ _) (Nat.le_refl _) (by simp) ?_; (case hd => rfl); (case hg => rfl); (case hr => first | (go_simp; done) | (go_simp; rfl)); (case hp => exact (Reps.one (show Kd.M (Kd.int .u8) _ _ _ ((t289 / 256) % 256) [.int .u8 ((t289 / 256) % 256)] from rfl) (Reps.one (show Kd.M (Kd.int .u8) _ _ _ ((t289) % 256) [.int .u8 ((t289) % 256)] from rfl) (Reps.none _ _)))); intro v292 w26 ho27 hb hg_ hnew_; clear hg_ hnew_; (first | rw [← Ny291.out] at ho27 | (simp only [Int.reduceToNat] at ho27; rw [← Ny291.out] at ho27)); have n0_ := Aside0.mk (Kd.R_elder' (by (with_reducible repeat (first | apply Kd.R_alloc | apply Kd.R_drewN | apply Kd.R_drew)); exact HO_6.out) (Kd.R_base ho27) hb); have n1_ := Aside0.mk (Kd.R_below (by (with_reducible repeat (first | apply Kd.R_alloc | apply Kd.R_drewN | apply Kd.R_drew)); exact HO_7.out) hb); have n2_ := Aside0.mk (Kd.R_below (by (with_reducible repeat (first | apply Kd.R_alloc | apply Kd.R_drewN | apply Kd.R_drew)); exact HO_18.out) hb); have n3_ := Aside0.mk (Kd.R_lower (Kd.R_new' ho27 (Kd.R_lt (by (with_reducible repeat (first | apply Kd.R_alloc | apply Kd.R_drewN | apply Kd.R_drew)); exact HO_6.out))) (below_size bg_)); have n4_ := Aside0.mk (bb_ BK284 hb); have n5_ := Aside0.mk (below_step bg_ hb); clear HO_6; clear HO_7; clear HO_18; clear BK284; clear HB; have HO_6 := n0_; have HO_7 := n1_; have HO_18 := n2_; have HO293 := n3_; have BK284 := n4_; have HB := n5_; clear n0_ n1_ n2_ n3_ n4_ n5_; clear hb ho27; obtain ⟨Ao29, co29, eo29⟩ := Kd.R_slice HO293.out; subst eo29) | ((with_reducible refine gate_builtin (b := .append) (xs := #[.tmp 56, .tmp 62]) rfl ?_); (try (refine gate_guard (by rfl) ?_; dsimp only)); at_builtin; refine Kd.R_append_rows (Kd.int .u8) (w0 := w) w.heap.size rfl (.tmp 56) (.tmp 62) 60 5 (.int .u8 0) 1 rfl Tryz.underlying60 info5 rfl (by decide) (by omega) u6 x6_1 y291 _ _ _ (fun k_ => some k_ ≠ (.slice Ao29 y291.length co29 : Value).ownBlock) (fun _ => False) rfl rfl ?aO ?aR (fun _ _ h => h) (fun _ h => h.elim) ?aF ?aB ?aS ?aL ?_; (case aR => repeat (first | exact (Kd.R_reads' HO293.out).2.2 | (with_reducible refine Kd.C_alloc ?_ _) | (with_reducible refine Kd.C_drewN ?_ _) | (with_reducible refine Kd.C_drew ?_))); (case aB => exact bg_); (case aF => exact (fun k_ hk => Kd.fresh' (Kd.R_lt (by (with_reducible repeat (first | apply Kd.R_alloc | apply Kd.R_drewN | apply Kd.R_drew)); exact HO293.out)) k_ hk)); (case aO => exact (by (with_reducible repeat (first | apply Kd.R_alloc | apply Kd.R_drewN | apply Kd.R_drew)); exact Kd.R_mono HO_6.out (fun _ hk => hk.2))); (case aS => exact (below_size bg_)); (case aL => have := LMc24.out; omega); intro v295 w28 ho hb hg hat; rw [← Ny294.out] at ho; replace HO_7 := Aside0.mk (Kd.R_over' (by (with_reducible repeat (first | apply Kd.R_alloc | apply Kd.R_drewN | apply Kd.R_drew)); exact HO_7.out) (Kd.R_typed (by (with_reducible repeat (first | apply Kd.R_alloc | apply Kd.R_drewN | apply Kd.R_drew)); exact HO_6.out)) (by decide) hg); replace HO_18 := Aside0.mk (Kd.R_over' (by (with_reducible repeat (first | apply Kd.R_alloc | apply Kd.R_drewN | apply Kd.R_drew)); exact HO_18.out) (Kd.R_typed (by (with_reducible repeat (first | apply Kd.R_alloc | apply Kd.R_drewN | apply Kd.R_drew)); exact HO_6.out)) (by decide) hg); replace BK284 := Aside0.mk (blk_grown (g := gb284) (o := .cells #[.int .u8 t279, .int .u8 t280, .int .u8 t281, .int .u8 t282] 78 (0, 0)) bk_ hg (Kd.R_ne HO_6.out BK284.out (by decide))); replace HO293 := Aside0.mk (Kd.R_after (ok := (fun _ => True)) (by (with_reducible repeat (first | apply Kd.R_alloc | apply Kd.R_drewN | apply Kd.R_drew)); exact HO293.out) hg hat); have HO296 := Aside0.mk (ho); replace HB := Aside0.mk (hb); clear HO_6; clear ho hb hg hat))
             go_roundg kj10
             case measure => have := HK1.out; have := HJ10.out; omega
             case rel => exact ⟨(y294), (wrap64 (x20_1 + 1)), sq_, H', ⟨by have := HK1.out; have := HJ10.out; omega⟩, ⟨by (with_reducible repeat (first | apply Kd.R_alloc | apply Kd.R_drewN | apply Kd.R_drew)); exact Kd.R_mono HO296.out (fun _ hk => trivial)⟩, ⟨by (with_reducible repeat (first | apply Kd.R_alloc | apply Kd.R_drewN | apply Kd.R_drew)); exact HO_7.out⟩, ⟨by (with_reducible repeat (first | apply Kd.R_alloc | apply Kd.R_drewN | apply Kd.R_drew)); exact HO_18.out⟩, ⟨bg_⟩⟩
            ·rw [if_neg c24] at H
             exact absurd H (by simp)
          ·replace c21 := Bool.eq_false_iff.mpr c21
           subst c21
           replace H := ifF_ H
           simp only [Option.some.injEq, Prod.mk.injEq] at H
           obtain ⟨rfl, rfl⟩ := H
           go_wp2_with (first | ((with_reducible refine gate_callee (f := 60) rfl ?_); refine goesL_ (some 46) rfl rfl Tryz.func60 (by kernel_rfl) rfl #[.string (rdOf ByteArray.empty t275 x20_1), .int .u64 16, .int .u64 65536] rfl lq_ ?_; (with_reducible refine (ip_number.calls kj10 (rdOf ByteArray.empty t275 x20_1) 16 65536 t289 false _ ?side1 A20.out).mono ?_); (case side1 => exact lg_); rintro e w30 ⟨rfl, hb⟩; refine ⟨_, rfl, ?_⟩; replace HO_6 := Aside0.mk (Kd.R_below (by (with_reducible repeat (first | apply Kd.R_alloc | apply Kd.R_drewN | apply Kd.R_drew)); exact HO_6.out) hb); replace HO_7 := Aside0.mk (Kd.R_below (by (with_reducible repeat (first | apply Kd.R_alloc | apply Kd.R_drewN | apply Kd.R_drew)); exact HO_7.out) hb); replace HO_18 := Aside0.mk (Kd.R_below (by (with_reducible repeat (first | apply Kd.R_alloc | apply Kd.R_drewN | apply Kd.R_drew)); exact HO_18.out) hb); replace BK284 := Aside0.mk (bb_ BK284 hb); replace HB := Aside0.mk (below_step bg_ hb); (try clear hb); (try clear hb2); (try clear hk); (try clear hi)))
           go_ret2
           exact ⟨_, rq_, by first | exact Kd.R_nil _ _ _ _ _ | exact Kd.N_nil _ _ _ _ _ | exact Kd.V_nil _ _ _ _ _ | exact Kd.Q_nil _ _ _ _ _ | exact Kd.S_nil _ _ _ _ _, bg_⟩
      ·rw [if_neg c9] at H
       exact absurd H (by simp)
     ·rw [if_neg c8] at H
      exact absurd H (by simp)
    ·rw [if_neg c7] at H
     have c7b0 := decide_eq_false c7
     clear c7
     simp only [Option.some.injEq, Prod.mk.injEq] at H
     obtain ⟨rfl, rfl⟩ := H
     go_wp2
     go_ret2
     exact ⟨_, rq_, by (with_reducible repeat (first | apply Kd.R_alloc | apply Kd.R_drewN | apply Kd.R_drew)); exact HO_6.out, bq_⟩

end Go.Proofs.YtdopafhppaalfaaGreatDoor.P
