-- Written by a program of this session (wip/gen/lprint.py over the kit's print.py) out of the translation. Lean checks it.
import Derived.Test.YtdopafhppaalfaaDoorP0
import Derived.Test.YtdopafhppaalfaaDoorZ
namespace Go.Proofs.YtdopafhppaalfaaDoor.P
open Go.Proofs.YtdopafhppaalfaaDoorZ
open Go.Proofs.YtdopafhppaalfaaDoor.E Go.Proofs.YtdopafhppaalfaaDoorV
open Go.RowKit Go.Proofs.YtdopafhppaalfaaDoorW.PrintWords Go.Proofs.YtdopafhppaalfaaDoorW.PrintLast Go.Proofs.YtdopafhppaalfaaDoorW.PrintMore
attribute [local go_sem] max2_int min2_int max_two min_two max_three min_three max_four min_four   -- for this text's walks alone
set_option linter.unusedVariables false
set_option linter.unusedSimpArgs false

mutual
def ip_number.l0 : Nat → ByteArray → Int → Int → Int → Int → Option (Int × Bool)
 | 0, _, _, _, _, _ => none
 | k + 1, x0, x1, x2, x8, x9 => if x9 < (x0.size : Int) then (if 0 ≤ x9 then ((strings_IndexByte.f (⟨#[48, 49, 50, 51, 52, 53, 54, 55, 56, 57, 97, 98, 99, 100, 101, 102]⟩ : ByteArray) (Go.bits .or .u8 (bt x0 x9) 32)).bind fun t131 => (if (bt x0 x9) < 48 then (ip_number.j1 k x0 x1 x2 x8 x9 t131 true) else (if (bt x0 x9) > 57 then (if (bt x0 x9) < 65 then (ip_number.j1 k x0 x1 x2 x8 x9 t131 true) else (if t131 < 0 then (ip_number.j1 k x0 x1 x2 x8 x9 t131 true) else (ip_number.j1 k x0 x1 x2 x8 x9 t131 (decide ((IntKind.u64.wrap (t131)) ≥ x1))))) else (if t131 < 0 then (ip_number.j1 k x0 x1 x2 x8 x9 t131 true) else (ip_number.j1 k x0 x1 x2 x8 x9 t131 (decide ((IntKind.u64.wrap (t131)) ≥ x1))))))) else (none)) else (some (x8, (x0.toList != ([] : List UInt8))))
def ip_number.j1 : Nat → ByteArray → Int → Int → Int → Int → Int → Bool → Option (Int × Bool)
 | 0, _, _, _, _, _, _, _ => none
 | k + 1, x0, x1, x2, x8, x9, x10, x47 => if x47 = true then (some (0, false)) else (if (IntKind.u64.wrap ((IntKind.u64.wrap (x8 * x1)) + (IntKind.u64.wrap (x10)))) ≥ x2 then (some (0, false)) else (ip_number.l0 k x0 x1 x2 (IntKind.u64.wrap ((IntKind.u64.wrap (x8 * x1)) + (IntKind.u64.wrap (x10)))) (wrap64 (x9 + 1))))
end
def ip_number.f (k : Nat) (a0 : ByteArray) (a1 : Int) (a2 : Int) : Option (Int × Bool) := ip_number.l0 k a0 a1 a2 0 0
theorem ip_number.mono_l : ∀ k, (∀ y0 y1 y2 y3 y4, LeO (ip_number.l0 k y0 y1 y2 y3 y4) (ip_number.l0 (k + 1) y0 y1 y2 y3 y4)) ∧ (∀ y0 y1 y2 y3 y4 y5 y6, LeO (ip_number.j1 k y0 y1 y2 y3 y4 y5 y6) (ip_number.j1 (k + 1) y0 y1 y2 y3 y4 y5 y6))
 | 0 => ⟨fun _ _ _ _ _ r h => by simp [ip_number.l0] at h, fun _ _ _ _ _ _ _ r h => by simp [ip_number.j1] at h⟩
 | k + 1 => by
  obtain ⟨ih0, ih1⟩ := ip_number.mono_l k
  refine ⟨?_, ?_⟩
  ·intro y0 y1 y2 y3 y4
   unfold ip_number.l0
   repeat' first
   | (with_reducible exact ih0 _ _ _ _ _)
   | (with_reducible exact ih1 _ _ _ _ _ _ _)
   | (with_reducible exact LeO.refl _)
   | (with_reducible exact LeO.none _)
   | (with_reducible refine LeO.ite ?_ ?_)
   | (with_reducible refine LeO.bind ?_ (fun _ => ?_))
   | exact ih0 _ _ _ _ _
   | exact ih1 _ _ _ _ _ _ _
   | exact LeO.none _
   | refine LeO.ite ?_ ?_
   | refine LeO.bind ?_ (fun _ => ?_)
  ·intro y0 y1 y2 y3 y4 y5 y6
   unfold ip_number.j1
   repeat' first
   | (with_reducible exact ih0 _ _ _ _ _)
   | (with_reducible exact ih1 _ _ _ _ _ _ _)
   | (with_reducible exact LeO.refl _)
   | (with_reducible exact LeO.none _)
   | (with_reducible refine LeO.ite ?_ ?_)
   | (with_reducible refine LeO.bind ?_ (fun _ => ?_))
   | exact ih0 _ _ _ _ _
   | exact ih1 _ _ _ _ _ _ _
   | exact LeO.none _
   | refine LeO.ite ?_ ?_
   | refine LeO.bind ?_ (fun _ => ?_)
theorem ip_number.mono : ∀ a0 a1 a2 k, LeO (ip_number.f k a0 a1 a2) (ip_number.f (k + 1) a0 a1 a2) := by
 intro a0 a1 a2 k
 obtain ⟨ih0, ih1⟩ := ip_number.mono_l k
 unfold ip_number.f
 repeat' first
   | (with_reducible exact ih0 _ _ _ _ _)
   | (with_reducible exact ih1 _ _ _ _ _ _ _)
   | (with_reducible exact LeO.refl _)
   | (with_reducible exact LeO.none _)
   | (with_reducible refine LeO.ite ?_ ?_)
   | (with_reducible refine LeO.bind ?_ (fun _ => ?_))
   | exact ih0 _ _ _ _ _
   | exact ih1 _ _ _ _ _ _ _
   | exact LeO.none _
   | refine LeO.ite ?_ ?_
   | refine LeO.bind ?_ (fun _ => ?_)
set_option maxHeartbeats 8000000 in
set_option maxRecDepth 100000 in
theorem ip_number.calls (k : Nat) (a0 : ByteArray) (a1 : Int) (a2 : Int) (r1 : Int) (r2 : Bool) (w : World) (hLW : LW w) (h : ip_number.f k a0 a1 a2 = some (r1, r2)) :
  Calls Tryd.prog 64 #[.string a0, .int .u64 a1, .int .u64 a2] w fun e w' => e = .returned (.tuple #[.int .u64 r1, .bool r2]) ∧ Below w.heap.size w w' := by
 have HLW := Aside0.mk hLW
 clear hLW
 have HB := Aside0.mk (Below.refl w.heap.size w)
 have H := h
 unfold ip_number.f at H
 clear h
 have H' := Aside0.mk H
 clear H
 go_enter Tryd.func64, Tryd.ntmps64
 go_wp2
 go_loopg [8, 9] k (fun kq v8 v9 w' => ∃ (x8_1 : Int) (x9_1 : Int), v8 = .int .u64 x8_1 ∧ v9 = .int .i64 x9_1 ∧ Aside0 (ip_number.l0 kq a0 a1 a2 x8_1 x9_1 = some (r1, r2)) ∧ Aside0 (kq ≤ k) ∧ Aside0 (Below w.heap.size w w'))
 case atStart => exact ⟨(0), (0), sq_, sq_, H', ⟨Nat.le_refl _⟩, ⟨bq_⟩⟩
 case round =>
  clear H'
  try clear p2
  obtain ⟨x8_1, x9_1, rfl, rfl, HA, HK1, HB⟩ := hrel
  cases gk with
  | zero => exact absurd HA.out (by simp [ip_number.l0])
  | succ k1 =>
   have H := HA.out
   clear HA
   simp only [ip_number.l0] at H
   by_cases c4 : x9_1 < (a0.size : Int)
   ·rw [if_pos c4] at H
    have c4b0 := decide_eq_true c4
    clear c4
    by_cases c5 : 0 ≤ x9_1
    ·rw [if_pos c5] at H
     have c5b0 := decide_eq_true c5
     clear c5
     replace H := Option.bind_eq_some_iff.mp H
     obtain ⟨t131, A70, H⟩ := H
     (try dsimp only at H)
     have A7 := Aside0.mk A70
     clear A70
     have HC8 := Aside0.mk H
     clear H
     have p6 : 0 ≤ (x9_1 : Int) := of_decide_eq_true as_
     have q6 : x9_1 < (a0.size : Int) := of_decide_eq_true as_
     have hx6 := bt_at a0 x9_1
     replace p6 := eq_true p6
     replace q6 := eq_true q6
     go_upto_region 6 with (first | ((with_reducible refine gate_callee (f := 77) rfl ?_); refine goesL_ (some 21) rfl rfl Tryd.func77 (by kernel_rfl) rfl #[.string (⟨#[48, 49, 50, 51, 52, 53, 54, 55, 56, 57, 97, 98, 99, 100, 101, 102]⟩ : ByteArray), .int .u8 (Go.bits .or .u8 (bt a0 x9_1) 32)] rfl lq_ ?_; (with_reducible refine (strings_IndexByte.calls (⟨#[48, 49, 50, 51, 52, 53, 54, 55, 56, 57, 97, 98, 99, 100, 101, 102]⟩ : ByteArray) (Go.bits .or .u8 (bt a0 x9_1) 32) t131 _ ?side1 A7.out).mono ?_); (case side1 => exact lw_); rintro e w9 ⟨rfl, hb⟩; refine ⟨_, rfl, ?_⟩; replace HB := Aside0.mk (below_step bq_ hb); (try clear hb); (try clear hb2); (try clear hk); (try clear hi)))
     (try simp only [Act.put, List.setIfInBounds_toArray, List.set_cons_zero, List.set_cons_succ])
     go_cut [47] (fun v47 wc => ∃ (kq : Nat) (x47_7 : Bool), v47 = .bool x47_7 ∧ Aside0 (ip_number.j1 kq a0 a1 a2 x8_1 x9_1 t131 x47_7 = some (r1, r2)) ∧ Aside0 (kq ≤ k1) ∧ Aside0 (Below w.heap.size w wc))
     case first =>
      have H := HC8.out
      clear HC8
      by_cases c11 : (bt a0 x9_1) < 48
      ·rw [if_pos c11] at H
       have c11b0 := decide_eq_true c11
       clear c11
       (first | rw [c11b0] | (simp only [i64_w, i32_w]; rw [c11b0]) | skip)
       have H' := Aside0.mk H
       clear H
       have p10 : 0 ≤ (x9_1 : Int) := of_decide_eq_true as_
       have q10 : x9_1 < (a0.size : Int) := of_decide_eq_true as_
       have hx10 := bt_at a0 x9_1
       replace p10 := eq_true p10
       replace q10 := eq_true q10
       go_wp2
       go_meet
       case rel => exact ⟨_, (true), sq_, H', ⟨by have := HK1.out; first | omega | exact Nat.le_refl _⟩, ⟨bq_⟩⟩
      ·rw [if_neg c11] at H
       have c11b0 := decide_eq_false c11
       clear c11
       (first | rw [c11b0] | (simp only [i64_w, i32_w]; rw [c11b0]) | skip)
       by_cases c13 : (bt a0 x9_1) > 57
       ·rw [if_pos c13] at H
        have c13b0 := decide_eq_true c13
        clear c13
        by_cases c15 : (bt a0 x9_1) < 65
        ·rw [if_pos c15] at H
         have c15b0 := decide_eq_true c15
         clear c15
         have H' := Aside0.mk H
         clear H
         have p10 : 0 ≤ (x9_1 : Int) := of_decide_eq_true as_
         have q10 : x9_1 < (a0.size : Int) := of_decide_eq_true as_
         have hx10 := bt_at a0 x9_1
         replace p10 := eq_true p10
         replace q10 := eq_true q10
         have p12 : 0 ≤ (x9_1 : Int) := of_decide_eq_true as_
         have q12 : x9_1 < (a0.size : Int) := of_decide_eq_true as_
         have hx12 := bt_at a0 x9_1
         replace p12 := eq_true p12
         replace q12 := eq_true q12
         have p14 : 0 ≤ (x9_1 : Int) := of_decide_eq_true as_
         have q14 : x9_1 < (a0.size : Int) := of_decide_eq_true as_
         have hx14 := bt_at a0 x9_1
         replace p14 := eq_true p14
         replace q14 := eq_true q14
         go_wp2
         go_meet
         case rel => exact ⟨_, (true), sq_, H', ⟨by have := HK1.out; first | omega | exact Nat.le_refl _⟩, ⟨bq_⟩⟩
        ·rw [if_neg c15] at H
         have c15b0 := decide_eq_false c15
         clear c15
         by_cases c16 : t131 < 0
         ·rw [if_pos c16] at H
          have c16b0 := decide_eq_true c16
          clear c16
          have H' := Aside0.mk H
          clear H
          have p10 : 0 ≤ (x9_1 : Int) := of_decide_eq_true as_
          have q10 : x9_1 < (a0.size : Int) := of_decide_eq_true as_
          have hx10 := bt_at a0 x9_1
          replace p10 := eq_true p10
          replace q10 := eq_true q10
          have p12 : 0 ≤ (x9_1 : Int) := of_decide_eq_true as_
          have q12 : x9_1 < (a0.size : Int) := of_decide_eq_true as_
          have hx12 := bt_at a0 x9_1
          replace p12 := eq_true p12
          replace q12 := eq_true q12
          have p14 : 0 ≤ (x9_1 : Int) := of_decide_eq_true as_
          have q14 : x9_1 < (a0.size : Int) := of_decide_eq_true as_
          have hx14 := bt_at a0 x9_1
          replace p14 := eq_true p14
          replace q14 := eq_true q14
          go_wp2
          go_meet
          case rel => exact ⟨_, (true), sq_, H', ⟨by have := HK1.out; first | omega | exact Nat.le_refl _⟩, ⟨bq_⟩⟩
         ·rw [if_neg c16] at H
          have c16b0 := decide_eq_false c16
          clear c16
          have H' := Aside0.mk H
          clear H
          have p10 : 0 ≤ (x9_1 : Int) := of_decide_eq_true as_
          have q10 : x9_1 < (a0.size : Int) := of_decide_eq_true as_
          have hx10 := bt_at a0 x9_1
          replace p10 := eq_true p10
          replace q10 := eq_true q10
          have p12 : 0 ≤ (x9_1 : Int) := of_decide_eq_true as_
          have q12 : x9_1 < (a0.size : Int) := of_decide_eq_true as_
          have hx12 := bt_at a0 x9_1
          replace p12 := eq_true p12
          replace q12 := eq_true q12
          have p14 : 0 ≤ (x9_1 : Int) := of_decide_eq_true as_
          have q14 : x9_1 < (a0.size : Int) := of_decide_eq_true as_
          have hx14 := bt_at a0 x9_1
          replace p14 := eq_true p14
          replace q14 := eq_true q14
          go_wp2
          go_meet
          case rel => exact ⟨_, (decide ((IntKind.u64.wrap (t131)) ≥ a1)), sq_, H', ⟨by have := HK1.out; first | omega | exact Nat.le_refl _⟩, ⟨bq_⟩⟩
       ·rw [if_neg c13] at H
        have c13b0 := decide_eq_false c13
        clear c13
        by_cases c17 : t131 < 0
        ·rw [if_pos c17] at H
         have c17b0 := decide_eq_true c17
         clear c17
         have H' := Aside0.mk H
         clear H
         have p10 : 0 ≤ (x9_1 : Int) := of_decide_eq_true as_
         have q10 : x9_1 < (a0.size : Int) := of_decide_eq_true as_
         have hx10 := bt_at a0 x9_1
         replace p10 := eq_true p10
         replace q10 := eq_true q10
         have p12 : 0 ≤ (x9_1 : Int) := of_decide_eq_true as_
         have q12 : x9_1 < (a0.size : Int) := of_decide_eq_true as_
         have hx12 := bt_at a0 x9_1
         replace p12 := eq_true p12
         replace q12 := eq_true q12
         go_wp2
         go_meet
         case rel => exact ⟨_, (true), sq_, H', ⟨by have := HK1.out; first | omega | exact Nat.le_refl _⟩, ⟨bq_⟩⟩
        ·rw [if_neg c17] at H
         have c17b0 := decide_eq_false c17
         clear c17
         have H' := Aside0.mk H
         clear H
         have p10 : 0 ≤ (x9_1 : Int) := of_decide_eq_true as_
         have q10 : x9_1 < (a0.size : Int) := of_decide_eq_true as_
         have hx10 := bt_at a0 x9_1
         replace p10 := eq_true p10
         replace q10 := eq_true q10
         have p12 : 0 ≤ (x9_1 : Int) := of_decide_eq_true as_
         have q12 : x9_1 < (a0.size : Int) := of_decide_eq_true as_
         have hx12 := bt_at a0 x9_1
         replace p12 := eq_true p12
         replace q12 := eq_true q12
         go_wp2
         go_meet
         case rel => exact ⟨_, (decide ((IntKind.u64.wrap (t131)) ≥ a1)), sq_, H', ⟨by have := HK1.out; first | omega | exact Nat.le_refl _⟩, ⟨bq_⟩⟩
     case rest =>
      clear HC8
      try clear c1
      try clear p1
      try clear q1
      try clear hx1
      try clear p2
      try clear c4
      try clear c4b0
      try clear c5
      try clear c5b0
      try clear c6
      try clear p6
      try clear q6
      try clear hx6
      try clear c7
      try clear p10
      try clear q10
      try clear hx10
      try clear c11
      try clear c11b0
      try clear p12
      try clear q12
      try clear hx12
      try clear c13
      try clear c13b0
      try clear p14
      try clear q14
      try clear hx14
      try clear c15
      try clear c15b0
      try clear c16
      try clear c16b0
      try clear c17
      try clear c17b0
      try clear p10
      try clear p12
      try clear p14
      try clear p2
      try clear p6
      try clear q10
      try clear q12
      try clear q14
      try clear q6
      obtain ⟨kq, x47_7, rfl, HA, HJ7, HB⟩ := hcut
      cases kq with
      | zero => exact absurd HA.out (by simp [ip_number.j1])
      | succ kj7 =>
       have H := HA.out
       clear HA
       simp only [ip_number.j1] at H
       by_cases c18 : x47_7 = true
       ·subst c18
        replace H := ifT_ H
        simp only [Option.some.injEq, Prod.mk.injEq] at H
        obtain ⟨rfl, rfl⟩ := H
        go_wp2
        go_ret2
        exact ⟨rq_, bq_⟩
       ·replace c18 := Bool.eq_false_iff.mpr c18
        subst c18
        replace H := ifF_ H
        by_cases c19 : (IntKind.u64.wrap ((IntKind.u64.wrap (x8_1 * a1)) + (IntKind.u64.wrap (t131)))) ≥ a2
        ·rw [if_pos c19] at H
         have c19b0 := decide_eq_true c19
         clear c19
         simp only [Option.some.injEq, Prod.mk.injEq] at H
         obtain ⟨rfl, rfl⟩ := H
         go_wp2
         go_ret2
         exact ⟨rq_, bq_⟩
        ·rw [if_neg c19] at H
         have c19b0 := decide_eq_false c19
         clear c19
         have H' := Aside0.mk H
         clear H
         go_wp2
         go_roundg kj7
         case measure => have := HK1.out; have := HJ7.out; omega
         case rel => exact ⟨(IntKind.u64.wrap ((IntKind.u64.wrap (x8_1 * a1)) + (IntKind.u64.wrap (t131)))), (wrap64 (x9_1 + 1)), sq_, sq_, H', ⟨by have := HK1.out; have := HJ7.out; omega⟩, ⟨bq_⟩⟩
    ·rw [if_neg c5] at H
     exact absurd H (by simp)
   ·rw [if_neg c4] at H
    have c4b0 := decide_eq_false c4
    clear c4
    simp only [Option.some.injEq, Prod.mk.injEq] at H
    obtain ⟨rfl, rfl⟩ := H
    go_wp2
    go_ret2
    exact ⟨rq_, bq_⟩

def ip_four.l0 : Nat → List ByteArray → Int → Int → Int → Int → Int → Int → Option (Int × Int × Int × Int × Bool)
 | 0, _, _, _, _, _, _, _ => none
 | k + 1, x16, x17, x18, V4, V5, V6, V7 => if x18 < x17 then (if 0 ≤ x18 then (if x18 < (x16.length : Int) then ((ip_number.f k (rdOf ByteArray.empty x16 x18) 10 256).bind fun bt138 => (if bt138.2 = true then (if ((rdOf ByteArray.empty x16 x18).size : Int) > 1 then (if 0 < ((rdOf ByteArray.empty x16 x18).size : Int) then (if (bt (rdOf ByteArray.empty x16 x18) 0) = 48 then (none) else (if x18 < 4 then (ip_four.l0 k x16 x17 (wrap64 (x18 + 1)) (upd x18 0 ((bt138.1) % 256) V4) (upd x18 1 ((bt138.1) % 256) V5) (upd x18 2 ((bt138.1) % 256) V6) (upd x18 3 ((bt138.1) % 256) V7)) else (none))) else (none)) else (if x18 < 4 then (ip_four.l0 k x16 x17 (wrap64 (x18 + 1)) (upd x18 0 ((bt138.1) % 256) V4) (upd x18 1 ((bt138.1) % 256) V5) (upd x18 2 ((bt138.1) % 256) V6) (upd x18 3 ((bt138.1) % 256) V7)) else (none))) else (none))) else (none)) else (none)) else (some (V4, V5, V6, V7, true))
def ip_four.f (k : Nat) (a0 : ByteArray) : Option (Int × Int × Int × Int × Bool) := (strings_Split.f a0 (⟨#[46]⟩ : ByteArray)).bind fun t134 => (if (t134.length : Int) = 4 then (ip_four.l0 k t134 (t134.length : Int) 0 0 0 0 0) else (some (0, 0, 0, 0, false)))
theorem ip_four.mono_l : ∀ k, (∀ y0 y1 y2 y3 y4 y5 y6, LeO (ip_four.l0 k y0 y1 y2 y3 y4 y5 y6) (ip_four.l0 (k + 1) y0 y1 y2 y3 y4 y5 y6))
 | 0 => fun _ _ _ _ _ _ _ r h => by simp [ip_four.l0] at h
 | k + 1 => by
  have ih0 := ip_four.mono_l k
  ·intro y0 y1 y2 y3 y4 y5 y6
   unfold ip_four.l0
   repeat' first
   | (with_reducible exact ih0 _ _ _ _ _ _ _)
   | (with_reducible exact ip_number.mono _ _ _ _)
   | (with_reducible exact LeO.refl _)
   | (with_reducible exact LeO.none _)
   | (with_reducible refine LeO.ite ?_ ?_)
   | (with_reducible refine LeO.bind ?_ (fun _ => ?_))
   | exact ih0 _ _ _ _ _ _ _
   | exact ip_number.mono _ _ _ _
   | exact LeO.none _
   | refine LeO.ite ?_ ?_
   | refine LeO.bind ?_ (fun _ => ?_)
theorem ip_four.mono : ∀ a0 k, LeO (ip_four.f k a0) (ip_four.f (k + 1) a0) := by
 intro a0 k
 have ih0 := ip_four.mono_l k
 unfold ip_four.f
 repeat' first
   | (with_reducible exact ih0 _ _ _ _ _ _ _)
   | (with_reducible exact ip_number.mono _ _ _ _)
   | (with_reducible exact LeO.refl _)
   | (with_reducible exact LeO.none _)
   | (with_reducible refine LeO.ite ?_ ?_)
   | (with_reducible refine LeO.bind ?_ (fun _ => ?_))
   | exact ih0 _ _ _ _ _ _ _
   | exact ip_number.mono _ _ _ _
   | exact LeO.none _
   | refine LeO.ite ?_ ?_
   | refine LeO.bind ?_ (fun _ => ?_)
set_option maxHeartbeats 8000000 in
set_option maxRecDepth 100000 in
theorem ip_four.calls (k : Nat) (a0 : ByteArray) (r1 : Int) (r2 : Int) (r3 : Int) (r4 : Int) (r5 : Bool) (w : World) (hLW : LW w) (h : ip_four.f k a0 = some (r1, r2, r3, r4, r5)) :
  Calls Tryd.prog 53 #[.string a0] w fun e w' => e = .returned (.tuple #[.agg #[.int .u8 r1, .int .u8 r2, .int .u8 r3, .int .u8 r4], .bool r5]) ∧ Below w.heap.size w w' := by
 have hu85 := Tryd.underlying85
 have HLW := Aside0.mk hLW
 clear hLW
 have HB := Aside0.mk (Below.refl w.heap.size w)
 have H := h
 unfold ip_four.f at H
 clear h
 replace H := Option.bind_eq_some_iff.mp H
 obtain ⟨t134, A20, H⟩ := H
 (try dsimp only at H)
 have A2 := Aside0.mk A20
 clear A20
 by_cases c3 : (t134.length : Int) = 4
 ·rw [if_pos c3] at H
  have c3b0 := beq_iff_eq.mpr c3
  have c3b1 := bne_eq_false_iff_eq.mpr c3
  clear c3
  have H' := Aside0.mk H
  clear H
  go_enter Tryd.func53, Tryd.ntmps53
  go_wp2_with (first | ((with_reducible refine gate_dst (N := 2) rfl ?_); (try (refine gate_guard (by rfl) ?_; dsimp only)); refine bx_ 2 #[.int .u8 0, .int .u8 0, .int .u8 0, .int .u8 0] 85 ?_; intro gb132 hg w4 hbox hb; have BK132 := Aside0.mk (hbox); have GW132 := Aside0.mk (ge_ (w := w) hg); have GE132 := Aside0.mk (ge_ (w := w) hg); replace HB := Aside0.mk (below_step bq_ hb); clear hb hbox hg) | ((with_reducible refine gate_dst (N := 4) rfl ?_); (try (refine gate_guard (by rfl) ?_; dsimp only)); refine bx_ 4 #[.int .u8 0, .int .u8 0, .int .u8 0, .int .u8 0] 85 ?_; intro gb133 hg w5 hbox hb; have n0_ := Aside0.mk (bb_ BK132 hb); have n1_ := Aside0.mk (below_step bg_ hb); have n2_ := Aside0.mk (hbox); have n3_ := Aside0.mk (gg_ (w := w) hg); have n4_ := Aside0.mk (gg_ (w := w) hg); have n5_ := Aside0.mk (nl_ BK132 hg); have n6_ := Aside0.mk (ng_ BK132 hg); clear BK132; clear HB; have BK132 := n0_; have HB := n1_; have BK133 := n2_; have GW133 := n3_; have GE133 := n4_; have NB132_133 := n5_; have NB133_132 := n6_; clear n0_ n1_ n2_ n3_ n4_ n5_ n6_; clear hb hbox hg) | ((with_reducible refine gate_callee (f := 29) rfl ?_); refine goesL_ (some 11) rfl rfl Tryd.func29 (by kernel_rfl) rfl #[.string a0, .string (⟨#[46]⟩ : ByteArray)] rfl lq_ ?_; (with_reducible refine (strings_Split.calls a0 (⟨#[46]⟩ : ByteArray) t134 _ ?side1 A2.out).mono ?_); (case side1 => exact lg_); rintro e w6 ⟨v135, rfl, ho0, hb⟩; refine ⟨_, rfl, ?_⟩; have HO136 := Aside0.mk (Kd.R_lower ho0 (below_size bg_)); replace BK132 := Aside0.mk (bb_ BK132 hb); replace BK133 := Aside0.mk (bb_ BK133 hb); replace HB := Aside0.mk (below_step bg_ hb); (try clear hb); (try clear hb2); (try clear hk); (try clear hi); (try clear ho0); obtain ⟨Ao7, co7, eo7⟩ := Kd.R_slice HO136.out; subst eo7))
  go_loopg [18] k (fun kq v18 w' => ∃ (x18_1 : Int) (V0_1 : Int) (V1_1 : Int) (V2_1 : Int) (V3_1 : Int) (V4_1 : Int) (V5_1 : Int) (V6_1 : Int) (V7_1 : Int), v18 = .int .i64 x18_1 ∧ Aside0 (ip_four.l0 kq t134 (t134.length : Int) x18_1 V4_1 V5_1 V6_1 V7_1 = some (r1, r2, r3, r4, r5)) ∧ Aside0 (kq ≤ k) ∧ Aside0 (Kd.R Kd.string 9 w' w.heap.size (fun _ => True) (.slice Ao7 t134.length co7) t134) ∧ Aside0 (w'.heap[gb132]? = some (.cells #[.int .u8 V0_1, .int .u8 V1_1, .int .u8 V2_1, .int .u8 V3_1] 85 (0, 0))) ∧ Aside0 (w'.heap[gb133]? = some (.cells #[.int .u8 V4_1, .int .u8 V5_1, .int .u8 V6_1, .int .u8 V7_1] 85 (0, 0))) ∧ Aside0 (Below w.heap.size w w'))
  case atStart => exact ⟨(0), (0), (0), (0), (0), (0), (0), (0), (0), sq_, H', ⟨Nat.le_refl _⟩, ⟨by (with_reducible repeat (first | apply Kd.R_alloc | apply Kd.R_drewN | apply Kd.R_drew)); exact HO136.out⟩, ⟨bk_⟩, ⟨bk_⟩, ⟨bg_⟩⟩
  case round =>
   clear H'
   try clear c2
   try clear p2
   try clear c3
   try clear c3b0
   try clear c3b1
   try clear c5
   obtain ⟨x18_1, V0_1, V1_1, V2_1, V3_1, V4_1, V5_1, V6_1, V7_1, rfl, HA, HK1, HO_16, BK132, BK133, HB⟩ := hrel
   cases gk with
   | zero => exact absurd HA.out (by simp [ip_four.l0])
   | succ k1 =>
    have H := HA.out
    clear HA
    simp only [ip_four.l0] at H
    by_cases c8 : x18_1 < (t134.length : Int)
    ·rw [if_pos c8] at H
     have c8b0 := decide_eq_true c8
     clear c8
     by_cases c9 : 0 ≤ x18_1
     ·rw [if_pos c9] at H
      have c9b0 := decide_eq_true c9
      clear c9
      by_cases c10 : x18_1 < (t134.length : Int)
      ·rw [if_pos c10] at H
       have c10b0 := decide_eq_true c10
       clear c10
       replace H := Option.bind_eq_some_iff.mp H
       obtain ⟨⟨t138, t139⟩, A110, H⟩ := H
       (try dsimp only at H)
       have A11 := Aside0.mk A110
       clear A110
       by_cases c12 : t139 = true
       ·subst c12
        replace H := ifT_ H
        by_cases c13 : ((rdOf ByteArray.empty t134 x18_1).size : Int) > 1
        ·rw [if_pos c13] at H
         have c13b0 := decide_eq_true c13
         have c13b1 : decide (1 < (rdOf ByteArray.empty t134 x18_1).size) = true := decide_eq_true (by omega)
         clear c13
         by_cases c14 : 0 < ((rdOf ByteArray.empty t134 x18_1).size : Int)
         ·rw [if_pos c14] at H
          have c14b0 := decide_eq_true c14
          have c14b1 : decide (0 < (rdOf ByteArray.empty t134 x18_1).size) = true := decide_eq_true (by omega)
          clear c14
          by_cases c16 : (bt (rdOf ByteArray.empty t134 x18_1) 0) = 48
          ·rw [if_pos c16] at H
           exact absurd H (by simp)
          ·rw [if_neg c16] at H
           have c16b0 := beq_eq_false_iff_ne.mpr c16
           have c16b1 := bne_iff_ne.mpr c16
           by_cases c17 : x18_1 < 4
           ·rw [if_pos c17] at H
            have c17b0 := decide_eq_true c17
            clear c17
            have H' := Aside0.mk H
            clear H
            have p137 : 0 ≤ (x18_1 : Int) := of_decide_eq_true as_
            have q137 : x18_1 < (t134.length : Int) := of_decide_eq_true as_
            obtain ⟨ad137, e137, hx137_0⟩ := Kd.at_string (Kd.R_reads' HO_16.out).2.2 x18_1 p137 q137
            cases e137
            replace p137 := eq_true p137
            replace q137 := eq_true q137
            go_wp2_with (first | ((with_reducible refine gate_callee (f := 64) rfl ?_); refine goesL_ (some 25) rfl rfl Tryd.func64 (by kernel_rfl) rfl #[.string (rdOf ByteArray.empty t134 x18_1), .int .u64 10, .int .u64 256] rfl lq_ ?_; (with_reducible refine (ip_number.calls k1 (rdOf ByteArray.empty t134 x18_1) 10 256 t138 true _ ?side1 A11.out).mono ?_); (case side1 => exact lg_); rintro e w18 ⟨rfl, hb⟩; refine ⟨_, rfl, ?_⟩; replace HO_16 := Aside0.mk (Kd.R_below (by (with_reducible repeat (first | apply Kd.R_alloc | apply Kd.R_drewN | apply Kd.R_drew)); exact HO_16.out) hb); replace BK132 := Aside0.mk (bb_ BK132 hb); replace BK133 := Aside0.mk (bb_ BK133 hb); replace HB := Aside0.mk (below_step bg_ hb); (try clear hb); (try clear hb2); (try clear hk); (try clear hi); have p15 : 0 ≤ (0 : Int) := (by omega); have q15 : 0 < (rdOf ByteArray.empty t134 x18_1).size := (by have : (0 : Int) < ((rdOf ByteArray.empty t134 x18_1).size : Int) := of_decide_eq_true as_; omega); have hx15 : ∀ h : 0 < (rdOf ByteArray.empty t134 x18_1).size, (((rdOf ByteArray.empty t134 x18_1)[0]'h).toNat : Int) = bt (rdOf ByteArray.empty t134 x18_1) 0 := bt_at (rdOf ByteArray.empty t134 x18_1) 0; clear p15; have qi15 : (0 < ((rdOf ByteArray.empty t134 x18_1).size : Int)) = True := eq_true (of_decide_eq_true as_); replace q15 := eq_true q15; have par19 : (0 ≤ x18_1) = True := eq_true (of_decide_eq_true as_); have qar19 : (x18_1 < 4) = True := eq_true (of_decide_eq_true as_); have hnb20 := NB133_132.out; have hnc20 := NB132_133.out; have hcz21_0 := cz_ BK133 0 (.int .u8 V4_1); have hcz21_1 := cz_ BK133 1 (.int .u8 V5_1); have hcz21_2 := cz_ BK133 2 (.int .u8 V6_1); have hcz21_3 := cz_ BK133 3 (.int .u8 V7_1); have hfz21_0 := bf_ BK133 0; have hfz21_1 := bf_ BK133 1; have hfz21_2 := bf_ BK133 2; have hfz21_3 := bf_ BK133 3; have hxar19 : w18.cell? ⟨gb133, (x18_1).toNat, none⟩ = some (.int .u8 (rd [V4_1, V5_1, V6_1, V7_1] x18_1)) := (blk_idx BK133.out .u8 [] [V4_1, V5_1, V6_1, V7_1] [] rfl x18_1 (of_decide_eq_true as_) (of_decide_eq_true as_) (Nat.zero_add _).symm); have hfar19 := bf_ BK133 ((x18_1).toNat)) | ((with_reducible refine gate_store (t := 5) (p := 44) rfl ?_); refine store_event (t := 5) (p := 44) (v := ?vo_w22) (w1 := (w18.setCell ⟨gb133, (x18_1).toNat, none⟩ (.int .u8 ((t138) % 256)))) ?hg ?ho ?hn ?hr ?_; (case ho => rfl); (case hg => rfl); (case hn => rfl); (case hr => first | (go_simp; done) | (go_simp; rfl)); intro w22 hw; have n0_ : Aside0 (Kd.R Kd.string 9 w22 w.heap.size (fun _ => True) (.slice (some ad137) t134.length co7) t134) := ⟨(by rw [hw]; exact (by (with_reducible repeat (first | apply Kd.R_alloc | apply Kd.R_drewN | apply Kd.R_drew)); exact Kd.R_mono (Kd.R_far (p := ⟨gb133, (x18_1).toNat, none⟩) (Kd.R_types HO_16.out BK133.out (by decide)) (fun _ hk => hk.2) (.int .u8 ((t138) % 256))) (fun _ hk => trivial)))⟩; have n1_ : Aside0 (w22.heap[gb132]? = some (.cells #[.int .u8 V0_1, .int .u8 V1_1, .int .u8 V2_1, .int .u8 V3_1] 85 (0, 0))) := ⟨(by rw [hw]; exact (by (with_reducible repeat (first | refine blk_drewN ?_ _ | refine blk_drew ?_ | refine blk_alloc ?_ _)); refine blk_far ?_ NB132_133.out _; (with_reducible repeat (first | refine blk_drewN ?_ _ | refine blk_drew ?_ | refine blk_alloc ?_ _)); exact BK132.out))⟩; have n2_ : Aside0 (w22.heap[gb133]? = some (.cells #[.int .u8 (upd x18_1 0 ((t138) % 256) V4_1), .int .u8 (upd x18_1 1 ((t138) % 256) V5_1), .int .u8 (upd x18_1 2 ((t138) % 256) V6_1), .int .u8 (upd x18_1 3 ((t138) % 256) V7_1)] 85 (0, 0))) := ⟨(by rw [hw]; exact (by (with_reducible repeat (first | refine blk_drewN ?_ _ | refine blk_drew ?_ | refine blk_alloc ?_ _)); refine blk_put (cs := #[.int .u8 V4_1, .int .u8 V5_1, .int .u8 V6_1, .int .u8 V7_1]) ?_ ((x18_1).toNat) _ (upd_set .u8 [] [V4_1, V5_1, V6_1, V7_1] [] rfl x18_1 (of_decide_eq_true as_) (of_decide_eq_true as_) (Nat.zero_add _).symm _ rfl); (with_reducible repeat (first | refine blk_drewN ?_ _ | refine blk_drew ?_ | refine blk_alloc ?_ _)); exact BK133.out))⟩; have n3_ : Aside0 (Below w.heap.size w w22) := ⟨(by rw [hw]; exact bg_)⟩; clear hw; clear HO_16; clear BK132; clear BK133; clear HB; have HO_16 := n0_; have BK132 := n1_; have BK133 := n2_; have HB := n3_; clear n0_ n1_ n2_ n3_))
            go_roundg k1
            case measure => have := HK1.out; omega
            case rel => exact ⟨(wrap64 (x18_1 + 1)), (V0_1), (V1_1), (V2_1), (V3_1), (upd x18_1 0 ((t138) % 256) V4_1), (upd x18_1 1 ((t138) % 256) V5_1), (upd x18_1 2 ((t138) % 256) V6_1), (upd x18_1 3 ((t138) % 256) V7_1), sq_, H', ⟨by have := HK1.out; omega⟩, ⟨by (with_reducible repeat (first | apply Kd.R_alloc | apply Kd.R_drewN | apply Kd.R_drew)); exact HO_16.out⟩, ⟨bk_⟩, ⟨bk_⟩, ⟨bg_⟩⟩
           ·rw [if_neg c17] at H
            exact absurd H (by simp)
         ·rw [if_neg c14] at H
          exact absurd H (by simp)
        ·rw [if_neg c13] at H
         have c13b0 := decide_eq_false c13
         have c13b1 : decide (1 < (rdOf ByteArray.empty t134 x18_1).size) = false := decide_eq_false (by omega)
         clear c13
         by_cases c23 : x18_1 < 4
         ·rw [if_pos c23] at H
          have c23b0 := decide_eq_true c23
          clear c23
          have H' := Aside0.mk H
          clear H
          have p137 : 0 ≤ (x18_1 : Int) := of_decide_eq_true as_
          have q137 : x18_1 < (t134.length : Int) := of_decide_eq_true as_
          obtain ⟨ad137, e137, hx137_0⟩ := Kd.at_string (Kd.R_reads' HO_16.out).2.2 x18_1 p137 q137
          cases e137
          replace p137 := eq_true p137
          replace q137 := eq_true q137
          go_wp2_with (first | ((with_reducible refine gate_callee (f := 64) rfl ?_); refine goesL_ (some 25) rfl rfl Tryd.func64 (by kernel_rfl) rfl #[.string (rdOf ByteArray.empty t134 x18_1), .int .u64 10, .int .u64 256] rfl lq_ ?_; (with_reducible refine (ip_number.calls k1 (rdOf ByteArray.empty t134 x18_1) 10 256 t138 true _ ?side1 A11.out).mono ?_); (case side1 => exact lg_); rintro e w24 ⟨rfl, hb⟩; refine ⟨_, rfl, ?_⟩; replace HO_16 := Aside0.mk (Kd.R_below (by (with_reducible repeat (first | apply Kd.R_alloc | apply Kd.R_drewN | apply Kd.R_drew)); exact HO_16.out) hb); replace BK132 := Aside0.mk (bb_ BK132 hb); replace BK133 := Aside0.mk (bb_ BK133 hb); replace HB := Aside0.mk (below_step bg_ hb); (try clear hb); (try clear hb2); (try clear hk); (try clear hi); have par25 : (0 ≤ x18_1) = True := eq_true (of_decide_eq_true as_); have qar25 : (x18_1 < 4) = True := eq_true (of_decide_eq_true as_); have hnb26 := NB133_132.out; have hnc26 := NB132_133.out; have hcz27_0 := cz_ BK133 0 (.int .u8 V4_1); have hcz27_1 := cz_ BK133 1 (.int .u8 V5_1); have hcz27_2 := cz_ BK133 2 (.int .u8 V6_1); have hcz27_3 := cz_ BK133 3 (.int .u8 V7_1); have hfz27_0 := bf_ BK133 0; have hfz27_1 := bf_ BK133 1; have hfz27_2 := bf_ BK133 2; have hfz27_3 := bf_ BK133 3; have hxar25 : w24.cell? ⟨gb133, (x18_1).toNat, none⟩ = some (.int .u8 (rd [V4_1, V5_1, V6_1, V7_1] x18_1)) := (blk_idx BK133.out .u8 [] [V4_1, V5_1, V6_1, V7_1] [] rfl x18_1 (of_decide_eq_true as_) (of_decide_eq_true as_) (Nat.zero_add _).symm); have hfar25 := bf_ BK133 ((x18_1).toNat)) | ((with_reducible refine gate_store (t := 5) (p := 44) rfl ?_); refine store_event (t := 5) (p := 44) (v := ?vo_w28) (w1 := (w24.setCell ⟨gb133, (x18_1).toNat, none⟩ (.int .u8 ((t138) % 256)))) ?hg ?ho ?hn ?hr ?_; (case ho => rfl); (case hg => rfl); (case hn => rfl); (case hr => first | (go_simp; done) | (go_simp; rfl)); intro w28 hw; have n0_ : Aside0 (Kd.R Kd.string 9 w28 w.heap.size (fun _ => True) (.slice (some ad137) t134.length co7) t134) := ⟨(by rw [hw]; exact (by (with_reducible repeat (first | apply Kd.R_alloc | apply Kd.R_drewN | apply Kd.R_drew)); exact Kd.R_mono (Kd.R_far (p := ⟨gb133, (x18_1).toNat, none⟩) (Kd.R_types HO_16.out BK133.out (by decide)) (fun _ hk => hk.2) (.int .u8 ((t138) % 256))) (fun _ hk => trivial)))⟩; have n1_ : Aside0 (w28.heap[gb132]? = some (.cells #[.int .u8 V0_1, .int .u8 V1_1, .int .u8 V2_1, .int .u8 V3_1] 85 (0, 0))) := ⟨(by rw [hw]; exact (by (with_reducible repeat (first | refine blk_drewN ?_ _ | refine blk_drew ?_ | refine blk_alloc ?_ _)); refine blk_far ?_ NB132_133.out _; (with_reducible repeat (first | refine blk_drewN ?_ _ | refine blk_drew ?_ | refine blk_alloc ?_ _)); exact BK132.out))⟩; have n2_ : Aside0 (w28.heap[gb133]? = some (.cells #[.int .u8 (upd x18_1 0 ((t138) % 256) V4_1), .int .u8 (upd x18_1 1 ((t138) % 256) V5_1), .int .u8 (upd x18_1 2 ((t138) % 256) V6_1), .int .u8 (upd x18_1 3 ((t138) % 256) V7_1)] 85 (0, 0))) := ⟨(by rw [hw]; exact (by (with_reducible repeat (first | refine blk_drewN ?_ _ | refine blk_drew ?_ | refine blk_alloc ?_ _)); refine blk_put (cs := #[.int .u8 V4_1, .int .u8 V5_1, .int .u8 V6_1, .int .u8 V7_1]) ?_ ((x18_1).toNat) _ (upd_set .u8 [] [V4_1, V5_1, V6_1, V7_1] [] rfl x18_1 (of_decide_eq_true as_) (of_decide_eq_true as_) (Nat.zero_add _).symm _ rfl); (with_reducible repeat (first | refine blk_drewN ?_ _ | refine blk_drew ?_ | refine blk_alloc ?_ _)); exact BK133.out))⟩; have n3_ : Aside0 (Below w.heap.size w w28) := ⟨(by rw [hw]; exact bg_)⟩; clear hw; clear HO_16; clear BK132; clear BK133; clear HB; have HO_16 := n0_; have BK132 := n1_; have BK133 := n2_; have HB := n3_; clear n0_ n1_ n2_ n3_))
          go_roundg k1
          case measure => have := HK1.out; omega
          case rel => exact ⟨(wrap64 (x18_1 + 1)), (V0_1), (V1_1), (V2_1), (V3_1), (upd x18_1 0 ((t138) % 256) V4_1), (upd x18_1 1 ((t138) % 256) V5_1), (upd x18_1 2 ((t138) % 256) V6_1), (upd x18_1 3 ((t138) % 256) V7_1), sq_, H', ⟨by have := HK1.out; omega⟩, ⟨by (with_reducible repeat (first | apply Kd.R_alloc | apply Kd.R_drewN | apply Kd.R_drew)); exact HO_16.out⟩, ⟨bk_⟩, ⟨bk_⟩, ⟨bg_⟩⟩
         ·rw [if_neg c23] at H
          exact absurd H (by simp)
       ·replace c12 := Bool.eq_false_iff.mpr c12
        subst c12
        replace H := ifF_ H
        exact absurd H (by simp)
      ·rw [if_neg c10] at H
       exact absurd H (by simp)
     ·rw [if_neg c9] at H
      exact absurd H (by simp)
    ·rw [if_neg c8] at H
     have c8b0 := decide_eq_false c8
     clear c8
     simp only [Option.some.injEq, Prod.mk.injEq] at H
     obtain ⟨rfl, rfl, rfl, rfl, rfl⟩ := H
     have hnb29 := NB133_132.out
     have hnc29 := NB132_133.out
     have hcz30_0 := cz_ BK133 0 (.int .u8 V4_1)
     have hcz30_1 := cz_ BK133 1 (.int .u8 V5_1)
     have hcz30_2 := cz_ BK133 2 (.int .u8 V6_1)
     have hcz30_3 := cz_ BK133 3 (.int .u8 V7_1)
     have hfz30_0 := bf_ BK133 0
     have hfz30_1 := bf_ BK133 1
     have hfz30_2 := bf_ BK133 2
     have hfz30_3 := bf_ BK133 3
     have hcz31_0 := cz_ BK132 0 (.int .u8 V0_1)
     have hcz31_1 := cz_ BK132 1 (.int .u8 V1_1)
     have hcz31_2 := cz_ BK132 2 (.int .u8 V2_1)
     have hcz31_3 := cz_ BK132 3 (.int .u8 V3_1)
     have hfz31_0 := bf_ BK132 0
     have hfz31_1 := bf_ BK132 1
     have hfz31_2 := bf_ BK132 2
     have hfz31_3 := bf_ BK132 3
     go_wp2
     refine bodyPost_ret (results_ct rfl _ _ gb132 85 #[.int .u8 V4_1, .int .u8 V5_1, .int .u8 V6_1, .int .u8 V7_1] (0, 0) _ rfl (by (with_reducible repeat (first | refine blk_drewN ?_ _ | refine blk_drew ?_ | refine blk_alloc ?_ _)); refine blk_put (cs := #[.int .u8 V4_1, .int .u8 V5_1, .int .u8 V6_1, .int .u8 V3_1]) ?_ 3 _ rfl; (with_reducible repeat (first | refine blk_drewN ?_ _ | refine blk_drew ?_ | refine blk_alloc ?_ _)); refine blk_put (cs := #[.int .u8 V4_1, .int .u8 V5_1, .int .u8 V2_1, .int .u8 V3_1]) ?_ 2 _ rfl; (with_reducible repeat (first | refine blk_drewN ?_ _ | refine blk_drew ?_ | refine blk_alloc ?_ _)); refine blk_put (cs := #[.int .u8 V4_1, .int .u8 V1_1, .int .u8 V2_1, .int .u8 V3_1]) ?_ 1 _ rfl; (with_reducible repeat (first | refine blk_drewN ?_ _ | refine blk_drew ?_ | refine blk_alloc ?_ _)); refine blk_put (cs := #[.int .u8 V0_1, .int .u8 V1_1, .int .u8 V2_1, .int .u8 V3_1]) ?_ 0 _ rfl; (with_reducible repeat (first | refine blk_drewN ?_ _ | refine blk_drew ?_ | refine blk_alloc ?_ _)); exact BK132.out) Tryd.underlying85 rfl (by kernel_rfl)) rfl ?_
     exact ⟨rq_, bg_⟩
 ·rw [if_neg c3] at H
  have c3b0 := beq_eq_false_iff_ne.mpr c3
  have c3b1 := bne_iff_ne.mpr c3
  simp only [Option.some.injEq, Prod.mk.injEq] at H
  obtain ⟨rfl, rfl, rfl, rfl, rfl⟩ := H
  go_enter Tryd.func53, Tryd.ntmps53
  go_wp2_with (first | ((with_reducible refine gate_dst (N := 2) rfl ?_); (try (refine gate_guard (by rfl) ?_; dsimp only)); refine bx_ 2 #[.int .u8 0, .int .u8 0, .int .u8 0, .int .u8 0] 85 ?_; intro gb132 hg w32 hbox hb; have BK132 := Aside0.mk (hbox); have GW132 := Aside0.mk (ge_ (w := w) hg); have GE132 := Aside0.mk (ge_ (w := w) hg); replace HB := Aside0.mk (below_step bq_ hb); clear hb hbox hg) | ((with_reducible refine gate_dst (N := 4) rfl ?_); (try (refine gate_guard (by rfl) ?_; dsimp only)); refine bx_ 4 #[.int .u8 0, .int .u8 0, .int .u8 0, .int .u8 0] 85 ?_; intro gb133 hg w33 hbox hb; have n0_ := Aside0.mk (bb_ BK132 hb); have n1_ := Aside0.mk (below_step bg_ hb); have n2_ := Aside0.mk (hbox); have n3_ := Aside0.mk (gg_ (w := w) hg); have n4_ := Aside0.mk (gg_ (w := w) hg); have n5_ := Aside0.mk (nl_ BK132 hg); have n6_ := Aside0.mk (ng_ BK132 hg); clear BK132; clear HB; have BK132 := n0_; have HB := n1_; have BK133 := n2_; have GW133 := n3_; have GE133 := n4_; have NB132_133 := n5_; have NB133_132 := n6_; clear n0_ n1_ n2_ n3_ n4_ n5_ n6_; clear hb hbox hg) | ((with_reducible refine gate_callee (f := 29) rfl ?_); refine goesL_ (some 11) rfl rfl Tryd.func29 (by kernel_rfl) rfl #[.string a0, .string (⟨#[46]⟩ : ByteArray)] rfl lq_ ?_; (with_reducible refine (strings_Split.calls a0 (⟨#[46]⟩ : ByteArray) t134 _ ?side1 A2.out).mono ?_); (case side1 => exact lg_); rintro e w34 ⟨v135, rfl, ho0, hb⟩; refine ⟨_, rfl, ?_⟩; have HO136 := Aside0.mk (Kd.R_lower ho0 (below_size bg_)); replace BK132 := Aside0.mk (bb_ BK132 hb); replace BK133 := Aside0.mk (bb_ BK133 hb); replace HB := Aside0.mk (below_step bg_ hb); (try clear hb); (try clear hb2); (try clear hk); (try clear hi); (try clear ho0); obtain ⟨Ao35, co35, eo35⟩ := Kd.R_slice HO136.out; subst eo35; have hnb36 := NB133_132.out; have hnc36 := NB132_133.out; have hcz37_0 := cz_ BK133 0 (.int .u8 0); have hcz37_1 := cz_ BK133 1 (.int .u8 0); have hcz37_2 := cz_ BK133 2 (.int .u8 0); have hcz37_3 := cz_ BK133 3 (.int .u8 0); have hfz37_0 := bf_ BK133 0; have hfz37_1 := bf_ BK133 1; have hfz37_2 := bf_ BK133 2; have hfz37_3 := bf_ BK133 3; have hcz38_0 := cz_ BK132 0 (.int .u8 0); have hcz38_1 := cz_ BK132 1 (.int .u8 0); have hcz38_2 := cz_ BK132 2 (.int .u8 0); have hcz38_3 := cz_ BK132 3 (.int .u8 0); have hfz38_0 := bf_ BK132 0; have hfz38_1 := bf_ BK132 1; have hfz38_2 := bf_ BK132 2; have hfz38_3 := bf_ BK132 3))
  refine bodyPost_ret (results_ct rfl _ _ gb132 85 #[.int .u8 0, .int .u8 0, .int .u8 0, .int .u8 0] (0, 0) _ rfl (by (with_reducible repeat (first | refine blk_drewN ?_ _ | refine blk_drew ?_ | refine blk_alloc ?_ _)); refine blk_put (cs := #[.int .u8 0, .int .u8 0, .int .u8 0, .int .u8 0]) ?_ 3 _ rfl; (with_reducible repeat (first | refine blk_drewN ?_ _ | refine blk_drew ?_ | refine blk_alloc ?_ _)); refine blk_put (cs := #[.int .u8 0, .int .u8 0, .int .u8 0, .int .u8 0]) ?_ 2 _ rfl; (with_reducible repeat (first | refine blk_drewN ?_ _ | refine blk_drew ?_ | refine blk_alloc ?_ _)); refine blk_put (cs := #[.int .u8 0, .int .u8 0, .int .u8 0, .int .u8 0]) ?_ 1 _ rfl; (with_reducible repeat (first | refine blk_drewN ?_ _ | refine blk_drew ?_ | refine blk_alloc ?_ _)); refine blk_put (cs := #[.int .u8 0, .int .u8 0, .int .u8 0, .int .u8 0]) ?_ 0 _ rfl; (with_reducible repeat (first | refine blk_drewN ?_ _ | refine blk_drew ?_ | refine blk_alloc ?_ _)); exact BK132.out) Tryd.underlying85 rfl (by kernel_rfl)) rfl ?_
  exact ⟨rq_, bg_⟩

def ip_groups.l0 : Nat → List Int → List ByteArray → Int → Int → Option (List Int × Bool)
 | 0, _, _, _, _ => none
 | k + 1, x6, x18, x19, x20 => if x20 < x19 then (if 0 ≤ x20 then (if x20 < (x18.length : Int) then ((ip_four.f k (rdOf ByteArray.empty x18 x20)).bind fun bt146 => (if bt146.2.2.2.2 = true then (none) else ((ip_number.f k (rdOf ByteArray.empty x18 x20) 16 65536).bind fun bt152 => (if bt152.2 = true then (if ((rdOf ByteArray.empty x18 x20).size : Int) > 4 then (some (([] : List Int), false)) else ((some (([(bt152.1 / 256) % 256, (bt152.1) % 256] : List Int) : List Int)).bind fun y154 => (if x6.length + y154.length < 140737488355328 then (ip_groups.l0 k (x6 ++ y154) x18 x19 (wrap64 (x20 + 1))) else (none)))) else (none))))) else (none)) else (none)) else (some (x6, true))
def ip_groups.f (k : Nat) (a0 : ByteArray) (a1 : Bool) : Option (List Int × Bool) := if a0.toList = ([] : List UInt8) then (some (([] : List Int), true)) else ((strings_Split.f a0 (⟨#[58]⟩ : ByteArray)).bind fun t142 => (ip_groups.l0 k ([] : List Int) t142 (t142.length : Int) 0))
theorem ip_groups.mono_l : ∀ k, (∀ y0 y1 y2 y3, LeO (ip_groups.l0 k y0 y1 y2 y3) (ip_groups.l0 (k + 1) y0 y1 y2 y3))
 | 0 => fun _ _ _ _ r h => by simp [ip_groups.l0] at h
 | k + 1 => by
  have ih0 := ip_groups.mono_l k
  ·intro y0 y1 y2 y3
   unfold ip_groups.l0
   repeat' first
   | (with_reducible exact ih0 _ _ _ _)
   | (with_reducible exact ip_four.mono _ _)
   | (with_reducible exact ip_number.mono _ _ _ _)
   | (with_reducible exact LeO.refl _)
   | (with_reducible exact LeO.none _)
   | (with_reducible refine LeO.ite ?_ ?_)
   | (with_reducible refine LeO.bind ?_ (fun _ => ?_))
   | exact ih0 _ _ _ _
   | exact ip_four.mono _ _
   | exact ip_number.mono _ _ _ _
   | exact LeO.none _
   | refine LeO.ite ?_ ?_
   | refine LeO.bind ?_ (fun _ => ?_)
theorem ip_groups.mono : ∀ a0 a1 k, LeO (ip_groups.f k a0 a1) (ip_groups.f (k + 1) a0 a1) := by
 intro a0 a1 k
 have ih0 := ip_groups.mono_l k
 unfold ip_groups.f
 repeat' first
   | (with_reducible exact ih0 _ _ _ _)
   | (with_reducible exact ip_four.mono _ _)
   | (with_reducible exact ip_number.mono _ _ _ _)
   | (with_reducible exact LeO.refl _)
   | (with_reducible exact LeO.none _)
   | (with_reducible refine LeO.ite ?_ ?_)
   | (with_reducible refine LeO.bind ?_ (fun _ => ?_))
   | exact ih0 _ _ _ _
   | exact ip_four.mono _ _
   | exact ip_number.mono _ _ _ _
   | exact LeO.none _
   | refine LeO.ite ?_ ?_
   | refine LeO.bind ?_ (fun _ => ?_)
set_option maxHeartbeats 8000000 in
set_option maxRecDepth 100000 in
theorem ip_groups.calls (k : Nat) (a0 : ByteArray) (a1 : Bool) (r1 : List Int) (r2 : Bool) (w : World) (hLW : LW w) (h : ip_groups.f k a0 a1 = some (r1, r2)) :
  Calls Tryd.prog 65 #[.string a0, .bool a1] w fun e w' => ∃ v0_ : Value, e = .returned (.tuple #[v0_, .bool r2]) ∧ Kd.R (Kd.int .u8) 5 w' w.heap.size (fun _ => True) v0_ r1 ∧ Below w.heap.size w w' := by
 have hu85 := Tryd.underlying85
 have HLW := Aside0.mk hLW
 clear hLW
 have HB := Aside0.mk (Below.refl w.heap.size w)
 have H := h
 unfold ip_groups.f at H
 clear h
 by_cases c3 : a0.toList = ([] : List UInt8)
 ·rw [if_pos c3] at H
  have c3b0 := beq_iff_eq.mpr c3
  have c3b1 := bne_eq_false_iff_eq.mpr c3
  clear c3
  simp only [Option.some.injEq, Prod.mk.injEq] at H
  obtain ⟨rfl, rfl⟩ := H
  go_enter Tryd.func65, Tryd.ntmps65
  go_wp2
  go_ret2
  exact ⟨_, rq_, by first | exact Kd.R_nil _ _ _ _ _ | exact Kd.N_nil _ _ _ _ _ | exact Kd.V_nil _ _ _ _ _ | exact Kd.Q_nil _ _ _ _ _ | exact Kd.S_nil _ _ _ _ _, bq_⟩
 ·rw [if_neg c3] at H
  have c3b0 := beq_eq_false_iff_ne.mpr c3
  have c3b1 := bne_iff_ne.mpr c3
  replace H := Option.bind_eq_some_iff.mp H
  obtain ⟨t142, A40, H⟩ := H
  (try dsimp only at H)
  have A4 := Aside0.mk A40
  clear A40
  have H' := Aside0.mk H
  clear H
  go_enter Tryd.func65, Tryd.ntmps65
  go_wp2_with (first | ((with_reducible refine gate_callee (f := 29) rfl ?_); refine goesL_ (some 17) rfl rfl Tryd.func29 (by kernel_rfl) rfl #[.string a0, .string (⟨#[58]⟩ : ByteArray)] rfl lq_ ?_; (with_reducible refine (strings_Split.calls a0 (⟨#[58]⟩ : ByteArray) t142 _ ?side1 A4.out).mono ?_); (case side1 => exact lw_); rintro e w5 ⟨v143, rfl, ho0, hb⟩; refine ⟨_, rfl, ?_⟩; have HO144 := Aside0.mk (Kd.R_lower ho0 (below_size bq_)); replace HB := Aside0.mk (below_step bq_ hb); (try clear hb); (try clear hb2); (try clear hk); (try clear hi); (try clear ho0); obtain ⟨Ao6, co6, eo6⟩ := Kd.R_slice HO144.out; subst eo6))
  go_loopg [6, 20] k (fun kq v6 v20 w' => ∃ (x6_1 : List Int) (x20_1 : Int), v20 = .int .i64 x20_1 ∧ Aside0 (ip_groups.l0 kq x6_1 t142 (t142.length : Int) x20_1 = some (r1, r2)) ∧ Aside0 (kq ≤ k) ∧ Aside0 (Kd.R (Kd.int .u8) 5 w' w.heap.size (fun _ => True) v6 x6_1) ∧ Aside0 (Kd.R Kd.string 9 w' w.heap.size (fun _ => True) (.slice Ao6 t142.length co6) t142) ∧ Aside0 (Below w.heap.size w w'))
  case atStart => exact ⟨(([] : List Int)), (0), sq_, H', ⟨Nat.le_refl _⟩, ⟨by first | exact Kd.R_nil _ _ _ _ _ | exact Kd.N_nil _ _ _ _ _ | exact Kd.V_nil _ _ _ _ _ | exact Kd.Q_nil _ _ _ _ _ | exact Kd.S_nil _ _ _ _ _⟩, ⟨by (with_reducible repeat (first | apply Kd.R_alloc | apply Kd.R_drewN | apply Kd.R_drew)); exact HO144.out⟩, ⟨bq_⟩⟩
  case round =>
   clear H'
   try clear c2
   try clear p2
   try clear c3
   try clear c3b0
   try clear c3b1
   try clear c6
   obtain ⟨x6_1, x20_1, rfl, HA, HK1, HO_6, HO_18, HB⟩ := hrel
   cases gk with
   | zero => exact absurd HA.out (by simp [ip_groups.l0])
   | succ k1 =>
    have H := HA.out
    clear HA
    simp only [ip_groups.l0] at H
    by_cases c7 : x20_1 < (t142.length : Int)
    ·rw [if_pos c7] at H
     have c7b0 := decide_eq_true c7
     clear c7
     by_cases c8 : 0 ≤ x20_1
     ·rw [if_pos c8] at H
      have c8b0 := decide_eq_true c8
      clear c8
      by_cases c9 : x20_1 < (t142.length : Int)
      ·rw [if_pos c9] at H
       have c9b0 := decide_eq_true c9
       clear c9
       replace H := Option.bind_eq_some_iff.mp H
       obtain ⟨⟨t146, t147, t148, t149, t150⟩, A100, H⟩ := H
       (try dsimp only at H)
       have A10 := Aside0.mk A100
       clear A100
       by_cases c11 : t150 = true
       ·subst c11
        replace H := ifT_ H
        exact absurd H (by simp)
       ·replace c11 := Bool.eq_false_iff.mpr c11
        subst c11
        replace H := ifF_ H
        replace H := Option.bind_eq_some_iff.mp H
        obtain ⟨⟨t152, t153⟩, A120, H⟩ := H
        (try dsimp only at H)
        have A12 := Aside0.mk A120
        clear A120
        by_cases c13 : t153 = true
        ·subst c13
         replace H := ifT_ H
         by_cases c14 : ((rdOf ByteArray.empty t142 x20_1).size : Int) > 4
         ·rw [if_pos c14] at H
          have c14b0 := decide_eq_true c14
          have c14b1 : decide (4 < (rdOf ByteArray.empty t142 x20_1).size) = true := decide_eq_true (by omega)
          clear c14
          simp only [Option.some.injEq, Prod.mk.injEq] at H
          obtain ⟨rfl, rfl⟩ := H
          have p145 : 0 ≤ (x20_1 : Int) := of_decide_eq_true as_
          have q145 : x20_1 < (t142.length : Int) := of_decide_eq_true as_
          obtain ⟨ad145, e145, hx145_0⟩ := Kd.at_string (Kd.R_reads' HO_18.out).2.2 x20_1 p145 q145
          cases e145
          replace p145 := eq_true p145
          replace q145 := eq_true q145
          go_wp2_with (first | ((with_reducible refine gate_callee (f := 53) rfl ?_); refine goesL_ (some 27) rfl rfl Tryd.func53 (by kernel_rfl) rfl #[.string (rdOf ByteArray.empty t142 x20_1)] rfl lq_ ?_; (with_reducible refine (ip_four.calls k1 (rdOf ByteArray.empty t142 x20_1) t146 t147 t148 t149 false _ ?side1 A10.out).mono ?_); (case side1 => exact lw_); rintro e w15 ⟨rfl, hb⟩; refine ⟨_, rfl, ?_⟩; replace HO_6 := Aside0.mk (Kd.R_below (by (with_reducible repeat (first | apply Kd.R_alloc | apply Kd.R_drewN | apply Kd.R_drew)); exact HO_6.out) hb); replace HO_18 := Aside0.mk (Kd.R_below (by (with_reducible repeat (first | apply Kd.R_alloc | apply Kd.R_drewN | apply Kd.R_drew)); exact HO_18.out) hb); replace HB := Aside0.mk (below_step bq_ hb); (try clear hb); (try clear hb2); (try clear hk); (try clear hi)) | ((with_reducible refine gate_dst (N := 10) rfl ?_); (try (refine gate_guard (by rfl) ?_; dsimp only)); refine bx_ 10 #[.int .u8 0, .int .u8 0, .int .u8 0, .int .u8 0] 85 ?_; intro gb151 hg w16 hbox hb; replace HO_6 := Aside0.mk (Kd.R_below (by (with_reducible repeat (first | apply Kd.R_alloc | apply Kd.R_drewN | apply Kd.R_drew)); exact HO_6.out) hb); replace HO_18 := Aside0.mk (Kd.R_below (by (with_reducible repeat (first | apply Kd.R_alloc | apply Kd.R_drewN | apply Kd.R_drew)); exact HO_18.out) hb); have BK151 := Aside0.mk (hbox); have GW151 := Aside0.mk (ge_ (w := w) hg); have GE151 := Aside0.mk (ge_ (w := w) hg); replace HB := Aside0.mk (below_step bq_ hb); clear hb hbox hg; have hcz17_0 := cz_ BK151 0 (.int .u8 0); have hcz17_1 := cz_ BK151 1 (.int .u8 0); have hcz17_2 := cz_ BK151 2 (.int .u8 0); have hcz17_3 := cz_ BK151 3 (.int .u8 0); have hfz17_0 := bf_ BK151 0; have hfz17_1 := bf_ BK151 1; have hfz17_2 := bf_ BK151 2; have hfz17_3 := bf_ BK151 3) | ((with_reducible refine gate_callee (f := 64) rfl ?_); refine goesL_ (some 46) rfl rfl Tryd.func64 (by kernel_rfl) rfl #[.string (rdOf ByteArray.empty t142 x20_1), .int .u64 16, .int .u64 65536] rfl lq_ ?_; (with_reducible refine (ip_number.calls k1 (rdOf ByteArray.empty t142 x20_1) 16 65536 t152 true _ ?side1 A12.out).mono ?_); (case side1 => exact lg_); rintro e w18 ⟨rfl, hb⟩; refine ⟨_, rfl, ?_⟩; replace HO_6 := Aside0.mk (Kd.R_below (by (with_reducible repeat (first | apply Kd.R_alloc | apply Kd.R_drewN | apply Kd.R_drew)); exact (Kd.R_mono (Kd.R_far (p := ⟨gb151, 3, none⟩) (Kd.R_far (p := ⟨gb151, 2, none⟩) (Kd.R_far (p := ⟨gb151, 1, none⟩) (Kd.R_far (p := ⟨gb151, 0, none⟩) (Kd.R_types HO_6.out BK151.out (by decide)) (fun _ hk => hk.2) (.int .u8 t146)) (fun _ hk => hk.2) (.int .u8 t147)) (fun _ hk => hk.2) (.int .u8 t148)) (fun _ hk => hk.2) (.int .u8 t149)) (fun _ h_ => h_.1))) hb); replace HO_18 := Aside0.mk (Kd.R_below (by (with_reducible repeat (first | apply Kd.R_alloc | apply Kd.R_drewN | apply Kd.R_drew)); exact (Kd.R_mono (Kd.R_far (p := ⟨gb151, 3, none⟩) (Kd.R_far (p := ⟨gb151, 2, none⟩) (Kd.R_far (p := ⟨gb151, 1, none⟩) (Kd.R_far (p := ⟨gb151, 0, none⟩) (Kd.R_types HO_18.out BK151.out (by decide)) (fun _ hk => hk.2) (.int .u8 t146)) (fun _ hk => hk.2) (.int .u8 t147)) (fun _ hk => hk.2) (.int .u8 t148)) (fun _ hk => hk.2) (.int .u8 t149)) (fun _ h_ => h_.1))) hb); replace BK151 := Aside0.mk (blk_below (g := gb151) (o := .cells #[.int .u8 t146, .int .u8 t147, .int .u8 t148, .int .u8 t149] 85 (0, 0)) (by (with_reducible repeat (first | refine blk_drewN ?_ _ | refine blk_drew ?_ | refine blk_alloc ?_ _)); refine blk_put (cs := #[.int .u8 t146, .int .u8 t147, .int .u8 t148, .int .u8 0]) ?_ 3 _ rfl; (with_reducible repeat (first | refine blk_drewN ?_ _ | refine blk_drew ?_ | refine blk_alloc ?_ _)); refine blk_put (cs := #[.int .u8 t146, .int .u8 t147, .int .u8 0, .int .u8 0]) ?_ 2 _ rfl; (with_reducible repeat (first | refine blk_drewN ?_ _ | refine blk_drew ?_ | refine blk_alloc ?_ _)); refine blk_put (cs := #[.int .u8 t146, .int .u8 0, .int .u8 0, .int .u8 0]) ?_ 1 _ rfl; (with_reducible repeat (first | refine blk_drewN ?_ _ | refine blk_drew ?_ | refine blk_alloc ?_ _)); refine blk_put (cs := #[.int .u8 0, .int .u8 0, .int .u8 0, .int .u8 0]) ?_ 0 _ rfl; (with_reducible repeat (first | refine blk_drewN ?_ _ | refine blk_drew ?_ | refine blk_alloc ?_ _)); exact BK151.out) hb); replace HB := Aside0.mk (below_step bg_ hb); (try clear hb); (try clear hb2); (try clear hk); (try clear hi)))
          go_ret2
          exact ⟨_, rq_, by first | exact Kd.R_nil _ _ _ _ _ | exact Kd.N_nil _ _ _ _ _ | exact Kd.V_nil _ _ _ _ _ | exact Kd.Q_nil _ _ _ _ _ | exact Kd.S_nil _ _ _ _ _, bg_⟩
         ·rw [if_neg c14] at H
          have c14b0 := decide_eq_false c14
          have c14b1 : decide (4 < (rdOf ByteArray.empty t142 x20_1).size) = false := decide_eq_false (by omega)
          clear c14
          obtain ⟨y154, hy154⟩ : ∃ y_ : List Int, y_ = (([(t152 / 256) % 256, (t152) % 256] : List Int)) := ⟨_, rfl⟩
          replace H : (if x6_1.length + y154.length < 140737488355328 then (ip_groups.l0 k1 (x6_1 ++ y154) t142 (t142.length : Int) (wrap64 (x20_1 + 1))) else (none)) = some (r1, r2) := by first | (rw [hy154]; with_reducible exact H) | (have H2_ := (Option.bind_some _ _).symm.trans H; rw [hy154]; with_reducible exact H2_) | (have H2_ := (Option.bind_some _ _).symm.trans H; with_reducible exact H2_) | with_reducible exact H | (rw [hy154]; exact H) | exact H
          have Ny154 := Aside0.mk hy154
          clear hy154
          by_cases c19 : x6_1.length + y154.length < 140737488355328
          ·rw [if_pos c19] at H
           have LMc19 := Aside0.mk c19
           clear c19
           obtain ⟨y157, hy157⟩ : ∃ y_ : List Int, y_ = (x6_1 ++ y154) := ⟨_, rfl⟩
           replace H : (ip_groups.l0 k1 y157 t142 (t142.length : Int) (wrap64 (x20_1 + 1))) = some (r1, r2) := by first | (rw [hy157]; with_reducible exact H) | (have H2_ := (Option.bind_some _ _).symm.trans H; rw [hy157]; with_reducible exact H2_) | (have H2_ := (Option.bind_some _ _).symm.trans H; with_reducible exact H2_) | with_reducible exact H | (rw [hy157]; exact H) | exact H
           have Ny157 := Aside0.mk hy157
           clear hy157
           have H' := Aside0.mk H
           clear H
           have p145 : 0 ≤ (x20_1 : Int) := of_decide_eq_true as_
           have q145 : x20_1 < (t142.length : Int) := of_decide_eq_true as_
           obtain ⟨ad145, e145, hx145_0⟩ := Kd.at_string (Kd.R_reads' HO_18.out).2.2 x20_1 p145 q145
           cases e145
           replace p145 := eq_true p145
           replace q145 := eq_true q145
           go_wp2_with (first | ((with_reducible refine gate_callee (f := 53) rfl ?_); refine goesL_ (some 27) rfl rfl Tryd.func53 (by kernel_rfl) rfl #[.string (rdOf ByteArray.empty t142 x20_1)] rfl lq_ ?_; (with_reducible refine (ip_four.calls k1 (rdOf ByteArray.empty t142 x20_1) t146 t147 t148 t149 false _ ?side1 A10.out).mono ?_); (case side1 => exact lw_); rintro e w20 ⟨rfl, hb⟩; refine ⟨_, rfl, ?_⟩; replace HO_6 := Aside0.mk (Kd.R_below (by (with_reducible repeat (first | apply Kd.R_alloc | apply Kd.R_drewN | apply Kd.R_drew)); exact HO_6.out) hb); replace HO_18 := Aside0.mk (Kd.R_below (by (with_reducible repeat (first | apply Kd.R_alloc | apply Kd.R_drewN | apply Kd.R_drew)); exact HO_18.out) hb); replace HB := Aside0.mk (below_step bq_ hb); (try clear hb); (try clear hb2); (try clear hk); (try clear hi)) | ((with_reducible refine gate_dst (N := 10) rfl ?_); (try (refine gate_guard (by rfl) ?_; dsimp only)); refine bx_ 10 #[.int .u8 0, .int .u8 0, .int .u8 0, .int .u8 0] 85 ?_; intro gb151 hg w21 hbox hb; replace HO_6 := Aside0.mk (Kd.R_below (by (with_reducible repeat (first | apply Kd.R_alloc | apply Kd.R_drewN | apply Kd.R_drew)); exact HO_6.out) hb); replace HO_18 := Aside0.mk (Kd.R_below (by (with_reducible repeat (first | apply Kd.R_alloc | apply Kd.R_drewN | apply Kd.R_drew)); exact HO_18.out) hb); have BK151 := Aside0.mk (hbox); have GW151 := Aside0.mk (ge_ (w := w) hg); have GE151 := Aside0.mk (ge_ (w := w) hg); replace HB := Aside0.mk (below_step bq_ hb); clear hb hbox hg; have hcz22_0 := cz_ BK151 0 (.int .u8 0); have hcz22_1 := cz_ BK151 1 (.int .u8 0); have hcz22_2 := cz_ BK151 2 (.int .u8 0); have hcz22_3 := cz_ BK151 3 (.int .u8 0); have hfz22_0 := bf_ BK151 0; have hfz22_1 := bf_ BK151 1; have hfz22_2 := bf_ BK151 2; have hfz22_3 := bf_ BK151 3) | ((with_reducible refine gate_callee (f := 64) rfl ?_); refine goesL_ (some 46) rfl rfl Tryd.func64 (by kernel_rfl) rfl #[.string (rdOf ByteArray.empty t142 x20_1), .int .u64 16, .int .u64 65536] rfl lq_ ?_; (with_reducible refine (ip_number.calls k1 (rdOf ByteArray.empty t142 x20_1) 16 65536 t152 true _ ?side1 A12.out).mono ?_); (case side1 => exact lg_); rintro e w23 ⟨rfl, hb⟩; refine ⟨_, rfl, ?_⟩; replace HO_6 := Aside0.mk (Kd.R_below (by (with_reducible repeat (first | apply Kd.R_alloc | apply Kd.R_drewN | apply Kd.R_drew)); exact (Kd.R_mono (Kd.R_far (p := ⟨gb151, 3, none⟩) (Kd.R_far (p := ⟨gb151, 2, none⟩) (Kd.R_far (p := ⟨gb151, 1, none⟩) (Kd.R_far (p := ⟨gb151, 0, none⟩) (Kd.R_types HO_6.out BK151.out (by decide)) (fun _ hk => hk.2) (.int .u8 t146)) (fun _ hk => hk.2) (.int .u8 t147)) (fun _ hk => hk.2) (.int .u8 t148)) (fun _ hk => hk.2) (.int .u8 t149)) (fun _ h_ => h_.1))) hb); replace HO_18 := Aside0.mk (Kd.R_below (by (with_reducible repeat (first | apply Kd.R_alloc | apply Kd.R_drewN | apply Kd.R_drew)); exact (Kd.R_mono (Kd.R_far (p := ⟨gb151, 3, none⟩) (Kd.R_far (p := ⟨gb151, 2, none⟩) (Kd.R_far (p := ⟨gb151, 1, none⟩) (Kd.R_far (p := ⟨gb151, 0, none⟩) (Kd.R_types HO_18.out BK151.out (by decide)) (fun _ hk => hk.2) (.int .u8 t146)) (fun _ hk => hk.2) (.int .u8 t147)) (fun _ hk => hk.2) (.int .u8 t148)) (fun _ hk => hk.2) (.int .u8 t149)) (fun _ h_ => h_.1))) hb); replace BK151 := Aside0.mk (blk_below (g := gb151) (o := .cells #[.int .u8 t146, .int .u8 t147, .int .u8 t148, .int .u8 t149] 85 (0, 0)) (by (with_reducible repeat (first | refine blk_drewN ?_ _ | refine blk_drew ?_ | refine blk_alloc ?_ _)); refine blk_put (cs := #[.int .u8 t146, .int .u8 t147, .int .u8 t148, .int .u8 0]) ?_ 3 _ rfl; (with_reducible repeat (first | refine blk_drewN ?_ _ | refine blk_drew ?_ | refine blk_alloc ?_ _)); refine blk_put (cs := #[.int .u8 t146, .int .u8 t147, .int .u8 0, .int .u8 0]) ?_ 2 _ rfl; (with_reducible repeat (first | refine blk_drewN ?_ _ | refine blk_drew ?_ | refine blk_alloc ?_ _)); refine blk_put (cs := #[.int .u8 t146, .int .u8 0, .int .u8 0, .int .u8 0]) ?_ 1 _ rfl; (with_reducible repeat (first | refine blk_drewN ?_ _ | refine blk_drew ?_ | refine blk_alloc ?_ _)); refine blk_put (cs := #[.int .u8 0, .int .u8 0, .int .u8 0, .int .u8 0]) ?_ 0 _ rfl; (with_reducible repeat (first | refine blk_drewN ?_ _ | refine blk_drew ?_ | refine blk_alloc ?_ _)); exact BK151.out) hb); replace HB := Aside0.mk (below_step bg_ hb); (try clear hb); (try clear hb2); (try clear hk); (try clear hi)) | ((with_reducible refine gate_dst (N := 62) rfl ?_); (try (refine gate_guard (by rfl) ?_; dsimp only)); refine Kd.R_lit (Kd.int .u8) _ 5 ?hg (N := 62) ?hd (xs := ([(t152 / 256) % 256, (t152) % 256] : List Int)) (inner := [.int .u8 ((t152 / 256) % 256), .int .u8 ((t152) % 256)]) (ok := fun _ => True) (okp := fun _ => True) ?hr ?hp (fun _ hk => hk) trivial (Below.refl _ _) (Nat.le_refl _) (by simp) ?_; (case hd => rfl); (case hg => rfl); (case hr => first | (go_simp; done) | (go_simp; rfl)); (case hp => exact (Reps.one (show Kd.M (Kd.int .u8) _ _ _ ((t152 / 256) % 256) [.int .u8 ((t152 / 256) % 256)] from rfl) (Reps.one (show Kd.M (Kd.int .u8) _ _ _ ((t152) % 256) [.int .u8 ((t152) % 256)] from rfl) (Reps.none _ _)))); intro v155 w24 ho25 hb hg_ hnew_; clear hg_ hnew_; (first | rw [← Ny154.out] at ho25 | (simp only [Int.reduceToNat] at ho25; rw [← Ny154.out] at ho25)); have n0_ := Aside0.mk (Kd.R_elder' (by (with_reducible repeat (first | apply Kd.R_alloc | apply Kd.R_drewN | apply Kd.R_drew)); exact HO_6.out) (Kd.R_base ho25) hb); have n1_ := Aside0.mk (Kd.R_below (by (with_reducible repeat (first | apply Kd.R_alloc | apply Kd.R_drewN | apply Kd.R_drew)); exact HO_18.out) hb); have n2_ := Aside0.mk (Kd.R_lower (Kd.R_new' ho25 (Kd.R_lt (by (with_reducible repeat (first | apply Kd.R_alloc | apply Kd.R_drewN | apply Kd.R_drew)); exact HO_6.out))) (below_size bg_)); have n3_ := Aside0.mk (bb_ BK151 hb); have n4_ := Aside0.mk (below_step bg_ hb); clear HO_6; clear HO_18; clear BK151; clear HB; have HO_6 := n0_; have HO_18 := n1_; have HO156 := n2_; have BK151 := n3_; have HB := n4_; clear n0_ n1_ n2_ n3_ n4_; clear hb ho25; obtain ⟨Ao27, co27, eo27⟩ := Kd.R_slice HO156.out; subst eo27) | ((with_reducible refine gate_builtin (b := .append) (xs := #[.tmp 56, .tmp 62]) rfl ?_); (try (refine gate_guard (by rfl) ?_; dsimp only)); at_builtin; refine Kd.R_append_rows (Kd.int .u8) (w0 := w) w.heap.size rfl (.tmp 56) (.tmp 62) 70 5 (.int .u8 0) 1 rfl Tryd.underlying70 info5 rfl (by decide) (by omega) u6 x6_1 y154 _ _ _ (fun k_ => some k_ ≠ (.slice Ao27 y154.length co27 : Value).ownBlock) (fun _ => False) rfl rfl ?aO ?aR (fun _ _ h => h) (fun _ h => h.elim) ?aF ?aB ?aS ?aL ?_; (case aR => repeat (first | exact (Kd.R_reads' HO156.out).2.2 | (with_reducible refine Kd.C_alloc ?_ _) | (with_reducible refine Kd.C_drewN ?_ _) | (with_reducible refine Kd.C_drew ?_))); (case aB => exact bg_); (case aF => exact (fun k_ hk => Kd.fresh' (Kd.R_lt (by (with_reducible repeat (first | apply Kd.R_alloc | apply Kd.R_drewN | apply Kd.R_drew)); exact HO156.out)) k_ hk)); (case aO => exact (by (with_reducible repeat (first | apply Kd.R_alloc | apply Kd.R_drewN | apply Kd.R_drew)); exact Kd.R_mono HO_6.out (fun _ hk => hk.2))); (case aS => exact (below_size bg_)); (case aL => have := LMc19.out; omega); intro v158 w26 ho hb hg hat; rw [← Ny157.out] at ho; replace HO_18 := Aside0.mk (Kd.R_over' (by (with_reducible repeat (first | apply Kd.R_alloc | apply Kd.R_drewN | apply Kd.R_drew)); exact HO_18.out) (Kd.R_typed (by (with_reducible repeat (first | apply Kd.R_alloc | apply Kd.R_drewN | apply Kd.R_drew)); exact HO_6.out)) (by decide) hg); replace BK151 := Aside0.mk (blk_grown (g := gb151) (o := .cells #[.int .u8 t146, .int .u8 t147, .int .u8 t148, .int .u8 t149] 85 (0, 0)) bk_ hg (Kd.R_ne HO_6.out BK151.out (by decide))); replace HO156 := Aside0.mk (Kd.R_after (ok := (fun _ => True)) (by (with_reducible repeat (first | apply Kd.R_alloc | apply Kd.R_drewN | apply Kd.R_drew)); exact HO156.out) hg hat); have HO159 := Aside0.mk (ho); replace HB := Aside0.mk (hb); clear HO_6; clear ho hb hg hat))
           go_roundg k1
           case measure => have := HK1.out; omega
           case rel => exact ⟨(y157), (wrap64 (x20_1 + 1)), sq_, H', ⟨by have := HK1.out; omega⟩, ⟨by (with_reducible repeat (first | apply Kd.R_alloc | apply Kd.R_drewN | apply Kd.R_drew)); exact Kd.R_mono HO159.out (fun _ hk => trivial)⟩, ⟨by (with_reducible repeat (first | apply Kd.R_alloc | apply Kd.R_drewN | apply Kd.R_drew)); exact HO_18.out⟩, ⟨bg_⟩⟩
          ·rw [if_neg c19] at H
           exact absurd H (by simp)
        ·replace c13 := Bool.eq_false_iff.mpr c13
         subst c13
         replace H := ifF_ H
         exact absurd H (by simp)
      ·rw [if_neg c9] at H
       exact absurd H (by simp)
     ·rw [if_neg c8] at H
      exact absurd H (by simp)
    ·rw [if_neg c7] at H
     have c7b0 := decide_eq_false c7
     clear c7
     simp only [Option.some.injEq, Prod.mk.injEq] at H
     obtain ⟨rfl, rfl⟩ := H
     go_wp2
     go_ret2
     exact ⟨_, rq_, by (with_reducible repeat (first | apply Kd.R_alloc | apply Kd.R_drewN | apply Kd.R_drew)); exact HO_6.out, bq_⟩

def ip_six.f (k : Nat) (a0 : ByteArray) : Option (Int × Int × Int × Int × Int × Int × Int × Int × Int × Int × Int × Int × Int × Int × Int × Int × Bool) := (strings_Cut.f a0 (⟨#[58, 58]⟩ : ByteArray)).bind fun bt162 => ((ip_groups.f k bt162.1 (!bt162.2.2)).bind fun bt165 => ((ip_groups.f k bt162.2.1 true).bind fun bt169 => (if bt165.2 = true then (if bt169.2 = true then (if bt162.2.2 = true then (if (wrap64 ((bt165.1.length : Int) + (bt169.1.length : Int))) > 16 then (none) else (if 0 ≤ (wrap64 (16 - (bt169.1.length : Int))) then (if (wrap64 (16 - (bt169.1.length : Int))) ≤ 16 then (some (cpy (wrap64 (16 - (bt169.1.length : Int))) 16 0 bt169.1 (cpy 0 16 0 bt165.1 0), cpy (wrap64 (16 - (bt169.1.length : Int))) 16 1 bt169.1 (cpy 0 16 1 bt165.1 0), cpy (wrap64 (16 - (bt169.1.length : Int))) 16 2 bt169.1 (cpy 0 16 2 bt165.1 0), cpy (wrap64 (16 - (bt169.1.length : Int))) 16 3 bt169.1 (cpy 0 16 3 bt165.1 0), cpy (wrap64 (16 - (bt169.1.length : Int))) 16 4 bt169.1 (cpy 0 16 4 bt165.1 0), cpy (wrap64 (16 - (bt169.1.length : Int))) 16 5 bt169.1 (cpy 0 16 5 bt165.1 0), cpy (wrap64 (16 - (bt169.1.length : Int))) 16 6 bt169.1 (cpy 0 16 6 bt165.1 0), cpy (wrap64 (16 - (bt169.1.length : Int))) 16 7 bt169.1 (cpy 0 16 7 bt165.1 0), cpy (wrap64 (16 - (bt169.1.length : Int))) 16 8 bt169.1 (cpy 0 16 8 bt165.1 0), cpy (wrap64 (16 - (bt169.1.length : Int))) 16 9 bt169.1 (cpy 0 16 9 bt165.1 0), cpy (wrap64 (16 - (bt169.1.length : Int))) 16 10 bt169.1 (cpy 0 16 10 bt165.1 0), cpy (wrap64 (16 - (bt169.1.length : Int))) 16 11 bt169.1 (cpy 0 16 11 bt165.1 0), cpy (wrap64 (16 - (bt169.1.length : Int))) 16 12 bt169.1 (cpy 0 16 12 bt165.1 0), cpy (wrap64 (16 - (bt169.1.length : Int))) 16 13 bt169.1 (cpy 0 16 13 bt165.1 0), cpy (wrap64 (16 - (bt169.1.length : Int))) 16 14 bt169.1 (cpy 0 16 14 bt165.1 0), cpy (wrap64 (16 - (bt169.1.length : Int))) 16 15 bt169.1 (cpy 0 16 15 bt165.1 0), true)) else (none)) else (none))) else (none)) else (none)) else (none))))
theorem ip_six.mono : ∀ a0 k, LeO (ip_six.f k a0) (ip_six.f (k + 1) a0) := by
 intro a0 k
 unfold ip_six.f
 repeat' first
   | (with_reducible exact ip_groups.mono _ _ _)
   | (with_reducible exact LeO.refl _)
   | (with_reducible exact LeO.none _)
   | (with_reducible refine LeO.ite ?_ ?_)
   | (with_reducible refine LeO.bind ?_ (fun _ => ?_))
   | exact ip_groups.mono _ _ _
   | exact LeO.none _
   | refine LeO.ite ?_ ?_
   | refine LeO.bind ?_ (fun _ => ?_)
set_option maxHeartbeats 8000000 in
set_option maxRecDepth 100000 in
theorem ip_six.calls (k : Nat) (a0 : ByteArray) (r1 : Int) (r2 : Int) (r3 : Int) (r4 : Int) (r5 : Int) (r6 : Int) (r7 : Int) (r8 : Int) (r9 : Int) (r10 : Int) (r11 : Int) (r12 : Int) (r13 : Int) (r14 : Int) (r15 : Int) (r16 : Int) (r17 : Bool) (w : World) (hLW : LW w) (h : ip_six.f k a0 = some (r1, r2, r3, r4, r5, r6, r7, r8, r9, r10, r11, r12, r13, r14, r15, r16, r17)) :
  Calls Tryd.prog 54 #[.string a0] w fun e w' => e = .returned (.tuple #[.agg #[.int .u8 r1, .int .u8 r2, .int .u8 r3, .int .u8 r4, .int .u8 r5, .int .u8 r6, .int .u8 r7, .int .u8 r8, .int .u8 r9, .int .u8 r10, .int .u8 r11, .int .u8 r12, .int .u8 r13, .int .u8 r14, .int .u8 r15, .int .u8 r16], .bool r17]) ∧ Below w.heap.size w w' := by
 have hu22 := Tryd.underlying22
 have HLW := Aside0.mk hLW
 clear hLW
 have HB := Aside0.mk (Below.refl w.heap.size w)
 have H := h
 unfold ip_six.f at H
 clear h
 replace H := Option.bind_eq_some_iff.mp H
 obtain ⟨⟨t162, t163, t164⟩, A20, H⟩ := H
 (try dsimp only at H)
 have A2 := Aside0.mk A20
 clear A20
 replace H := Option.bind_eq_some_iff.mp H
 obtain ⟨⟨t165, t166⟩, A30, H⟩ := H
 (try dsimp only at H)
 have A3 := Aside0.mk A30
 clear A30
 replace H := Option.bind_eq_some_iff.mp H
 obtain ⟨⟨t169, t170⟩, A40, H⟩ := H
 (try dsimp only at H)
 have A4 := Aside0.mk A40
 clear A40
 by_cases c5 : t166 = true
 ·subst c5
  replace H := ifT_ H
  by_cases c6 : t170 = true
  ·subst c6
   replace H := ifT_ H
   by_cases c7 : t164 = true
   ·subst c7
    replace H := ifT_ H
    by_cases c8 : (wrap64 ((t165.length : Int) + (t169.length : Int))) > 16
    ·rw [if_pos c8] at H
     exact absurd H (by simp)
    ·rw [if_neg c8] at H
     have c8b0 := decide_eq_false c8
     clear c8
     obtain ⟨ji9, hji9⟩ : ∃ j_ : Int, (wrap64 (16 - (t169.length : Int))) = j_ := ⟨_, rfl⟩
     replace H : (if 0 ≤ (ji9) then (if (ji9) ≤ 16 then (some (cpy (ji9) 16 0 t169 (cpy 0 16 0 t165 0), cpy (ji9) 16 1 t169 (cpy 0 16 1 t165 0), cpy (ji9) 16 2 t169 (cpy 0 16 2 t165 0), cpy (ji9) 16 3 t169 (cpy 0 16 3 t165 0), cpy (ji9) 16 4 t169 (cpy 0 16 4 t165 0), cpy (ji9) 16 5 t169 (cpy 0 16 5 t165 0), cpy (ji9) 16 6 t169 (cpy 0 16 6 t165 0), cpy (ji9) 16 7 t169 (cpy 0 16 7 t165 0), cpy (ji9) 16 8 t169 (cpy 0 16 8 t165 0), cpy (ji9) 16 9 t169 (cpy 0 16 9 t165 0), cpy (ji9) 16 10 t169 (cpy 0 16 10 t165 0), cpy (ji9) 16 11 t169 (cpy 0 16 11 t165 0), cpy (ji9) 16 12 t169 (cpy 0 16 12 t165 0), cpy (ji9) 16 13 t169 (cpy 0 16 13 t165 0), cpy (ji9) 16 14 t169 (cpy 0 16 14 t165 0), cpy (ji9) 16 15 t169 (cpy 0 16 15 t165 0), true)) else (none)) else (none)) = some (r1, r2, r3, r4, r5, r6, r7, r8, r9, r10, r11, r12, r13, r14, r15, r16, r17) := by first | (rw [hji9] at H; exact H) | (simp only [hji9] at H ⊢; exact H)
     (try rw [hji9] at A2)
     (try rw [hji9] at A3)
     (try rw [hji9] at A4)
     have hji9w : (IntKind.i64.wrap (16 - (t169.length : Int))) = ji9 := (i64_w _).trans hji9
     by_cases c10 : 0 ≤ (ji9)
     ·rw [if_pos c10] at H
      have c10b0 := eq_true c10
      have c10b1 := decide_eq_true c10
      clear c10
      by_cases c11 : (ji9) ≤ 16
      ·rw [if_pos c11] at H
       have c11b0 := eq_true c11
       have c11b1 := decide_eq_true c11
       clear c11
       simp only [Option.some.injEq, Prod.mk.injEq] at H
       obtain ⟨rfl, rfl, rfl, rfl, rfl, rfl, rfl, rfl, rfl, rfl, rfl, rfl, rfl, rfl, rfl, rfl, rfl⟩ := H
       go_enter Tryd.func54, Tryd.ntmps54
       go_wp2_with (first | ((with_reducible refine gate_dst (N := 2) rfl ?_); (try (refine gate_guard (by rfl) ?_; dsimp only)); refine bx_ 2 #[.int .u8 0, .int .u8 0, .int .u8 0, .int .u8 0, .int .u8 0, .int .u8 0, .int .u8 0, .int .u8 0, .int .u8 0, .int .u8 0, .int .u8 0, .int .u8 0, .int .u8 0, .int .u8 0, .int .u8 0, .int .u8 0] 22 ?_; intro gb160 hg w12 hbox hb; have BK160 := Aside0.mk (hbox); have GW160 := Aside0.mk (ge_ (w := w) hg); have GE160 := Aside0.mk (ge_ (w := w) hg); replace HB := Aside0.mk (below_step bq_ hb); clear hb hbox hg) | ((with_reducible refine gate_dst (N := 4) rfl ?_); (try (refine gate_guard (by rfl) ?_; dsimp only)); refine bx_ 4 #[.int .u8 0, .int .u8 0, .int .u8 0, .int .u8 0, .int .u8 0, .int .u8 0, .int .u8 0, .int .u8 0, .int .u8 0, .int .u8 0, .int .u8 0, .int .u8 0, .int .u8 0, .int .u8 0, .int .u8 0, .int .u8 0] 22 ?_; intro gb161 hg w13 hbox hb; have n0_ := Aside0.mk (bb_ BK160 hb); have n1_ := Aside0.mk (below_step bg_ hb); have n2_ := Aside0.mk (hbox); have n3_ := Aside0.mk (gg_ (w := w) hg); have n4_ := Aside0.mk (gg_ (w := w) hg); have n5_ := Aside0.mk (nl_ BK160 hg); have n6_ := Aside0.mk (ng_ BK160 hg); clear BK160; clear HB; have BK160 := n0_; have HB := n1_; have BK161 := n2_; have GW161 := n3_; have GE161 := n4_; have NB160_161 := n5_; have NB161_160 := n6_; clear n0_ n1_ n2_ n3_ n4_ n5_ n6_; clear hb hbox hg) | ((with_reducible refine gate_callee (f := 44) rfl ?_); refine goesL_ (some 14) rfl rfl Tryd.func44 (by kernel_rfl) rfl #[.string a0, .string (⟨#[58, 58]⟩ : ByteArray)] rfl lq_ ?_; (with_reducible refine (strings_Cut.calls a0 (⟨#[58, 58]⟩ : ByteArray) t162 t163 true _ ?side1 A2.out).mono ?_); (case side1 => exact lg_); rintro e w14 ⟨rfl, hb⟩; refine ⟨_, rfl, ?_⟩; replace BK160 := Aside0.mk (bb_ BK160 hb); replace BK161 := Aside0.mk (bb_ BK161 hb); replace HB := Aside0.mk (below_step bg_ hb); (try clear hb); (try clear hb2); (try clear hk); (try clear hi)) | ((with_reducible refine gate_callee (f := 65) rfl ?_); refine goesL_ (some 22) rfl rfl Tryd.func65 (by kernel_rfl) rfl #[.string t162, .bool (!true)] rfl lq_ ?_; (with_reducible refine (ip_groups.calls k t162 (!true) t165 true _ ?side1 A3.out).mono ?_); (case side1 => exact lg_); rintro e w15 ⟨v167, rfl, ho0, hb⟩; refine ⟨_, rfl, ?_⟩; have HO168 := Aside0.mk (Kd.R_lower ho0 (below_size bg_)); replace BK160 := Aside0.mk (bb_ BK160 hb); replace BK161 := Aside0.mk (bb_ BK161 hb); replace HB := Aside0.mk (below_step bg_ hb); (try clear hb); (try clear hb2); (try clear hk); (try clear hi); (try clear ho0)) | ((with_reducible refine gate_callee (f := 65) rfl ?_); refine goesL_ (some 27) rfl rfl Tryd.func65 (by kernel_rfl) rfl #[.string t163, .bool true] rfl lq_ ?_; (with_reducible refine (ip_groups.calls k t163 true t169 true _ ?side1 A4.out).mono ?_); (case side1 => exact lg_); rintro e w16 ⟨v171, rfl, ho0, hb⟩; refine ⟨_, rfl, ?_⟩; have n0_ := Aside0.mk (Kd.R_elder' (by (with_reducible repeat (first | apply Kd.R_alloc | apply Kd.R_drewN | apply Kd.R_drew)); exact HO168.out) (Kd.R_base ho0) hb); have n1_ := Aside0.mk (Kd.R_lower (Kd.R_new' ho0 (Kd.R_lt (by (with_reducible repeat (first | apply Kd.R_alloc | apply Kd.R_drewN | apply Kd.R_drew)); exact HO168.out))) (below_size bg_)); have n2_ := Aside0.mk (bb_ BK160 hb); have n3_ := Aside0.mk (bb_ BK161 hb); have n4_ := Aside0.mk (below_step bg_ hb); clear HO168; clear BK160; clear BK161; clear HB; have HO168 := n0_; have HO172 := n1_; have BK160 := n2_; have BK161 := n3_; have HB := n4_; clear n0_ n1_ n2_ n3_ n4_; (try clear hb); (try clear hb2); (try clear hk); (try clear hi); (try clear ho0); obtain ⟨Ao17, co17, eo17⟩ := Kd.R_slice HO168.out; subst eo17; obtain ⟨Ao18, co18, eo18⟩ := Kd.R_slice HO172.out; subst eo18; have hnb19 := NB161_160.out; have hnc19 := NB160_161.out; have hcz20_0 := cz_ BK161 0 (.int .u8 0); have hcz20_1 := cz_ BK161 1 (.int .u8 0); have hcz20_2 := cz_ BK161 2 (.int .u8 0); have hcz20_3 := cz_ BK161 3 (.int .u8 0); have hcz20_4 := cz_ BK161 4 (.int .u8 0); have hcz20_5 := cz_ BK161 5 (.int .u8 0); have hcz20_6 := cz_ BK161 6 (.int .u8 0); have hcz20_7 := cz_ BK161 7 (.int .u8 0); have hcz20_8 := cz_ BK161 8 (.int .u8 0); have hcz20_9 := cz_ BK161 9 (.int .u8 0); have hcz20_10 := cz_ BK161 10 (.int .u8 0); have hcz20_11 := cz_ BK161 11 (.int .u8 0); have hcz20_12 := cz_ BK161 12 (.int .u8 0); have hcz20_13 := cz_ BK161 13 (.int .u8 0); have hcz20_14 := cz_ BK161 14 (.int .u8 0); have hcz20_15 := cz_ BK161 15 (.int .u8 0); have hfz20_0 := bf_ BK161 0; have hfz20_1 := bf_ BK161 1; have hfz20_2 := bf_ BK161 2; have hfz20_3 := bf_ BK161 3; have hfz20_4 := bf_ BK161 4; have hfz20_5 := bf_ BK161 5; have hfz20_6 := bf_ BK161 6; have hfz20_7 := bf_ BK161 7; have hfz20_8 := bf_ BK161 8; have hfz20_9 := bf_ BK161 9; have hfz20_10 := bf_ BK161 10; have hfz20_11 := bf_ BK161 11; have hfz20_12 := bf_ BK161 12; have hfz20_13 := bf_ BK161 13; have hfz20_14 := bf_ BK161 14; have hfz20_15 := bf_ BK161 15) | ((with_reducible refine gate_dst (N := 60) rfl ?_); (try (refine gate_guard (by rfl) ?_; dsimp only)); obtain ⟨vcp_, hcw_⟩ := copy_world (P := Tryd.prog) (dT := 70) (sT := 70) (ty := 3) (c := co17) Tryd.underlying70 (info_size info5) BK161.out .u8 [] [0, 0, 0, 0, 0, 0, 0, 0, 0, 0, 0, 0, 0, 0, 0, 0] [] rfl 0 16 16 16 (by decide) (by decide) (by show 16 ≤ 16; decide) (by have h_ := HO168.out; first | exact (Kd.R_reads' h_).2.2 | exact (Kd.R_reads' (by (with_reducible repeat (first | apply Kd.R_alloc | apply Kd.R_drewN | apply Kd.R_drew)); exact HO168.out)).2.2) (q := 0) (Or.inl rfl); refine run_ev ?hg (N := 60) ?hd vcp_ (w1 := (w16.setCells gb161 0 ((cpyL 0 16 t165 0 [0, 0, 0, 0, 0, 0, 0, 0, 0, 0, 0, 0, 0, 0, 0, 0]).map (Value.int .u8)))) ?hr ?_; (case hd => rfl); (case hg => rfl); (case hr => first | (go_simp; done) | (go_simp; rw [hcw_]; rfl)); clear hcw_; intro w21 hw; have n0_ : Aside0 (Kd.R (Kd.int .u8) 5 w21 w.heap.size (fun k_ => some k_ ≠ (.slice Ao18 t169.length co18 : Value).ownBlock) (.slice Ao17 t165.length co17) t165) := ⟨(by rw [hw]; exact (by (with_reducible repeat (first | apply Kd.R_alloc | apply Kd.R_drewN | apply Kd.R_drew)); exact Kd.R_mono (R_farC (g := gb161) (fun _ hk => hk.2) (Kd.R_types HO168.out BK161.out (by decide)) ((cpyL 0 16 t165 0 [0, 0, 0, 0, 0, 0, 0, 0, 0, 0, 0, 0, 0, 0, 0, 0]).map (Value.int .u8)) 0) (fun _ hk => hk.1.2)))⟩; have n1_ : Aside0 (Kd.R (Kd.int .u8) 5 w21 w.heap.size (fun k_ => some k_ ≠ (.slice Ao17 t165.length co17 : Value).ownBlock) (.slice Ao18 t169.length co18) t169) := ⟨(by rw [hw]; exact (by (with_reducible repeat (first | apply Kd.R_alloc | apply Kd.R_drewN | apply Kd.R_drew)); exact Kd.R_mono (R_farC (g := gb161) (fun _ hk => hk.2) (Kd.R_types HO172.out BK161.out (by decide)) ((cpyL 0 16 t165 0 [0, 0, 0, 0, 0, 0, 0, 0, 0, 0, 0, 0, 0, 0, 0, 0]).map (Value.int .u8)) 0) (fun _ hk => hk.1.2)))⟩; have n2_ := Aside0.mk (sf_ BK160 NB160_161 hw); have n3_ : Aside0 (w21.heap[gb161]? = some (.cells #[.int .u8 (cpy 0 16 0 t165 0), .int .u8 (cpy 0 16 1 t165 0), .int .u8 (cpy 0 16 2 t165 0), .int .u8 (cpy 0 16 3 t165 0), .int .u8 (cpy 0 16 4 t165 0), .int .u8 (cpy 0 16 5 t165 0), .int .u8 (cpy 0 16 6 t165 0), .int .u8 (cpy 0 16 7 t165 0), .int .u8 (cpy 0 16 8 t165 0), .int .u8 (cpy 0 16 9 t165 0), .int .u8 (cpy 0 16 10 t165 0), .int .u8 (cpy 0 16 11 t165 0), .int .u8 (cpy 0 16 12 t165 0), .int .u8 (cpy 0 16 13 t165 0), .int .u8 (cpy 0 16 14 t165 0), .int .u8 (cpy 0 16 15 t165 0)] 22 (0, 0))) := ⟨(by rw [hw]; exact (by (with_reducible repeat (first | refine blk_drewN ?_ _ | refine blk_drew ?_ | refine blk_alloc ?_ _)); refine blk_part ((cpyL 0 16 t165 0 [0, 0, 0, 0, 0, 0, 0, 0, 0, 0, 0, 0, 0, 0, 0, 0]).map (Value.int .u8)) [.int .u8 0, .int .u8 0, .int .u8 0, .int .u8 0, .int .u8 0, .int .u8 0, .int .u8 0, .int .u8 0, .int .u8 0, .int .u8 0, .int .u8 0, .int .u8 0, .int .u8 0, .int .u8 0, .int .u8 0, .int .u8 0] [] [] (cs := #[.int .u8 0, .int .u8 0, .int .u8 0, .int .u8 0, .int .u8 0, .int .u8 0, .int .u8 0, .int .u8 0, .int .u8 0, .int .u8 0, .int .u8 0, .int .u8 0, .int .u8 0, .int .u8 0, .int .u8 0, .int .u8 0]) ?_ rfl rfl rfl; (with_reducible repeat (first | refine blk_drewN ?_ _ | refine blk_drew ?_ | refine blk_alloc ?_ _)); exact BK161.out))⟩; have n4_ := Aside0.mk (sb_ hw); clear hw; clear HO168; clear HO172; clear BK160; clear BK161; clear HB; have HO168 := n0_; have HO172 := n1_; have BK160 := n2_; have BK161 := n3_; have HB := n4_; clear n0_ n1_ n2_ n3_ n4_; have hsl22 := sl_arr (P := Tryd.prog) 22 5 16 Tryd.underlying22 (info_size info5) gb161 0 (ji9) (of_decide_eq_true as_) (of_decide_eq_true as_); have hcz23_0 := cz_ BK161 0 (.int .u8 (cpy 0 16 0 t165 0)); have hcz23_1 := cz_ BK161 1 (.int .u8 (cpy 0 16 1 t165 0)); have hcz23_2 := cz_ BK161 2 (.int .u8 (cpy 0 16 2 t165 0)); have hcz23_3 := cz_ BK161 3 (.int .u8 (cpy 0 16 3 t165 0)); have hcz23_4 := cz_ BK161 4 (.int .u8 (cpy 0 16 4 t165 0)); have hcz23_5 := cz_ BK161 5 (.int .u8 (cpy 0 16 5 t165 0)); have hcz23_6 := cz_ BK161 6 (.int .u8 (cpy 0 16 6 t165 0)); have hcz23_7 := cz_ BK161 7 (.int .u8 (cpy 0 16 7 t165 0)); have hcz23_8 := cz_ BK161 8 (.int .u8 (cpy 0 16 8 t165 0)); have hcz23_9 := cz_ BK161 9 (.int .u8 (cpy 0 16 9 t165 0)); have hcz23_10 := cz_ BK161 10 (.int .u8 (cpy 0 16 10 t165 0)); have hcz23_11 := cz_ BK161 11 (.int .u8 (cpy 0 16 11 t165 0)); have hcz23_12 := cz_ BK161 12 (.int .u8 (cpy 0 16 12 t165 0)); have hcz23_13 := cz_ BK161 13 (.int .u8 (cpy 0 16 13 t165 0)); have hcz23_14 := cz_ BK161 14 (.int .u8 (cpy 0 16 14 t165 0)); have hcz23_15 := cz_ BK161 15 (.int .u8 (cpy 0 16 15 t165 0)); have hfz23_0 := bf_ BK161 0; have hfz23_1 := bf_ BK161 1; have hfz23_2 := bf_ BK161 2; have hfz23_3 := bf_ BK161 3; have hfz23_4 := bf_ BK161 4; have hfz23_5 := bf_ BK161 5; have hfz23_6 := bf_ BK161 6; have hfz23_7 := bf_ BK161 7; have hfz23_8 := bf_ BK161 8; have hfz23_9 := bf_ BK161 9; have hfz23_10 := bf_ BK161 10; have hfz23_11 := bf_ BK161 11; have hfz23_12 := bf_ BK161 12; have hfz23_13 := bf_ BK161 13; have hfz23_14 := bf_ BK161 14; have hfz23_15 := bf_ BK161 15) | ((with_reducible refine gate_dst (N := 66) rfl ?_); (try (refine gate_guard (by rfl) ?_; dsimp only)); obtain ⟨vcp_, hcw_⟩ := copy_world (P := Tryd.prog) (dT := 70) (sT := 70) (ty := 3) (c := co18) Tryd.underlying70 (info_size info5) BK161.out .u8 [] [cpy 0 16 0 t165 0, cpy 0 16 1 t165 0, cpy 0 16 2 t165 0, cpy 0 16 3 t165 0, cpy 0 16 4 t165 0, cpy 0 16 5 t165 0, cpy 0 16 6 t165 0, cpy 0 16 7 t165 0, cpy 0 16 8 t165 0, cpy 0 16 9 t165 0, cpy 0 16 10 t165 0, cpy 0 16 11 t165 0, cpy 0 16 12 t165 0, cpy 0 16 13 t165 0, cpy 0 16 14 t165 0, cpy 0 16 15 t165 0] [] rfl (ji9) 16 (16 - (ji9).toNat) (16 - (ji9).toNat) (cut_le (of_decide_eq_true as_)) rfl (by show 16 ≤ 16; decide) (by have h_ := HO172.out; first | exact (Kd.R_reads' h_).2.2 | exact (Kd.R_reads' (by (with_reducible repeat (first | apply Kd.R_alloc | apply Kd.R_drewN | apply Kd.R_drew)); exact HO172.out)).2.2) (cutAt_or 0 16 (ji9)); refine run_ev ?hg (N := 66) ?hd vcp_ (w1 := (w21.setCells gb161 0 ((cpyL (ji9) 16 t169 0 [cpy 0 16 0 t165 0, cpy 0 16 1 t165 0, cpy 0 16 2 t165 0, cpy 0 16 3 t165 0, cpy 0 16 4 t165 0, cpy 0 16 5 t165 0, cpy 0 16 6 t165 0, cpy 0 16 7 t165 0, cpy 0 16 8 t165 0, cpy 0 16 9 t165 0, cpy 0 16 10 t165 0, cpy 0 16 11 t165 0, cpy 0 16 12 t165 0, cpy 0 16 13 t165 0, cpy 0 16 14 t165 0, cpy 0 16 15 t165 0]).map (Value.int .u8)))) ?hr ?_; (case hd => rfl); (case hg => rfl); (case hr => first | (go_simp; done) | (go_simp; rw [hcw_]; rfl)); clear hcw_; intro w24 hw; have n0_ : Aside0 (Kd.R (Kd.int .u8) 5 w24 w.heap.size (fun k_ => some k_ ≠ (.slice Ao18 t169.length co18 : Value).ownBlock) (.slice Ao17 t165.length co17) t165) := ⟨(by rw [hw]; exact (by (with_reducible repeat (first | apply Kd.R_alloc | apply Kd.R_drewN | apply Kd.R_drew)); exact Kd.R_mono (R_farC (g := gb161) (fun _ hk => hk.2) (Kd.R_types HO168.out BK161.out (by decide)) ((cpyL (ji9) 16 t169 0 [cpy 0 16 0 t165 0, cpy 0 16 1 t165 0, cpy 0 16 2 t165 0, cpy 0 16 3 t165 0, cpy 0 16 4 t165 0, cpy 0 16 5 t165 0, cpy 0 16 6 t165 0, cpy 0 16 7 t165 0, cpy 0 16 8 t165 0, cpy 0 16 9 t165 0, cpy 0 16 10 t165 0, cpy 0 16 11 t165 0, cpy 0 16 12 t165 0, cpy 0 16 13 t165 0, cpy 0 16 14 t165 0, cpy 0 16 15 t165 0]).map (Value.int .u8)) 0) (fun _ hk => hk.1)))⟩; have n1_ : Aside0 (Kd.R (Kd.int .u8) 5 w24 w.heap.size (fun k_ => some k_ ≠ (.slice Ao17 t165.length co17 : Value).ownBlock) (.slice Ao18 t169.length co18) t169) := ⟨(by rw [hw]; exact (by (with_reducible repeat (first | apply Kd.R_alloc | apply Kd.R_drewN | apply Kd.R_drew)); exact Kd.R_mono (R_farC (g := gb161) (fun _ hk => hk.2) (Kd.R_types HO172.out BK161.out (by decide)) ((cpyL (ji9) 16 t169 0 [cpy 0 16 0 t165 0, cpy 0 16 1 t165 0, cpy 0 16 2 t165 0, cpy 0 16 3 t165 0, cpy 0 16 4 t165 0, cpy 0 16 5 t165 0, cpy 0 16 6 t165 0, cpy 0 16 7 t165 0, cpy 0 16 8 t165 0, cpy 0 16 9 t165 0, cpy 0 16 10 t165 0, cpy 0 16 11 t165 0, cpy 0 16 12 t165 0, cpy 0 16 13 t165 0, cpy 0 16 14 t165 0, cpy 0 16 15 t165 0]).map (Value.int .u8)) 0) (fun _ hk => hk.1)))⟩; have n2_ := Aside0.mk (sf_ BK160 NB160_161 hw); have n3_ : Aside0 (w24.heap[gb161]? = some (.cells #[.int .u8 (cpy (ji9) 16 0 t169 (cpy 0 16 0 t165 0)), .int .u8 (cpy (ji9) 16 1 t169 (cpy 0 16 1 t165 0)), .int .u8 (cpy (ji9) 16 2 t169 (cpy 0 16 2 t165 0)), .int .u8 (cpy (ji9) 16 3 t169 (cpy 0 16 3 t165 0)), .int .u8 (cpy (ji9) 16 4 t169 (cpy 0 16 4 t165 0)), .int .u8 (cpy (ji9) 16 5 t169 (cpy 0 16 5 t165 0)), .int .u8 (cpy (ji9) 16 6 t169 (cpy 0 16 6 t165 0)), .int .u8 (cpy (ji9) 16 7 t169 (cpy 0 16 7 t165 0)), .int .u8 (cpy (ji9) 16 8 t169 (cpy 0 16 8 t165 0)), .int .u8 (cpy (ji9) 16 9 t169 (cpy 0 16 9 t165 0)), .int .u8 (cpy (ji9) 16 10 t169 (cpy 0 16 10 t165 0)), .int .u8 (cpy (ji9) 16 11 t169 (cpy 0 16 11 t165 0)), .int .u8 (cpy (ji9) 16 12 t169 (cpy 0 16 12 t165 0)), .int .u8 (cpy (ji9) 16 13 t169 (cpy 0 16 13 t165 0)), .int .u8 (cpy (ji9) 16 14 t169 (cpy 0 16 14 t165 0)), .int .u8 (cpy (ji9) 16 15 t169 (cpy 0 16 15 t165 0))] 22 (0, 0))) := ⟨(by rw [hw]; exact (by (with_reducible repeat (first | refine blk_drewN ?_ _ | refine blk_drew ?_ | refine blk_alloc ?_ _)); refine blk_part ((cpyL (ji9) 16 t169 0 [cpy 0 16 0 t165 0, cpy 0 16 1 t165 0, cpy 0 16 2 t165 0, cpy 0 16 3 t165 0, cpy 0 16 4 t165 0, cpy 0 16 5 t165 0, cpy 0 16 6 t165 0, cpy 0 16 7 t165 0, cpy 0 16 8 t165 0, cpy 0 16 9 t165 0, cpy 0 16 10 t165 0, cpy 0 16 11 t165 0, cpy 0 16 12 t165 0, cpy 0 16 13 t165 0, cpy 0 16 14 t165 0, cpy 0 16 15 t165 0]).map (Value.int .u8)) [.int .u8 (cpy 0 16 0 t165 0), .int .u8 (cpy 0 16 1 t165 0), .int .u8 (cpy 0 16 2 t165 0), .int .u8 (cpy 0 16 3 t165 0), .int .u8 (cpy 0 16 4 t165 0), .int .u8 (cpy 0 16 5 t165 0), .int .u8 (cpy 0 16 6 t165 0), .int .u8 (cpy 0 16 7 t165 0), .int .u8 (cpy 0 16 8 t165 0), .int .u8 (cpy 0 16 9 t165 0), .int .u8 (cpy 0 16 10 t165 0), .int .u8 (cpy 0 16 11 t165 0), .int .u8 (cpy 0 16 12 t165 0), .int .u8 (cpy 0 16 13 t165 0), .int .u8 (cpy 0 16 14 t165 0), .int .u8 (cpy 0 16 15 t165 0)] [] [] (cs := #[.int .u8 (cpy 0 16 0 t165 0), .int .u8 (cpy 0 16 1 t165 0), .int .u8 (cpy 0 16 2 t165 0), .int .u8 (cpy 0 16 3 t165 0), .int .u8 (cpy 0 16 4 t165 0), .int .u8 (cpy 0 16 5 t165 0), .int .u8 (cpy 0 16 6 t165 0), .int .u8 (cpy 0 16 7 t165 0), .int .u8 (cpy 0 16 8 t165 0), .int .u8 (cpy 0 16 9 t165 0), .int .u8 (cpy 0 16 10 t165 0), .int .u8 (cpy 0 16 11 t165 0), .int .u8 (cpy 0 16 12 t165 0), .int .u8 (cpy 0 16 13 t165 0), .int .u8 (cpy 0 16 14 t165 0), .int .u8 (cpy 0 16 15 t165 0)]) ?_ rfl rfl rfl; (with_reducible repeat (first | refine blk_drewN ?_ _ | refine blk_drew ?_ | refine blk_alloc ?_ _)); exact BK161.out))⟩; have n4_ := Aside0.mk (sb_ hw); clear hw; clear HO168; clear HO172; clear BK160; clear BK161; clear HB; have HO168 := n0_; have HO172 := n1_; have BK160 := n2_; have BK161 := n3_; have HB := n4_; clear n0_ n1_ n2_ n3_ n4_; have hcz25_0 := cz_ BK160 0 (.int .u8 0); have hcz25_1 := cz_ BK160 1 (.int .u8 0); have hcz25_2 := cz_ BK160 2 (.int .u8 0); have hcz25_3 := cz_ BK160 3 (.int .u8 0); have hcz25_4 := cz_ BK160 4 (.int .u8 0); have hcz25_5 := cz_ BK160 5 (.int .u8 0); have hcz25_6 := cz_ BK160 6 (.int .u8 0); have hcz25_7 := cz_ BK160 7 (.int .u8 0); have hcz25_8 := cz_ BK160 8 (.int .u8 0); have hcz25_9 := cz_ BK160 9 (.int .u8 0); have hcz25_10 := cz_ BK160 10 (.int .u8 0); have hcz25_11 := cz_ BK160 11 (.int .u8 0); have hcz25_12 := cz_ BK160 12 (.int .u8 0); have hcz25_13 := cz_ BK160 13 (.int .u8 0); have hcz25_14 := cz_ BK160 14 (.int .u8 0); have hcz25_15 := cz_ BK160 15 (.int .u8 0); have hfz25_0 := bf_ BK160 0; have hfz25_1 := bf_ BK160 1; have hfz25_2 := bf_ BK160 2; have hfz25_3 := bf_ BK160 3; have hfz25_4 := bf_ BK160 4; have hfz25_5 := bf_ BK160 5; have hfz25_6 := bf_ BK160 6; have hfz25_7 := bf_ BK160 7; have hfz25_8 := bf_ BK160 8; have hfz25_9 := bf_ BK160 9; have hfz25_10 := bf_ BK160 10; have hfz25_11 := bf_ BK160 11; have hfz25_12 := bf_ BK160 12; have hfz25_13 := bf_ BK160 13; have hfz25_14 := bf_ BK160 14; have hfz25_15 := bf_ BK160 15) | ((with_reducible refine gate_dst (N := 67) rfl ?_); (try (refine gate_guard (by rfl) ?_; dsimp only)); refine load_box ?hg 22 (.tmp 4) rfl BK161.out [] [.int .u8 (cpy (ji9) 16 0 t169 (cpy 0 16 0 t165 0)), .int .u8 (cpy (ji9) 16 1 t169 (cpy 0 16 1 t165 0)), .int .u8 (cpy (ji9) 16 2 t169 (cpy 0 16 2 t165 0)), .int .u8 (cpy (ji9) 16 3 t169 (cpy 0 16 3 t165 0)), .int .u8 (cpy (ji9) 16 4 t169 (cpy 0 16 4 t165 0)), .int .u8 (cpy (ji9) 16 5 t169 (cpy 0 16 5 t165 0)), .int .u8 (cpy (ji9) 16 6 t169 (cpy 0 16 6 t165 0)), .int .u8 (cpy (ji9) 16 7 t169 (cpy 0 16 7 t165 0)), .int .u8 (cpy (ji9) 16 8 t169 (cpy 0 16 8 t165 0)), .int .u8 (cpy (ji9) 16 9 t169 (cpy 0 16 9 t165 0)), .int .u8 (cpy (ji9) 16 10 t169 (cpy 0 16 10 t165 0)), .int .u8 (cpy (ji9) 16 11 t169 (cpy 0 16 11 t165 0)), .int .u8 (cpy (ji9) 16 12 t169 (cpy 0 16 12 t165 0)), .int .u8 (cpy (ji9) 16 13 t169 (cpy 0 16 13 t165 0)), .int .u8 (cpy (ji9) 16 14 t169 (cpy 0 16 14 t165 0)), .int .u8 (cpy (ji9) 16 15 t169 (cpy 0 16 15 t165 0))] [] rfl 0 rfl rfl Tryd.underlying22 rfl (by kernel_rfl) ?_; (case hg => rfl)) | ((with_reducible refine gate_store (t := 22) (p := 2) rfl ?_); refine store_all ?hg 22 2 _ rfl rfl gb160 [.int .u8 0, .int .u8 0, .int .u8 0, .int .u8 0, .int .u8 0, .int .u8 0, .int .u8 0, .int .u8 0, .int .u8 0, .int .u8 0, .int .u8 0, .int .u8 0, .int .u8 0, .int .u8 0, .int .u8 0, .int .u8 0] [.int .u8 (cpy (ji9) 16 0 t169 (cpy 0 16 0 t165 0)), .int .u8 (cpy (ji9) 16 1 t169 (cpy 0 16 1 t165 0)), .int .u8 (cpy (ji9) 16 2 t169 (cpy 0 16 2 t165 0)), .int .u8 (cpy (ji9) 16 3 t169 (cpy 0 16 3 t165 0)), .int .u8 (cpy (ji9) 16 4 t169 (cpy 0 16 4 t165 0)), .int .u8 (cpy (ji9) 16 5 t169 (cpy 0 16 5 t165 0)), .int .u8 (cpy (ji9) 16 6 t169 (cpy 0 16 6 t165 0)), .int .u8 (cpy (ji9) 16 7 t169 (cpy 0 16 7 t165 0)), .int .u8 (cpy (ji9) 16 8 t169 (cpy 0 16 8 t165 0)), .int .u8 (cpy (ji9) 16 9 t169 (cpy 0 16 9 t165 0)), .int .u8 (cpy (ji9) 16 10 t169 (cpy 0 16 10 t165 0)), .int .u8 (cpy (ji9) 16 11 t169 (cpy 0 16 11 t165 0)), .int .u8 (cpy (ji9) 16 12 t169 (cpy 0 16 12 t165 0)), .int .u8 (cpy (ji9) 16 13 t169 (cpy 0 16 13 t165 0)), .int .u8 (cpy (ji9) 16 14 t169 (cpy 0 16 14 t165 0)), .int .u8 (cpy (ji9) 16 15 t169 (cpy 0 16 15 t165 0))] BK160.out rfl rfl rfl (by kernel_rfl) rfl ?_; (case hg => rfl); intro w26 hw; have n0_ : Aside0 (Kd.R (Kd.int .u8) 5 w26 w.heap.size (fun k_ => some k_ ≠ (.slice Ao18 t169.length co18 : Value).ownBlock) (.slice Ao17 t165.length co17) t165) := ⟨(by rw [hw]; exact (by (with_reducible repeat (first | apply Kd.R_alloc | apply Kd.R_drewN | apply Kd.R_drew)); exact Kd.R_mono (R_farC (g := gb160) (fun _ hk => hk.2) (Kd.R_types HO168.out BK160.out (by decide)) [.int .u8 (cpy (ji9) 16 0 t169 (cpy 0 16 0 t165 0)), .int .u8 (cpy (ji9) 16 1 t169 (cpy 0 16 1 t165 0)), .int .u8 (cpy (ji9) 16 2 t169 (cpy 0 16 2 t165 0)), .int .u8 (cpy (ji9) 16 3 t169 (cpy 0 16 3 t165 0)), .int .u8 (cpy (ji9) 16 4 t169 (cpy 0 16 4 t165 0)), .int .u8 (cpy (ji9) 16 5 t169 (cpy 0 16 5 t165 0)), .int .u8 (cpy (ji9) 16 6 t169 (cpy 0 16 6 t165 0)), .int .u8 (cpy (ji9) 16 7 t169 (cpy 0 16 7 t165 0)), .int .u8 (cpy (ji9) 16 8 t169 (cpy 0 16 8 t165 0)), .int .u8 (cpy (ji9) 16 9 t169 (cpy 0 16 9 t165 0)), .int .u8 (cpy (ji9) 16 10 t169 (cpy 0 16 10 t165 0)), .int .u8 (cpy (ji9) 16 11 t169 (cpy 0 16 11 t165 0)), .int .u8 (cpy (ji9) 16 12 t169 (cpy 0 16 12 t165 0)), .int .u8 (cpy (ji9) 16 13 t169 (cpy 0 16 13 t165 0)), .int .u8 (cpy (ji9) 16 14 t169 (cpy 0 16 14 t165 0)), .int .u8 (cpy (ji9) 16 15 t169 (cpy 0 16 15 t165 0))] 0) (fun _ hk => hk.1)))⟩; have n1_ : Aside0 (Kd.R (Kd.int .u8) 5 w26 w.heap.size (fun k_ => some k_ ≠ (.slice Ao17 t165.length co17 : Value).ownBlock) (.slice Ao18 t169.length co18) t169) := ⟨(by rw [hw]; exact (by (with_reducible repeat (first | apply Kd.R_alloc | apply Kd.R_drewN | apply Kd.R_drew)); exact Kd.R_mono (R_farC (g := gb160) (fun _ hk => hk.2) (Kd.R_types HO172.out BK160.out (by decide)) [.int .u8 (cpy (ji9) 16 0 t169 (cpy 0 16 0 t165 0)), .int .u8 (cpy (ji9) 16 1 t169 (cpy 0 16 1 t165 0)), .int .u8 (cpy (ji9) 16 2 t169 (cpy 0 16 2 t165 0)), .int .u8 (cpy (ji9) 16 3 t169 (cpy 0 16 3 t165 0)), .int .u8 (cpy (ji9) 16 4 t169 (cpy 0 16 4 t165 0)), .int .u8 (cpy (ji9) 16 5 t169 (cpy 0 16 5 t165 0)), .int .u8 (cpy (ji9) 16 6 t169 (cpy 0 16 6 t165 0)), .int .u8 (cpy (ji9) 16 7 t169 (cpy 0 16 7 t165 0)), .int .u8 (cpy (ji9) 16 8 t169 (cpy 0 16 8 t165 0)), .int .u8 (cpy (ji9) 16 9 t169 (cpy 0 16 9 t165 0)), .int .u8 (cpy (ji9) 16 10 t169 (cpy 0 16 10 t165 0)), .int .u8 (cpy (ji9) 16 11 t169 (cpy 0 16 11 t165 0)), .int .u8 (cpy (ji9) 16 12 t169 (cpy 0 16 12 t165 0)), .int .u8 (cpy (ji9) 16 13 t169 (cpy 0 16 13 t165 0)), .int .u8 (cpy (ji9) 16 14 t169 (cpy 0 16 14 t165 0)), .int .u8 (cpy (ji9) 16 15 t169 (cpy 0 16 15 t165 0))] 0) (fun _ hk => hk.1)))⟩; have n2_ := Aside0.mk (show w26.heap[gb160]? = some (.cells #[.int .u8 (cpy (ji9) 16 0 t169 (cpy 0 16 0 t165 0)), .int .u8 (cpy (ji9) 16 1 t169 (cpy 0 16 1 t165 0)), .int .u8 (cpy (ji9) 16 2 t169 (cpy 0 16 2 t165 0)), .int .u8 (cpy (ji9) 16 3 t169 (cpy 0 16 3 t165 0)), .int .u8 (cpy (ji9) 16 4 t169 (cpy 0 16 4 t165 0)), .int .u8 (cpy (ji9) 16 5 t169 (cpy 0 16 5 t165 0)), .int .u8 (cpy (ji9) 16 6 t169 (cpy 0 16 6 t165 0)), .int .u8 (cpy (ji9) 16 7 t169 (cpy 0 16 7 t165 0)), .int .u8 (cpy (ji9) 16 8 t169 (cpy 0 16 8 t165 0)), .int .u8 (cpy (ji9) 16 9 t169 (cpy 0 16 9 t165 0)), .int .u8 (cpy (ji9) 16 10 t169 (cpy 0 16 10 t165 0)), .int .u8 (cpy (ji9) 16 11 t169 (cpy 0 16 11 t165 0)), .int .u8 (cpy (ji9) 16 12 t169 (cpy 0 16 12 t165 0)), .int .u8 (cpy (ji9) 16 13 t169 (cpy 0 16 13 t165 0)), .int .u8 (cpy (ji9) 16 14 t169 (cpy 0 16 14 t165 0)), .int .u8 (cpy (ji9) 16 15 t169 (cpy 0 16 15 t165 0))] 22 (0, 0)) from ss_ BK160 hw); have n3_ := Aside0.mk (sf_ BK161 NB161_160 hw); have n4_ := Aside0.mk (sb_ hw); clear hw; clear HO168; clear HO172; clear BK160; clear BK161; clear HB; have HO168 := n0_; have HO172 := n1_; have BK160 := n2_; have BK161 := n3_; have HB := n4_; clear n0_ n1_ n2_ n3_ n4_))
       refine bodyPost_ret (results_ct rfl _ _ gb160 22 #[.int .u8 (cpy (ji9) 16 0 t169 (cpy 0 16 0 t165 0)), .int .u8 (cpy (ji9) 16 1 t169 (cpy 0 16 1 t165 0)), .int .u8 (cpy (ji9) 16 2 t169 (cpy 0 16 2 t165 0)), .int .u8 (cpy (ji9) 16 3 t169 (cpy 0 16 3 t165 0)), .int .u8 (cpy (ji9) 16 4 t169 (cpy 0 16 4 t165 0)), .int .u8 (cpy (ji9) 16 5 t169 (cpy 0 16 5 t165 0)), .int .u8 (cpy (ji9) 16 6 t169 (cpy 0 16 6 t165 0)), .int .u8 (cpy (ji9) 16 7 t169 (cpy 0 16 7 t165 0)), .int .u8 (cpy (ji9) 16 8 t169 (cpy 0 16 8 t165 0)), .int .u8 (cpy (ji9) 16 9 t169 (cpy 0 16 9 t165 0)), .int .u8 (cpy (ji9) 16 10 t169 (cpy 0 16 10 t165 0)), .int .u8 (cpy (ji9) 16 11 t169 (cpy 0 16 11 t165 0)), .int .u8 (cpy (ji9) 16 12 t169 (cpy 0 16 12 t165 0)), .int .u8 (cpy (ji9) 16 13 t169 (cpy 0 16 13 t165 0)), .int .u8 (cpy (ji9) 16 14 t169 (cpy 0 16 14 t165 0)), .int .u8 (cpy (ji9) 16 15 t169 (cpy 0 16 15 t165 0))] (0, 0) _ rfl bk_ Tryd.underlying22 rfl (by kernel_rfl)) rfl ?_
       exact ⟨by first | rfl | (simp [errW_none, errW_some] <;> rfl) | (simp only [← hji9]; first | rfl | (simp [errW_none, errW_some] <;> rfl)) | (simp [*, errW_none, errW_some] <;> rfl) | (simp [errW_none, errW_some]; first | exact isEmpty_bne _ | exact isEmpty_beq _ | exact (isEmpty_bne _).symm), bg_⟩
      ·rw [if_neg c11] at H
       exact absurd H (by simp)
     ·rw [if_neg c10] at H
      exact absurd H (by simp)
   ·replace c7 := Bool.eq_false_iff.mpr c7
    subst c7
    replace H := ifF_ H
    exact absurd H (by simp)
  ·replace c6 := Bool.eq_false_iff.mpr c6
   subst c6
   replace H := ifF_ H
   exact absurd H (by simp)
 ·replace c5 := Bool.eq_false_iff.mpr c5
  subst c5
  replace H := ifF_ H
  exact absurd H (by simp)

end Go.Proofs.YtdopafhppaalfaaDoor.P
