-- Written by a program of this session (wip/gen/lprint.py over the kit's print.py) out of the translation. Lean checks it.
import Derived.Test.YtdopafhppaalfaaGreatDoorP0
import Derived.Test.YtdopafhppaalfaaGreatDoorZ
namespace Go.Proofs.YtdopafhppaalfaaGreatDoor.P
open Go.Proofs.YtdopafhppaalfaaGreatDoorZ
open Go.Proofs.YtdopafhppaalfaaGreatDoor.E Go.Proofs.YtdopafhppaalfaaGreatDoorV
open Go.RowKit Go.Proofs.YtdopafhppaalfaaGreatDoorW.PrintWords Go.Proofs.YtdopafhppaalfaaGreatDoorW.PrintLast Go.Proofs.YtdopafhppaalfaaGreatDoorW.PrintMore
attribute [local go_sem] max2_int min2_int max_two min_two max_three min_three max_four min_four   -- for this text's walks alone
set_option linter.unusedVariables false
set_option linter.unusedSimpArgs false

def lanternref05_Mapped.l0 : Nat → Int → Bool → Int → Int → Int → Int → Int → Int → Int → Int → Int → Int → Int → Int → Int → Int → Int → Int → Option (Bool)
 | 0, _, _, _, _, _, _, _, _, _, _, _, _, _, _, _, _, _, _ => none
 | k + 1, x3, V0, V1, V2, V3, V4, V5, V6, V7, V8, V9, V10, V11, V12, V13, V14, V15, V16 => if x3 < 12 then (if x3 < 10 then (if 0 ≤ x3 then (if x3 < 16 then (if (rd [V1, V2, V3, V4, V5, V6, V7, V8, V9, V10, V11, V12, V13, V14, V15, V16] x3) = 0 then (if x3 ≥ 10 then (if (rd [V1, V2, V3, V4, V5, V6, V7, V8, V9, V10, V11, V12, V13, V14, V15, V16] x3) = 255 then (lanternref05_Mapped.l0 k (wrap64 (x3 + 1)) V0 V1 V2 V3 V4 V5 V6 V7 V8 V9 V10 V11 V12 V13 V14 V15 V16) else (some false)) else (lanternref05_Mapped.l0 k (wrap64 (x3 + 1)) V0 V1 V2 V3 V4 V5 V6 V7 V8 V9 V10 V11 V12 V13 V14 V15 V16)) else (some false)) else (none)) else (none)) else (if x3 ≥ 10 then (if 0 ≤ x3 then (if x3 < 16 then (if (rd [V1, V2, V3, V4, V5, V6, V7, V8, V9, V10, V11, V12, V13, V14, V15, V16] x3) = 255 then (lanternref05_Mapped.l0 k (wrap64 (x3 + 1)) V0 V1 V2 V3 V4 V5 V6 V7 V8 V9 V10 V11 V12 V13 V14 V15 V16) else (some false)) else (none)) else (none)) else (lanternref05_Mapped.l0 k (wrap64 (x3 + 1)) V0 V1 V2 V3 V4 V5 V6 V7 V8 V9 V10 V11 V12 V13 V14 V15 V16))) else (some V0)
def lanternref05_Mapped.f (k : Nat) (z0 : Bool) (z1 : Int) (z2 : Int) (z3 : Int) (z4 : Int) (z5 : Int) (z6 : Int) (z7 : Int) (z8 : Int) (z9 : Int) (za : Int) (zb : Int) (zc : Int) (zd : Int) (ze : Int) (zf : Int) (zg : Int) : Option (Bool) := lanternref05_Mapped.l0 k 0 z0 z1 z2 z3 z4 z5 z6 z7 z8 z9 za zb zc zd ze zf zg
theorem lanternref05_Mapped.mono_l : ∀ k, (∀ y0 y1 y2 y3 y4 y5 y6 y7 y8 y9 y10 y11 y12 y13 y14 y15 y16 y17, LeO (lanternref05_Mapped.l0 k y0 y1 y2 y3 y4 y5 y6 y7 y8 y9 y10 y11 y12 y13 y14 y15 y16 y17) (lanternref05_Mapped.l0 (k + 1) y0 y1 y2 y3 y4 y5 y6 y7 y8 y9 y10 y11 y12 y13 y14 y15 y16 y17))
 | 0 => fun _ _ _ _ _ _ _ _ _ _ _ _ _ _ _ _ _ _ r h => by simp [lanternref05_Mapped.l0] at h
 | k + 1 => by
  have ih0 := lanternref05_Mapped.mono_l k
  ·intro y0 y1 y2 y3 y4 y5 y6 y7 y8 y9 y10 y11 y12 y13 y14 y15 y16 y17
   unfold lanternref05_Mapped.l0
   repeat' first
   | (with_reducible exact ih0 _ _ _ _ _ _ _ _ _ _ _ _ _ _ _ _ _ _)
   | (with_reducible exact LeO.refl _)
   | (with_reducible exact LeO.none _)
   | (with_reducible refine LeO.ite ?_ ?_)
   | (with_reducible refine LeO.bind ?_ (fun _ => ?_))
   | exact ih0 _ _ _ _ _ _ _ _ _ _ _ _ _ _ _ _ _ _
   | exact LeO.none _
   | refine LeO.ite ?_ ?_
   | refine LeO.bind ?_ (fun _ => ?_)
theorem lanternref05_Mapped.mono : ∀ a0 a1 a2 a3 a4 a5 a6 a7 a8 a9 a10 a11 a12 a13 a14 a15 a16 k, LeO (lanternref05_Mapped.f k a0 a1 a2 a3 a4 a5 a6 a7 a8 a9 a10 a11 a12 a13 a14 a15 a16) (lanternref05_Mapped.f (k + 1) a0 a1 a2 a3 a4 a5 a6 a7 a8 a9 a10 a11 a12 a13 a14 a15 a16) := by
 intro a0 a1 a2 a3 a4 a5 a6 a7 a8 a9 a10 a11 a12 a13 a14 a15 a16 k
 have ih0 := lanternref05_Mapped.mono_l k
 unfold lanternref05_Mapped.f
 repeat' first
   | (with_reducible exact ih0 _ _ _ _ _ _ _ _ _ _ _ _ _ _ _ _ _ _)
   | (with_reducible exact LeO.refl _)
   | (with_reducible exact LeO.none _)
   | (with_reducible refine LeO.ite ?_ ?_)
   | (with_reducible refine LeO.bind ?_ (fun _ => ?_))
   | exact ih0 _ _ _ _ _ _ _ _ _ _ _ _ _ _ _ _ _ _
   | exact LeO.none _
   | refine LeO.ite ?_ ?_
   | refine LeO.bind ?_ (fun _ => ?_)
set_option maxHeartbeats 8000000 in
set_option maxRecDepth 100000 in
theorem lanternref05_Mapped.calls (k : Nat) (z0 : Bool) (z1 : Int) (z2 : Int) (z3 : Int) (z4 : Int) (z5 : Int) (z6 : Int) (z7 : Int) (z8 : Int) (z9 : Int) (za : Int) (zb : Int) (zc : Int) (zd : Int) (ze : Int) (zf : Int) (zg : Int) (r : Bool) (w : World) (hLW : LW w) (h : lanternref05_Mapped.f k z0 z1 z2 z3 z4 z5 z6 z7 z8 z9 za zb zc zd ze zf zg = some r) :
  Calls Tryz.prog 50 #[.agg (ag_ z0 z1 z2 z3 z4 z5 z6 z7 z8 z9 za zb zc zd ze zf zg)] w fun e w' => e = .returned (.bool r) ∧ Below w.heap.size w w' := by
 have hu24 := Tryz.underlying24
 have HLW := Aside0.mk hLW
 clear hLW
 have HB := Aside0.mk (Below.refl w.heap.size w)
 have H := h
 unfold lanternref05_Mapped.f at H
 clear h
 have H' := Aside0.mk H
 clear H
 go_enter Tryz.func50, Tryz.ntmps50
 go_wp2_with (first | ((with_reducible refine gate_dst (N := 1) rfl ?_); refine bx_ 1 (ag_ z0 z1 z2 z3 z4 z5 z6 z7 z8 z9 za zb zc zd ze zf zg) 24 ?_; intro gb477 hg w2 hbox hb; have BK477 := Aside0.mk (hbox); have GW477 := Aside0.mk (ge_ (w := w) hg); have GE477 := Aside0.mk (ge_ (w := w) hg); replace HB := Aside0.mk (below_step bq_ hb); clear hb hbox hg))
 go_loopg [3] k (fun kq v3 w' => ∃ (x3_1 : Int), v3 = .int .i64 x3_1 ∧ Aside0 (lanternref05_Mapped.l0 kq x3_1 z0 z1 z2 z3 z4 z5 z6 z7 z8 z9 za zb zc zd ze zf zg = some r) ∧ Aside0 (kq ≤ k) ∧ Aside0 (w'.heap[gb477]? = some (.cells (ag_ z0 z1 z2 z3 z4 z5 z6 z7 z8 z9 za zb zc zd ze zf zg) 24 (0, 0))) ∧ Aside0 (Below w.heap.size w w'))
 case atStart => exact ⟨(0), sq_, H', ⟨Nat.le_refl _⟩, ⟨bk_⟩, ⟨bg_⟩⟩
 case round =>
  clear H'
  try clear p2
  obtain ⟨x3_1, rfl, HA, HK1, BK477, HB⟩ := hrel
  cases gk with
  | zero => exact absurd HA.out (by simp [lanternref05_Mapped.l0])
  | succ k1 =>
   have H := HA.out
   clear HA
   simp only [lanternref05_Mapped.l0] at H
   by_cases c3 : x3_1 < 12
   ·rw [if_pos c3] at H
    have c3b0 := decide_eq_true c3
    clear c3
    by_cases c4 : x3_1 < 10
    ·rw [if_pos c4] at H
     have c4b0 := decide_eq_true c4
     clear c4
     by_cases c5 : 0 ≤ x3_1
     ·rw [if_pos c5] at H
      have c5b0 := decide_eq_true c5
      clear c5
      by_cases c6 : x3_1 < 16
      ·rw [if_pos c6] at H
       have c6b0 := decide_eq_true c6
       clear c6
       by_cases c7 : (rd [z1, z2, z3, z4, z5, z6, z7, z8, z9, za, zb, zc, zd, ze, zf, zg] x3_1) = 0
       ·rw [if_pos c7] at H
        have c7b0 := beq_iff_eq.mpr c7
        have c7b1 := bne_eq_false_iff_eq.mpr c7
        clear c7
        by_cases c8 : x3_1 ≥ 10
        ·rw [if_pos c8] at H
         have c8b0 := decide_eq_true c8
         clear c8
         by_cases c9 : (rd [z1, z2, z3, z4, z5, z6, z7, z8, z9, za, zb, zc, zd, ze, zf, zg] x3_1) = 255
         ·rw [if_pos c9] at H
          have c9b0 := beq_iff_eq.mpr c9
          have c9b1 := bne_eq_false_iff_eq.mpr c9
          clear c9
          have H' := Aside0.mk H
          clear H
          have par10 : (0 ≤ x3_1) = True := eq_true (of_decide_eq_true as_)
          have qar10 : (x3_1 < 16) = True := eq_true (of_decide_eq_true as_)
          obtain ⟨hcz11_0, hcz11_1, hcz11_2, hcz11_3, hcz11_4, hcz11_5, hcz11_6, hcz11_7, hcz11_8, hcz11_9, hcz11_10, hcz11_11, hcz11_12, hcz11_13, hcz11_14, hcz11_15, hcz11_16⟩ := c17_ BK477
          obtain ⟨hfz11_0, hfz11_1, hfz11_2, hfz11_3, hfz11_4, hfz11_5, hfz11_6, hfz11_7, hfz11_8, hfz11_9, hfz11_10, hfz11_11, hfz11_12, hfz11_13, hfz11_14, hfz11_15, hfz11_16⟩ := f17_ BK477
          have hxar10 : wr.cell? ⟨gb477, 1 + (x3_1).toNat, none⟩ = some (.int .u8 (rd [z1, z2, z3, z4, z5, z6, z7, z8, z9, za, zb, zc, zd, ze, zf, zg] x3_1)) := (blk_idx BK477.out .u8 [.bool z0] [z1, z2, z3, z4, z5, z6, z7, z8, z9, za, zb, zc, zd, ze, zf, zg] [] rfl x3_1 (of_decide_eq_true as_) (of_decide_eq_true as_) rfl)
          have hfar10 := bf_ BK477 (1 + (x3_1).toNat)
          have par12 : (0 ≤ x3_1) = True := eq_true (of_decide_eq_true as_)
          have qar12 : (x3_1 < 16) = True := eq_true (of_decide_eq_true as_)
          have hxar12 : wr.cell? ⟨gb477, 1 + (x3_1).toNat, none⟩ = some (.int .u8 (rd [z1, z2, z3, z4, z5, z6, z7, z8, z9, za, zb, zc, zd, ze, zf, zg] x3_1)) := (blk_idx BK477.out .u8 [.bool z0] [z1, z2, z3, z4, z5, z6, z7, z8, z9, za, zb, zc, zd, ze, zf, zg] [] rfl x3_1 (of_decide_eq_true as_) (of_decide_eq_true as_) rfl)
          have hfar12 := bf_ BK477 (1 + (x3_1).toNat)
          go_wp2
          go_roundg k1
          case measure => have := HK1.out; omega
          case rel => exact ⟨(wrap64 (x3_1 + 1)), sq_, H', ⟨by have := HK1.out; omega⟩, ⟨bk_⟩, ⟨bg_⟩⟩
         ·rw [if_neg c9] at H
          have c9b0 := beq_eq_false_iff_ne.mpr c9
          have c9b1 := bne_iff_ne.mpr c9
          obtain rfl := Option.some.inj H
          have par13 : (0 ≤ x3_1) = True := eq_true (of_decide_eq_true as_)
          have qar13 : (x3_1 < 16) = True := eq_true (of_decide_eq_true as_)
          obtain ⟨hcz14_0, hcz14_1, hcz14_2, hcz14_3, hcz14_4, hcz14_5, hcz14_6, hcz14_7, hcz14_8, hcz14_9, hcz14_10, hcz14_11, hcz14_12, hcz14_13, hcz14_14, hcz14_15, hcz14_16⟩ := c17_ BK477
          obtain ⟨hfz14_0, hfz14_1, hfz14_2, hfz14_3, hfz14_4, hfz14_5, hfz14_6, hfz14_7, hfz14_8, hfz14_9, hfz14_10, hfz14_11, hfz14_12, hfz14_13, hfz14_14, hfz14_15, hfz14_16⟩ := f17_ BK477
          have hxar13 : wr.cell? ⟨gb477, 1 + (x3_1).toNat, none⟩ = some (.int .u8 (rd [z1, z2, z3, z4, z5, z6, z7, z8, z9, za, zb, zc, zd, ze, zf, zg] x3_1)) := (blk_idx BK477.out .u8 [.bool z0] [z1, z2, z3, z4, z5, z6, z7, z8, z9, za, zb, zc, zd, ze, zf, zg] [] rfl x3_1 (of_decide_eq_true as_) (of_decide_eq_true as_) rfl)
          have hfar13 := bf_ BK477 (1 + (x3_1).toNat)
          have par15 : (0 ≤ x3_1) = True := eq_true (of_decide_eq_true as_)
          have qar15 : (x3_1 < 16) = True := eq_true (of_decide_eq_true as_)
          have hxar15 : wr.cell? ⟨gb477, 1 + (x3_1).toNat, none⟩ = some (.int .u8 (rd [z1, z2, z3, z4, z5, z6, z7, z8, z9, za, zb, zc, zd, ze, zf, zg] x3_1)) := (blk_idx BK477.out .u8 [.bool z0] [z1, z2, z3, z4, z5, z6, z7, z8, z9, za, zb, zc, zd, ze, zf, zg] [] rfl x3_1 (of_decide_eq_true as_) (of_decide_eq_true as_) rfl)
          have hfar15 := bf_ BK477 (1 + (x3_1).toNat)
          go_wp2
          go_ret
          exact ⟨rq_, bg_⟩
        ·rw [if_neg c8] at H
         have c8b0 := decide_eq_false c8
         clear c8
         have H' := Aside0.mk H
         clear H
         have par16 : (0 ≤ x3_1) = True := eq_true (of_decide_eq_true as_)
         have qar16 : (x3_1 < 16) = True := eq_true (of_decide_eq_true as_)
         obtain ⟨hcz17_0, hcz17_1, hcz17_2, hcz17_3, hcz17_4, hcz17_5, hcz17_6, hcz17_7, hcz17_8, hcz17_9, hcz17_10, hcz17_11, hcz17_12, hcz17_13, hcz17_14, hcz17_15, hcz17_16⟩ := c17_ BK477
         obtain ⟨hfz17_0, hfz17_1, hfz17_2, hfz17_3, hfz17_4, hfz17_5, hfz17_6, hfz17_7, hfz17_8, hfz17_9, hfz17_10, hfz17_11, hfz17_12, hfz17_13, hfz17_14, hfz17_15, hfz17_16⟩ := f17_ BK477
         have hxar16 : wr.cell? ⟨gb477, 1 + (x3_1).toNat, none⟩ = some (.int .u8 (rd [z1, z2, z3, z4, z5, z6, z7, z8, z9, za, zb, zc, zd, ze, zf, zg] x3_1)) := (blk_idx BK477.out .u8 [.bool z0] [z1, z2, z3, z4, z5, z6, z7, z8, z9, za, zb, zc, zd, ze, zf, zg] [] rfl x3_1 (of_decide_eq_true as_) (of_decide_eq_true as_) rfl)
         have hfar16 := bf_ BK477 (1 + (x3_1).toNat)
         go_wp2
         go_roundg k1
         case measure => have := HK1.out; omega
         case rel => exact ⟨(wrap64 (x3_1 + 1)), sq_, H', ⟨by have := HK1.out; omega⟩, ⟨bk_⟩, ⟨bg_⟩⟩
       ·rw [if_neg c7] at H
        have c7b0 := beq_eq_false_iff_ne.mpr c7
        have c7b1 := bne_iff_ne.mpr c7
        obtain rfl := Option.some.inj H
        have par18 : (0 ≤ x3_1) = True := eq_true (of_decide_eq_true as_)
        have qar18 : (x3_1 < 16) = True := eq_true (of_decide_eq_true as_)
        obtain ⟨hcz19_0, hcz19_1, hcz19_2, hcz19_3, hcz19_4, hcz19_5, hcz19_6, hcz19_7, hcz19_8, hcz19_9, hcz19_10, hcz19_11, hcz19_12, hcz19_13, hcz19_14, hcz19_15, hcz19_16⟩ := c17_ BK477
        obtain ⟨hfz19_0, hfz19_1, hfz19_2, hfz19_3, hfz19_4, hfz19_5, hfz19_6, hfz19_7, hfz19_8, hfz19_9, hfz19_10, hfz19_11, hfz19_12, hfz19_13, hfz19_14, hfz19_15, hfz19_16⟩ := f17_ BK477
        have hxar18 : wr.cell? ⟨gb477, 1 + (x3_1).toNat, none⟩ = some (.int .u8 (rd [z1, z2, z3, z4, z5, z6, z7, z8, z9, za, zb, zc, zd, ze, zf, zg] x3_1)) := (blk_idx BK477.out .u8 [.bool z0] [z1, z2, z3, z4, z5, z6, z7, z8, z9, za, zb, zc, zd, ze, zf, zg] [] rfl x3_1 (of_decide_eq_true as_) (of_decide_eq_true as_) rfl)
        have hfar18 := bf_ BK477 (1 + (x3_1).toNat)
        go_wp2
        go_ret
        exact ⟨rq_, bg_⟩
      ·rw [if_neg c6] at H
       exact absurd H (by simp)
     ·rw [if_neg c5] at H
      exact absurd H (by simp)
    ·rw [if_neg c4] at H
     have c4b0 := decide_eq_false c4
     clear c4
     by_cases c20 : x3_1 ≥ 10
     ·rw [if_pos c20] at H
      have c20b0 := decide_eq_true c20
      clear c20
      by_cases c21 : 0 ≤ x3_1
      ·rw [if_pos c21] at H
       have c21b0 := decide_eq_true c21
       clear c21
       by_cases c22 : x3_1 < 16
       ·rw [if_pos c22] at H
        have c22b0 := decide_eq_true c22
        clear c22
        by_cases c23 : (rd [z1, z2, z3, z4, z5, z6, z7, z8, z9, za, zb, zc, zd, ze, zf, zg] x3_1) = 255
        ·rw [if_pos c23] at H
         have c23b0 := beq_iff_eq.mpr c23
         have c23b1 := bne_eq_false_iff_eq.mpr c23
         clear c23
         have H' := Aside0.mk H
         clear H
         have par24 : (0 ≤ x3_1) = True := eq_true (of_decide_eq_true as_)
         have qar24 : (x3_1 < 16) = True := eq_true (of_decide_eq_true as_)
         obtain ⟨hcz25_0, hcz25_1, hcz25_2, hcz25_3, hcz25_4, hcz25_5, hcz25_6, hcz25_7, hcz25_8, hcz25_9, hcz25_10, hcz25_11, hcz25_12, hcz25_13, hcz25_14, hcz25_15, hcz25_16⟩ := c17_ BK477
         obtain ⟨hfz25_0, hfz25_1, hfz25_2, hfz25_3, hfz25_4, hfz25_5, hfz25_6, hfz25_7, hfz25_8, hfz25_9, hfz25_10, hfz25_11, hfz25_12, hfz25_13, hfz25_14, hfz25_15, hfz25_16⟩ := f17_ BK477
         have hxar24 : wr.cell? ⟨gb477, 1 + (x3_1).toNat, none⟩ = some (.int .u8 (rd [z1, z2, z3, z4, z5, z6, z7, z8, z9, za, zb, zc, zd, ze, zf, zg] x3_1)) := (blk_idx BK477.out .u8 [.bool z0] [z1, z2, z3, z4, z5, z6, z7, z8, z9, za, zb, zc, zd, ze, zf, zg] [] rfl x3_1 (of_decide_eq_true as_) (of_decide_eq_true as_) rfl)
         have hfar24 := bf_ BK477 (1 + (x3_1).toNat)
         go_wp2
         go_roundg k1
         case measure => have := HK1.out; omega
         case rel => exact ⟨(wrap64 (x3_1 + 1)), sq_, H', ⟨by have := HK1.out; omega⟩, ⟨bk_⟩, ⟨bg_⟩⟩
        ·rw [if_neg c23] at H
         have c23b0 := beq_eq_false_iff_ne.mpr c23
         have c23b1 := bne_iff_ne.mpr c23
         obtain rfl := Option.some.inj H
         have par26 : (0 ≤ x3_1) = True := eq_true (of_decide_eq_true as_)
         have qar26 : (x3_1 < 16) = True := eq_true (of_decide_eq_true as_)
         obtain ⟨hcz27_0, hcz27_1, hcz27_2, hcz27_3, hcz27_4, hcz27_5, hcz27_6, hcz27_7, hcz27_8, hcz27_9, hcz27_10, hcz27_11, hcz27_12, hcz27_13, hcz27_14, hcz27_15, hcz27_16⟩ := c17_ BK477
         obtain ⟨hfz27_0, hfz27_1, hfz27_2, hfz27_3, hfz27_4, hfz27_5, hfz27_6, hfz27_7, hfz27_8, hfz27_9, hfz27_10, hfz27_11, hfz27_12, hfz27_13, hfz27_14, hfz27_15, hfz27_16⟩ := f17_ BK477
         have hxar26 : wr.cell? ⟨gb477, 1 + (x3_1).toNat, none⟩ = some (.int .u8 (rd [z1, z2, z3, z4, z5, z6, z7, z8, z9, za, zb, zc, zd, ze, zf, zg] x3_1)) := (blk_idx BK477.out .u8 [.bool z0] [z1, z2, z3, z4, z5, z6, z7, z8, z9, za, zb, zc, zd, ze, zf, zg] [] rfl x3_1 (of_decide_eq_true as_) (of_decide_eq_true as_) rfl)
         have hfar26 := bf_ BK477 (1 + (x3_1).toNat)
         go_wp2
         go_ret
         exact ⟨rq_, bg_⟩
       ·rw [if_neg c22] at H
        exact absurd H (by simp)
      ·rw [if_neg c21] at H
       exact absurd H (by simp)
     ·rw [if_neg c20] at H
      have c20b0 := decide_eq_false c20
      clear c20
      have H' := Aside0.mk H
      clear H
      go_wp2
      go_roundg k1
      case measure => have := HK1.out; omega
      case rel => exact ⟨(wrap64 (x3_1 + 1)), sq_, H', ⟨by have := HK1.out; omega⟩, ⟨bk_⟩, ⟨bg_⟩⟩
   ·rw [if_neg c3] at H
    have c3b0 := decide_eq_false c3
    clear c3
    obtain rfl := Option.some.inj H
    obtain ⟨hcz28_0, hcz28_1, hcz28_2, hcz28_3, hcz28_4, hcz28_5, hcz28_6, hcz28_7, hcz28_8, hcz28_9, hcz28_10, hcz28_11, hcz28_12, hcz28_13, hcz28_14, hcz28_15, hcz28_16⟩ := c17_ BK477
    obtain ⟨hfz28_0, hfz28_1, hfz28_2, hfz28_3, hfz28_4, hfz28_5, hfz28_6, hfz28_7, hfz28_8, hfz28_9, hfz28_10, hfz28_11, hfz28_12, hfz28_13, hfz28_14, hfz28_15, hfz28_16⟩ := f17_ BK477
    go_wp2
    go_ret
    exact ⟨rq_, bg_⟩

end Go.Proofs.YtdopafhppaalfaaGreatDoor.P
