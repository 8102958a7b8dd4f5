import Derived.Test.YtipleegkonhfcaaGreatDoorP3
namespace Go.Proofs.YtipleegkonhfcaaGreatDoor.P
open Go.Proofs.YtipleegkonhfcaaGreatDoorZ
open Go.Proofs.YtipleegkonhfcaaGreatDoor.E Go.Proofs.YtipleegkonhfcaaGreatDoorV
open Go.Proofs.YtipleegkonhfcaaGreatDoor.U
open Go.Proofs.YtipleegkonhfcaaGreatDoor.KF
open Go.RowKit Go.Proofs.YtipleegkonhfcaaGreatDoorW.PrintWords Go.Proofs.YtipleegkonhfcaaGreatDoorW.PrintLast Go.Proofs.YtipleegkonhfcaaGreatDoorW.PrintMore
attribute [local go_sem] max2_int min2_int max_two min_two max_three min_three max_four min_four   -- for this text's walks alone
set_option linter.unusedVariables false
set_option linter.unusedSimpArgs false

def stringslite_HasPrefix.f (a0 : ByteArray) (a1 : ByteArray) : Option (Bool) := if (a0.size : Int) ≥ (a1.size : Int) then (if 0 ≤ (a1.size : Int) then (if (a1.size : Int) ≤ (a0.size : Int) then (some ((a0.extract 0 ((a1.size : Int) : Int).toNat).toList == a1.toList)) else (none)) else (none)) else (some false)
set_option maxHeartbeats 8000000 in
set_option maxRecDepth 100000 in
theorem stringslite_HasPrefix.calls (a0 : ByteArray) (a1 : ByteArray) (r : Bool) (w : World) (hLW : LW w) (h : stringslite_HasPrefix.f a0 a1 = some r) :
  Calls Tryz.prog 112 #[.string a0, .string a1] w fun e w' => e = .returned (.bool r) ∧ Drawn0 w w' := by
 have HLW := Aside0.mk hLW
 clear hLW
 have H := h
 unfold stringslite_HasPrefix.f at H
 clear h
 by_cases c3 : (a0.size : Int) ≥ (a1.size : Int)
 ·rw [if_pos c3] at H
  have c3b0 := decide_eq_true c3
  have c3b1 : decide (a1.size ≤ a0.size) = true := decide_eq_true (Int.ofNat_le.mp c3)
  clear c3
  by_cases c4 : 0 ≤ (a1.size : Int)
  ·rw [if_pos c4] at H
   have c4b0 := eq_true c4
   have c4b1 := decide_eq_true c4
   clear c4
   by_cases c5 : (a1.size : Int) ≤ (a0.size : Int)
   ·rw [if_pos c5] at H
    have c5b0 := eq_true c5
    have c5b1 := decide_eq_true c5
    clear c5
    obtain rfl := Option.some.inj H
    go_enter Tryz.func112, Tryz.ntmps112
    go_wp2
    go_ret
    exact ⟨sq_, dd_⟩
   ·rw [if_neg c5] at H
    exact absurd H (by simp)
  ·rw [if_neg c4] at H
   exact absurd H (by simp)
 ·rw [if_neg c3] at H
  have c3b0 := decide_eq_false c3
  have c3b1 : decide (a1.size ≤ a0.size) = false := decide_eq_false (fun h => c3 (Int.ofNat_le.mpr h))
  clear c3
  obtain rfl := Option.some.inj H
  go_enter Tryz.func112, Tryz.ntmps112
  go_wp2
  go_ret
  exact ⟨sq_, dd_⟩

def strings_HasPrefix.f (a0 : ByteArray) (a1 : ByteArray) : Option (Bool) := (stringslite_HasPrefix.f a0 a1).bind fun t135 => (some t135)
set_option maxHeartbeats 8000000 in
set_option maxRecDepth 100000 in
theorem strings_HasPrefix.calls (a0 : ByteArray) (a1 : ByteArray) (r : Bool) (w : World) (hLW : LW w) (h : strings_HasPrefix.f a0 a1 = some r) :
  Calls Tryz.prog 89 #[.string a0, .string a1] w fun e w' => e = .returned (.bool r) ∧ Drawn0 w w' := by
 have HLW := Aside0.mk hLW
 clear hLW
 have H := h
 unfold strings_HasPrefix.f at H
 clear h
 replace H := Option.bind_eq_some_iff.mp H
 obtain ⟨t135, A30, H⟩ := H
 (try dsimp only at H)
 have A3 := Aside0.mk A30
 clear A30
 obtain rfl := Option.some.inj H
 go_enter Tryz.func89, Tryz.ntmps89
 go_wp2_with (first | ((with_reducible refine gate_callee (f := 112) rfl ?_); refine goesL_ (some 7) rfl rfl Tryz.func112 (by kernel_rfl) rfl #[.string a0, .string a1] rfl lq_ ?_; (with_reducible refine (stringslite_HasPrefix.calls a0 a1 t135 _ ?side1 A3.out).mono ?_); (case side1 => repeat (first | exact HLW.out | apply LW.drewN | apply LW.drew)); rintro e w' ⟨rfl, ⟨nd, rfl⟩⟩; refine ⟨_, rfl, ?_⟩))
 go_ret
 exact ⟨sq_, dd_⟩

def chunk_Decode.l0 : Nat → List Int → List Int → Int → Option (List Int × Int × Int)
 | 0, _, _, _ => none
 | k + 1, x0, x2, x3 => if 0 ≤ x3 then (if x3 ≤ (x0.length : Int) then ((chunk_take.f k (x0.drop (x3 : Int).toNat)).bind fun bt137 => (if bt137.2.2 = 0 then ((chunk_Size.f k bt137.1).bind fun bt140 => (if bt140.2 = 0 then (if bt140.1 = 0 then (if 0 ≤ (wrap64 (x3 + bt137.2.1)) then (if (wrap64 (x3 + bt137.2.1)) ≤ (x0.length : Int) then ((header_Parse.f k (x0.drop ((wrap64 (x3 + bt137.2.1)) : Int).toNat)).bind fun bt143 => (if bt143.2.2 = 0 then (some (x2, wrap64 ((wrap64 (x3 + bt137.2.1)) + bt143.2.1), 0)) else (some (([] : List Int), 0, bt143.2.2)))) else (none)) else (none)) else (if bt140.1 > (wrap64 (32768 - (x2.length : Int))) then (some (([] : List Int), 0, 3)) else (if 0 ≤ (wrap64 (x3 + bt137.2.1)) then (if (wrap64 (x3 + bt137.2.1)) ≤ (x0.length : Int) then (if ((x0.drop ((wrap64 (x3 + bt137.2.1)) : Int).toNat).length : Int) < bt140.1 then (some (([] : List Int), 0, 10)) else (if 0 ≤ bt140.1 then (if bt140.1 ≤ ((x0.drop ((wrap64 (x3 + bt137.2.1)) : Int).toNat).length : Int) then (if 0 ≤ (mn 2 (((x0.drop ((wrap64 (x3 + bt137.2.1)) : Int).toNat).drop (bt140.1 : Int).toNat).length : Int)) then (if (mn 2 (((x0.drop ((wrap64 (x3 + bt137.2.1)) : Int).toNat).drop (bt140.1 : Int).toNat).length : Int)) ≤ (((x0.drop ((wrap64 (x3 + bt137.2.1)) : Int).toNat).drop (bt140.1 : Int).toNat).length : Int) then ((strings_HasPrefix.f (⟨#[13, 10]⟩ : ByteArray) (strOfNums (((x0.drop ((wrap64 (x3 + bt137.2.1)) : Int).toNat).drop (bt140.1 : Int).toNat).take ((mn 2 (((x0.drop ((wrap64 (x3 + bt137.2.1)) : Int).toNat).drop (bt140.1 : Int).toNat).length : Int)) : Int).toNat))).bind fun t151 => (if t151 = true then (if (((x0.drop ((wrap64 (x3 + bt137.2.1)) : Int).toNat).drop (bt140.1 : Int).toNat).length : Int) < 2 then (some (([] : List Int), 0, 10)) else (if (wrap64 (x3 + bt137.2.1)) ≤ (wrap64 ((wrap64 (x3 + bt137.2.1)) + bt140.1)) then (if (wrap64 ((wrap64 (x3 + bt137.2.1)) + bt140.1)) ≤ (x0.length : Int) then (if x2.length + ((x0.take ((wrap64 ((wrap64 (x3 + bt137.2.1)) + bt140.1)) : Int).toNat).drop ((wrap64 (x3 + bt137.2.1)) : Int).toNat).length < 140737488355328 then (chunk_Decode.l0 k x0 (x2 ++ ((x0.take ((wrap64 ((wrap64 (x3 + bt137.2.1)) + bt140.1)) : Int).toNat).drop ((wrap64 (x3 + bt137.2.1)) : Int).toNat)) (wrap64 ((wrap64 (x3 + bt137.2.1)) + (wrap64 (bt140.1 + 2))))) else (none)) else (none)) else (none))) else (some (([] : List Int), 0, 5)))) else (none)) else (none)) else (none)) else (none))) else (none)) else (none)))) else (some (([] : List Int), 0, bt140.2)))) else (some (([] : List Int), 0, bt137.2.2)))) else (none)) else (none)
def chunk_Decode.f (k : Nat) (l0 : List Int) : Option (List Int × Int × Int) := chunk_Decode.l0 k l0 ([] : List Int) 0
theorem chunk_Decode.mono_l : ∀ k, (∀ y0 y1 y2, LeO (chunk_Decode.l0 k y0 y1 y2) (chunk_Decode.l0 (k + 1) y0 y1 y2))
 | 0 => fun _ _ _ r h => by simp [chunk_Decode.l0] at h
 | k + 1 => by
  have ih0 := chunk_Decode.mono_l k
  ·intro y0 y1 y2
   unfold chunk_Decode.l0
   repeat' first
   | (with_reducible exact ih0 _ _ _)
   | (with_reducible exact chunk_Size.mono _ _)
   | (with_reducible exact chunk_take.mono _ _)
   | (with_reducible exact header_Parse.mono _ _)
   | (with_reducible exact LeO.refl _)
   | (with_reducible exact LeO.none _)
   | (with_reducible refine LeO.ite ?_ ?_)
   | (with_reducible refine LeO.bind ?_ (fun _ => ?_))
   | exact ih0 _ _ _
   | exact chunk_Size.mono _ _
   | exact chunk_take.mono _ _
   | exact header_Parse.mono _ _
   | exact LeO.none _
   | refine LeO.ite ?_ ?_
   | refine LeO.bind ?_ (fun _ => ?_)
theorem chunk_Decode.mono : ∀ a0 k, LeO (chunk_Decode.f k a0) (chunk_Decode.f (k + 1) a0) := by
 intro a0 k
 have ih0 := chunk_Decode.mono_l k
 unfold chunk_Decode.f
 repeat' first
   | (with_reducible exact ih0 _ _ _)
   | (with_reducible exact chunk_Size.mono _ _)
   | (with_reducible exact chunk_take.mono _ _)
   | (with_reducible exact header_Parse.mono _ _)
   | (with_reducible exact LeO.refl _)
   | (with_reducible exact LeO.none _)
   | (with_reducible refine LeO.ite ?_ ?_)
   | (with_reducible refine LeO.bind ?_ (fun _ => ?_))
   | exact ih0 _ _ _
   | exact chunk_Size.mono _ _
   | exact chunk_take.mono _ _
   | exact header_Parse.mono _ _
   | exact LeO.none _
   | refine LeO.ite ?_ ?_
   | refine LeO.bind ?_ (fun _ => ?_)
set_option maxHeartbeats 8000000 in
set_option maxRecDepth 100000 in
theorem chunk_Decode.calls (k : Nat) (A0 : Option Addr) (c0 : Nat) (l0 : List Int) (r1 : List Int) (r2 : Int) (r3 : Int) (w : World) (hLW : LW w) (hr0 : Kd.C (Kd.int .u8) w A0 l0.length l0) (hc0 : l0.length ≤ c0) (h : chunk_Decode.f k l0 = some (r1, r2, r3)) :
  Calls Tryz.prog 55 #[.slice A0 l0.length c0] w fun e w' => ∃ v0_ : Value, e = .returned (.tuple #[v0_, .int .i64 r2, .int .i64 r3]) ∧ Kd.R (Kd.int .u8) 5 w' w.heap.size (fun _ => True) v0_ r1 ∧ Below w.heap.size w w' := by
 have HLW := Aside0.mk hLW
 clear hLW
 have HR0 := Aside0.mk hr0
 have HC0 := Aside0.mk hc0
 clear hr0 hc0
 have HB := Aside0.mk (Below.refl w.heap.size w)
 have H := h
 unfold chunk_Decode.f at H
 clear h
 have H' := Aside0.mk H
 clear H
 go_enter Tryz.func55, Tryz.ntmps55
 go_wp2
 go_loopg [2, 3] k (fun kq v2 v3 w' => ∃ (x2_1 : List Int) (x3_1 : Int), v3 = .int .i64 x3_1 ∧ Aside0 (chunk_Decode.l0 kq l0 x2_1 x3_1 = some (r1, r2, r3)) ∧ Aside0 (kq ≤ k) ∧ Aside0 (Kd.R (Kd.int .u8) 5 w' w.heap.size (fun _ => True) v2 x2_1) ∧ Aside0 (Below w.heap.size w w'))
 case atStart => exact ⟨(([] : List Int)), (0), sq_, H', ⟨Nat.le_refl _⟩, ⟨by first | exact Kd.R_nil _ _ _ _ _ | exact Kd.N_nil _ _ _ _ _ | exact Kd.V_nil _ _ _ _ _ | exact Kd.Q_nil _ _ _ _ _ | exact Kd.S_nil _ _ _ _ _⟩, ⟨bq_⟩⟩
 case round =>
  clear H'
  obtain ⟨x2_1, x3_1, rfl, HA, HK1, HO_2, HB⟩ := hrel
  cases gk with
  | zero => exact absurd HA.out (by simp [chunk_Decode.l0])
  | succ k1 =>
   have H := HA.out
   clear HA
   simp only [chunk_Decode.l0] at H
   by_cases c2 : 0 ≤ x3_1
   ·rw [if_pos c2] at H
    have c2b0 := eq_true c2
    have c2b1 := decide_eq_true c2
    clear c2
    by_cases c3 : x3_1 ≤ (l0.length : Int)
    ·rw [if_pos c3] at H
     have c3b0 := eq_true c3
     have c3b1 := decide_eq_true c3
     clear c3
     replace H := Option.bind_eq_some_iff.mp H
     obtain ⟨⟨t137, t138, t139⟩, A40, H⟩ := H
     (try dsimp only at H)
     have A4 := Aside0.mk A40
     clear A40
     by_cases c5 : t139 = 0
     ·rw [if_pos c5] at H
      have c5b0 := beq_iff_eq.mpr c5
      have c5b1 := bne_eq_false_iff_eq.mpr c5
      clear c5
      replace H := Option.bind_eq_some_iff.mp H
      obtain ⟨⟨t140, t141⟩, A60, H⟩ := H
      (try dsimp only at H)
      have A6 := Aside0.mk A60
      clear A60
      by_cases c7 : t141 = 0
      ·rw [if_pos c7] at H
       have c7b0 := beq_iff_eq.mpr c7
       have c7b1 := bne_eq_false_iff_eq.mpr c7
       clear c7
       by_cases c8 : t140 = 0
       ·rw [if_pos c8] at H
        have c8b0 := beq_iff_eq.mpr c8
        have c8b1 := bne_eq_false_iff_eq.mpr c8
        clear c8
        obtain ⟨ji9, hji9⟩ : ∃ j_ : Int, (wrap64 (x3_1 + t138)) = j_ := ⟨_, rfl⟩
        replace H : (if 0 ≤ (ji9) then (if (ji9) ≤ (l0.length : Int) then ((header_Parse.f k1 (l0.drop ((ji9) : Int).toNat)).bind fun bt143 => (if bt143.2.2 = 0 then (some (x2_1, wrap64 ((ji9) + bt143.2.1), 0)) else (some (([] : List Int), 0, bt143.2.2)))) else (none)) else (none)) = some (r1, r2, r3) := by first | (rw [hji9] at H; exact H) | (simp only [hji9] at H ⊢; exact H)
        (try rw [hji9] at A4)
        (try rw [hji9] at A6)
        have hji9w : (IntKind.i64.wrap (x3_1 + t138)) = ji9 := (i64_w _).trans hji9
        by_cases c10 : 0 ≤ (ji9)
        ·rw [if_pos c10] at H
         have c10b0 := eq_true c10
         have c10b1 := decide_eq_true c10
         clear c10
         by_cases c11 : (ji9) ≤ (l0.length : Int)
         ·rw [if_pos c11] at H
          have c11b0 := eq_true c11
          have c11b1 := decide_eq_true c11
          clear c11
          replace H := Option.bind_eq_some_iff.mp H
          obtain ⟨⟨t143, t144, t145⟩, A120, H⟩ := H
          (try dsimp only at H)
          have A12 := Aside0.mk A120
          clear A120
          by_cases c13 : t145 = 0
          ·rw [if_pos c13] at H
           have c13b0 := beq_iff_eq.mpr c13
           have c13b1 := bne_eq_false_iff_eq.mpr c13
           clear c13
           simp only [Option.some.injEq, Prod.mk.injEq] at H
           obtain ⟨rfl, rfl, rfl⟩ := H
           obtain ⟨i014, hi014, _, hsz14, _⟩ := info_parts info5
           obtain ⟨A14, hcut14, hA14, hC14⟩ := print_drop_of (P := Tryz.prog) (Value.int .u8) 0 22 5 .i64 Tryz.underlying22 hi014 hsz14 A0 c0 l0 x3_1 (of_decide_eq_true as_) (of_decide_eq_true as_) HC0.out
           have HR136 := Aside0.mk (Kd.C_of_reads (h1 := fun _ => rfl) (hA14 _ (Kd.reads_of_C HR0.out)))
           have HC136 := Aside0.mk hC14
           clear hA14 hC14 hi014 hsz14
           go_wp2_with (first | ((with_reducible refine gate_callee (f := 87) rfl ?_); refine goesL_ (some 17) rfl rfl Tryz.func87 (by kernel_rfl) rfl #[.slice A14 (l0.drop (x3_1 : Int).toNat).length (c0 - x3_1.toNat)] rfl (by (try simp only [List.map_toArray, List.map_cons, List.map_nil]); first | done | (rw [show (l0.drop (x3_1 : Int).toNat).length = (l0.length - x3_1.toNat) from List.length_drop] <;> rfl) | rfl | (simp only [List.length_drop, List.length_take]; rfl)) ?_; (with_reducible refine (chunk_take.calls k1 _ _ (l0.drop (x3_1 : Int).toNat) t137 t138 t139 _ ?side3 ?side1 ?side2 A4.out).mono ?_); (case side1 => repeat (first | exact (Kd.C_below HR136.out HB.out) | (with_reducible refine Kd.C_alloc ?_ _) | (with_reducible refine Kd.C_drewN ?_ _) | (with_reducible refine Kd.C_drew ?_))); (case side2 => exact HC136.out); (case side3 => exact lw_); rintro e w15 ⟨rfl, hb⟩; refine ⟨_, rfl, ?_⟩; replace HO_2 := Aside0.mk (Kd.R_below (by (with_reducible repeat (first | apply Kd.R_alloc | apply Kd.R_drewN | apply Kd.R_drew)); exact HO_2.out) hb); replace HB := Aside0.mk (below_step bq_ hb)) | ((with_reducible refine gate_callee (f := 88) rfl ?_); refine goesL_ (some 26) rfl rfl Tryz.func88 (by kernel_rfl) rfl #[.string t137] rfl lq_ ?_; (with_reducible refine (chunk_Size.calls k1 t137 t140 t141 _ ?side1 A6.out).mono ?_); (case side1 => exact lw_); rintro e w16 ⟨rfl, hb⟩; refine ⟨_, rfl, ?_⟩; replace HO_2 := Aside0.mk (Kd.R_below (by (with_reducible repeat (first | apply Kd.R_alloc | apply Kd.R_drewN | apply Kd.R_drew)); exact HO_2.out) hb); replace HB := Aside0.mk (below_step bq_ hb); obtain ⟨i017, hi017, _, hsz17, _⟩ := info_parts info5; obtain ⟨A17, hcut17, hA17, hC17⟩ := print_drop_of (P := Tryz.prog) (Value.int .u8) 0 22 5 .i64 Tryz.underlying22 hi017 hsz17 A0 c0 l0 (ji9) (of_decide_eq_true as_) (of_decide_eq_true as_) HC0.out; have HR142 := Aside0.mk (Kd.C_of_reads (h1 := fun _ => rfl) (hA17 _ (Kd.reads_of_C HR0.out))); have HC142 := Aside0.mk hC17; clear hA17 hC17 hi017 hsz17) | ((with_reducible refine gate_callee (f := 27) rfl ?_); refine goesL_ (some 41) rfl rfl Tryz.func27 (by kernel_rfl) rfl #[.slice A17 (l0.drop ((ji9) : Int).toNat).length (c0 - (ji9).toNat)] rfl (by (try simp only [List.map_toArray, List.map_cons, List.map_nil]); first | done | (rw [show (l0.drop ((ji9) : Int).toNat).length = (l0.length - (ji9).toNat) from List.length_drop] <;> rfl) | (simp only [hji9]; rfl) | rfl | (simp only [List.length_drop, List.length_take]; rfl)) ?_; (with_reducible refine (header_Parse.calls k1 _ _ (l0.drop ((ji9) : Int).toNat) t143 t144 t145 _ ?side3 ?side1 ?side2 A12.out).mono ?_); (case side1 => repeat (first | exact (Kd.C_below HR142.out HB.out) | (with_reducible refine Kd.C_alloc ?_ _) | (with_reducible refine Kd.C_drewN ?_ _) | (with_reducible refine Kd.C_drew ?_))); (case side2 => exact HC142.out); (case side3 => exact lw_); rintro e w18 ⟨v146, rfl, ho0, hb⟩; refine ⟨_, rfl, ?_⟩; replace HO_2 := Aside0.mk (Kd.R_below (by (with_reducible repeat (first | apply Kd.R_alloc | apply Kd.R_drewN | apply Kd.R_drew)); exact HO_2.out) hb); have HO147 := Aside0.mk (Kd.R_lower ho0 (below_size bq_)); replace HB := Aside0.mk (below_step bq_ hb)))
           go_ret3
           exact ⟨_, by first | rfl | (simp [errW_none, errW_some] <;> rfl) | (simp only [← hji9]; first | rfl | (simp [errW_none, errW_some] <;> rfl)) | (simp [*, errW_none, errW_some] <;> rfl) | (simp [errW_none, errW_some]; first | exact isEmpty_bne _ | exact isEmpty_beq _ | exact (isEmpty_bne _).symm), by (with_reducible repeat (first | apply Kd.R_alloc | apply Kd.R_drewN | apply Kd.R_drew)); exact HO_2.out, bq_⟩
          ·rw [if_neg c13] at H
           have c13b0 := beq_eq_false_iff_ne.mpr c13
           have c13b1 := bne_iff_ne.mpr c13
           simp only [Option.some.injEq, Prod.mk.injEq] at H
           obtain ⟨rfl, rfl, rfl⟩ := H
           obtain ⟨i019, hi019, _, hsz19, _⟩ := info_parts info5
           obtain ⟨A19, hcut19, hA19, hC19⟩ := print_drop_of (P := Tryz.prog) (Value.int .u8) 0 22 5 .i64 Tryz.underlying22 hi019 hsz19 A0 c0 l0 x3_1 (of_decide_eq_true as_) (of_decide_eq_true as_) HC0.out
           have HR136 := Aside0.mk (Kd.C_of_reads (h1 := fun _ => rfl) (hA19 _ (Kd.reads_of_C HR0.out)))
           have HC136 := Aside0.mk hC19
           clear hA19 hC19 hi019 hsz19
           go_wp2_with (first | ((with_reducible refine gate_callee (f := 87) rfl ?_); refine goesL_ (some 17) rfl rfl Tryz.func87 (by kernel_rfl) rfl #[.slice A19 (l0.drop (x3_1 : Int).toNat).length (c0 - x3_1.toNat)] rfl (by (try simp only [List.map_toArray, List.map_cons, List.map_nil]); first | done | (rw [show (l0.drop (x3_1 : Int).toNat).length = (l0.length - x3_1.toNat) from List.length_drop] <;> rfl) | rfl | (simp only [List.length_drop, List.length_take]; rfl)) ?_; (with_reducible refine (chunk_take.calls k1 _ _ (l0.drop (x3_1 : Int).toNat) t137 t138 t139 _ ?side3 ?side1 ?side2 A4.out).mono ?_); (case side1 => repeat (first | exact (Kd.C_below HR136.out HB.out) | (with_reducible refine Kd.C_alloc ?_ _) | (with_reducible refine Kd.C_drewN ?_ _) | (with_reducible refine Kd.C_drew ?_))); (case side2 => exact HC136.out); (case side3 => exact lw_); rintro e w20 ⟨rfl, hb⟩; refine ⟨_, rfl, ?_⟩; replace HO_2 := Aside0.mk (Kd.R_below (by (with_reducible repeat (first | apply Kd.R_alloc | apply Kd.R_drewN | apply Kd.R_drew)); exact HO_2.out) hb); replace HB := Aside0.mk (below_step bq_ hb)) | ((with_reducible refine gate_callee (f := 88) rfl ?_); refine goesL_ (some 26) rfl rfl Tryz.func88 (by kernel_rfl) rfl #[.string t137] rfl lq_ ?_; (with_reducible refine (chunk_Size.calls k1 t137 t140 t141 _ ?side1 A6.out).mono ?_); (case side1 => exact lw_); rintro e w21 ⟨rfl, hb⟩; refine ⟨_, rfl, ?_⟩; replace HO_2 := Aside0.mk (Kd.R_below (by (with_reducible repeat (first | apply Kd.R_alloc | apply Kd.R_drewN | apply Kd.R_drew)); exact HO_2.out) hb); replace HB := Aside0.mk (below_step bq_ hb); obtain ⟨i022, hi022, _, hsz22, _⟩ := info_parts info5; obtain ⟨A22, hcut22, hA22, hC22⟩ := print_drop_of (P := Tryz.prog) (Value.int .u8) 0 22 5 .i64 Tryz.underlying22 hi022 hsz22 A0 c0 l0 (ji9) (of_decide_eq_true as_) (of_decide_eq_true as_) HC0.out; have HR142 := Aside0.mk (Kd.C_of_reads (h1 := fun _ => rfl) (hA22 _ (Kd.reads_of_C HR0.out))); have HC142 := Aside0.mk hC22; clear hA22 hC22 hi022 hsz22) | ((with_reducible refine gate_callee (f := 27) rfl ?_); refine goesL_ (some 41) rfl rfl Tryz.func27 (by kernel_rfl) rfl #[.slice A22 (l0.drop ((ji9) : Int).toNat).length (c0 - (ji9).toNat)] rfl (by (try simp only [List.map_toArray, List.map_cons, List.map_nil]); first | done | (rw [show (l0.drop ((ji9) : Int).toNat).length = (l0.length - (ji9).toNat) from List.length_drop] <;> rfl) | (simp only [hji9]; rfl) | rfl | (simp only [List.length_drop, List.length_take]; rfl)) ?_; (with_reducible refine (header_Parse.calls k1 _ _ (l0.drop ((ji9) : Int).toNat) t143 t144 t145 _ ?side3 ?side1 ?side2 A12.out).mono ?_); (case side1 => repeat (first | exact (Kd.C_below HR142.out HB.out) | (with_reducible refine Kd.C_alloc ?_ _) | (with_reducible refine Kd.C_drewN ?_ _) | (with_reducible refine Kd.C_drew ?_))); (case side2 => exact HC142.out); (case side3 => exact lw_); rintro e w23 ⟨v146, rfl, ho0, hb⟩; refine ⟨_, rfl, ?_⟩; replace HO_2 := Aside0.mk (Kd.R_below (by (with_reducible repeat (first | apply Kd.R_alloc | apply Kd.R_drewN | apply Kd.R_drew)); exact HO_2.out) hb); have HO147 := Aside0.mk (Kd.R_lower ho0 (below_size bq_)); replace HB := Aside0.mk (below_step bq_ hb)))
           go_ret3
           exact ⟨_, by first | rfl | (simp [errW_none, errW_some] <;> rfl) | (simp only [← hji9]; first | rfl | (simp [errW_none, errW_some] <;> rfl)) | (simp [*, errW_none, errW_some] <;> rfl) | (simp [errW_none, errW_some]; first | exact isEmpty_bne _ | exact isEmpty_beq _ | exact (isEmpty_bne _).symm), by first | exact Kd.R_nil _ _ _ _ _ | exact Kd.N_nil _ _ _ _ _ | exact Kd.V_nil _ _ _ _ _ | exact Kd.Q_nil _ _ _ _ _ | exact Kd.S_nil _ _ _ _ _, bq_⟩
         ·rw [if_neg c11] at H
          exact absurd H (by simp)
        ·rw [if_neg c10] at H
         exact absurd H (by simp)
       ·rw [if_neg c8] at H
        have c8b0 := beq_eq_false_iff_ne.mpr c8
        have c8b1 := bne_iff_ne.mpr c8
        by_cases c24 : t140 > (wrap64 (32768 - (x2_1.length : Int)))
        ·rw [if_pos c24] at H
         have c24b0 := decide_eq_true c24
         clear c24
         simp only [Option.some.injEq, Prod.mk.injEq] at H
         obtain ⟨rfl, rfl, rfl⟩ := H
         obtain ⟨i025, hi025, _, hsz25, _⟩ := info_parts info5
         obtain ⟨A25, hcut25, hA25, hC25⟩ := print_drop_of (P := Tryz.prog) (Value.int .u8) 0 22 5 .i64 Tryz.underlying22 hi025 hsz25 A0 c0 l0 x3_1 (of_decide_eq_true as_) (of_decide_eq_true as_) HC0.out
         have HR136 := Aside0.mk (Kd.C_of_reads (h1 := fun _ => rfl) (hA25 _ (Kd.reads_of_C HR0.out)))
         have HC136 := Aside0.mk hC25
         clear hA25 hC25 hi025 hsz25
         go_wp2_with (first | ((with_reducible refine gate_callee (f := 87) rfl ?_); refine goesL_ (some 17) rfl rfl Tryz.func87 (by kernel_rfl) rfl #[.slice A25 (l0.drop (x3_1 : Int).toNat).length (c0 - x3_1.toNat)] rfl (by (try simp only [List.map_toArray, List.map_cons, List.map_nil]); first | done | (rw [show (l0.drop (x3_1 : Int).toNat).length = (l0.length - x3_1.toNat) from List.length_drop] <;> rfl) | rfl | (simp only [List.length_drop, List.length_take]; rfl)) ?_; (with_reducible refine (chunk_take.calls k1 _ _ (l0.drop (x3_1 : Int).toNat) t137 t138 t139 _ ?side3 ?side1 ?side2 A4.out).mono ?_); (case side1 => repeat (first | exact (Kd.C_below HR136.out HB.out) | (with_reducible refine Kd.C_alloc ?_ _) | (with_reducible refine Kd.C_drewN ?_ _) | (with_reducible refine Kd.C_drew ?_))); (case side2 => exact HC136.out); (case side3 => exact lw_); rintro e w26 ⟨rfl, hb⟩; refine ⟨_, rfl, ?_⟩; replace HO_2 := Aside0.mk (Kd.R_below (by (with_reducible repeat (first | apply Kd.R_alloc | apply Kd.R_drewN | apply Kd.R_drew)); exact HO_2.out) hb); replace HB := Aside0.mk (below_step bq_ hb)) | ((with_reducible refine gate_callee (f := 88) rfl ?_); refine goesL_ (some 26) rfl rfl Tryz.func88 (by kernel_rfl) rfl #[.string t137] rfl lq_ ?_; (with_reducible refine (chunk_Size.calls k1 t137 t140 t141 _ ?side1 A6.out).mono ?_); (case side1 => exact lw_); rintro e w27 ⟨rfl, hb⟩; refine ⟨_, rfl, ?_⟩; replace HO_2 := Aside0.mk (Kd.R_below (by (with_reducible repeat (first | apply Kd.R_alloc | apply Kd.R_drewN | apply Kd.R_drew)); exact HO_2.out) hb); replace HB := Aside0.mk (below_step bq_ hb); obtain ⟨Ao28, co28, eo28⟩ := Kd.R_slice HO_2.out; subst eo28))
         go_ret3
         exact ⟨_, rq_, by first | exact Kd.R_nil _ _ _ _ _ | exact Kd.N_nil _ _ _ _ _ | exact Kd.V_nil _ _ _ _ _ | exact Kd.Q_nil _ _ _ _ _ | exact Kd.S_nil _ _ _ _ _, bq_⟩
        ·rw [if_neg c24] at H
         have c24b0 := decide_eq_false c24
         clear c24
         obtain ⟨ji29, hji29⟩ : ∃ j_ : Int, (wrap64 (x3_1 + t138)) = j_ := ⟨_, rfl⟩
         replace H : (if 0 ≤ (ji29) then (if (ji29) ≤ (l0.length : Int) then (if ((l0.drop ((ji29) : Int).toNat).length : Int) < t140 then (some (([] : List Int), 0, 10)) else (if 0 ≤ t140 then (if t140 ≤ ((l0.drop ((ji29) : Int).toNat).length : Int) then (if 0 ≤ (mn 2 (((l0.drop ((ji29) : Int).toNat).drop (t140 : Int).toNat).length : Int)) then (if (mn 2 (((l0.drop ((ji29) : Int).toNat).drop (t140 : Int).toNat).length : Int)) ≤ (((l0.drop ((ji29) : Int).toNat).drop (t140 : Int).toNat).length : Int) then ((strings_HasPrefix.f (⟨#[13, 10]⟩ : ByteArray) (strOfNums (((l0.drop ((ji29) : Int).toNat).drop (t140 : Int).toNat).take ((mn 2 (((l0.drop ((ji29) : Int).toNat).drop (t140 : Int).toNat).length : Int)) : Int).toNat))).bind fun t151 => (if t151 = true then (if (((l0.drop ((ji29) : Int).toNat).drop (t140 : Int).toNat).length : Int) < 2 then (some (([] : List Int), 0, 10)) else (if (ji29) ≤ (wrap64 ((ji29) + t140)) then (if (wrap64 ((ji29) + t140)) ≤ (l0.length : Int) then (if x2_1.length + ((l0.take ((wrap64 ((ji29) + t140)) : Int).toNat).drop ((ji29) : Int).toNat).length < 140737488355328 then (chunk_Decode.l0 k1 l0 (x2_1 ++ ((l0.take ((wrap64 ((ji29) + t140)) : Int).toNat).drop ((ji29) : Int).toNat)) (wrap64 ((ji29) + (wrap64 (t140 + 2))))) else (none)) else (none)) else (none))) else (some (([] : List Int), 0, 5)))) else (none)) else (none)) else (none)) else (none))) else (none)) else (none)) = some (r1, r2, r3) := by first | (rw [hji29] at H; exact H) | (simp only [hji29] at H ⊢; exact H)
         (try rw [hji29] at A4)
         (try rw [hji29] at A6)
         have hji29w : (IntKind.i64.wrap (x3_1 + t138)) = ji29 := (i64_w _).trans hji29
         by_cases c30 : 0 ≤ (ji29)
         ·rw [if_pos c30] at H
          have c30b0 := eq_true c30
          have c30b1 := decide_eq_true c30
          clear c30
          by_cases c31 : (ji29) ≤ (l0.length : Int)
          ·rw [if_pos c31] at H
           have c31b0 := eq_true c31
           have c31b1 := decide_eq_true c31
           clear c31
           by_cases c32 : ((l0.drop ((ji29) : Int).toNat).length : Int) < t140
           ·rw [if_pos c32] at H
            have c32b0 := decide_eq_true c32
            have c32b0l := c32b0
            simp only [List.length_drop] at c32b0l
            clear c32
            simp only [Option.some.injEq, Prod.mk.injEq] at H
            obtain ⟨rfl, rfl, rfl⟩ := H
            obtain ⟨i033, hi033, _, hsz33, _⟩ := info_parts info5
            obtain ⟨A33, hcut33, hA33, hC33⟩ := print_drop_of (P := Tryz.prog) (Value.int .u8) 0 22 5 .i64 Tryz.underlying22 hi033 hsz33 A0 c0 l0 x3_1 (of_decide_eq_true as_) (of_decide_eq_true as_) HC0.out
            have HR136 := Aside0.mk (Kd.C_of_reads (h1 := fun _ => rfl) (hA33 _ (Kd.reads_of_C HR0.out)))
            have HC136 := Aside0.mk hC33
            clear hA33 hC33 hi033 hsz33
            go_wp2_with (first | ((with_reducible refine gate_callee (f := 87) rfl ?_); refine goesL_ (some 17) rfl rfl Tryz.func87 (by kernel_rfl) rfl #[.slice A33 (l0.drop (x3_1 : Int).toNat).length (c0 - x3_1.toNat)] rfl (by (try simp only [List.map_toArray, List.map_cons, List.map_nil]); first | done | (rw [show (l0.drop (x3_1 : Int).toNat).length = (l0.length - x3_1.toNat) from List.length_drop] <;> rfl) | rfl | (simp only [List.length_drop, List.length_take]; rfl)) ?_; (with_reducible refine (chunk_take.calls k1 _ _ (l0.drop (x3_1 : Int).toNat) t137 t138 t139 _ ?side3 ?side1 ?side2 A4.out).mono ?_); (case side1 => repeat (first | exact (Kd.C_below HR136.out HB.out) | (with_reducible refine Kd.C_alloc ?_ _) | (with_reducible refine Kd.C_drewN ?_ _) | (with_reducible refine Kd.C_drew ?_))); (case side2 => exact HC136.out); (case side3 => exact lw_); rintro e w34 ⟨rfl, hb⟩; refine ⟨_, rfl, ?_⟩; replace HO_2 := Aside0.mk (Kd.R_below (by (with_reducible repeat (first | apply Kd.R_alloc | apply Kd.R_drewN | apply Kd.R_drew)); exact HO_2.out) hb); replace HB := Aside0.mk (below_step bq_ hb)) | ((with_reducible refine gate_callee (f := 88) rfl ?_); refine goesL_ (some 26) rfl rfl Tryz.func88 (by kernel_rfl) rfl #[.string t137] rfl lq_ ?_; (with_reducible refine (chunk_Size.calls k1 t137 t140 t141 _ ?side1 A6.out).mono ?_); (case side1 => exact lw_); rintro e w35 ⟨rfl, hb⟩; refine ⟨_, rfl, ?_⟩; replace HO_2 := Aside0.mk (Kd.R_below (by (with_reducible repeat (first | apply Kd.R_alloc | apply Kd.R_drewN | apply Kd.R_drew)); exact HO_2.out) hb); replace HB := Aside0.mk (below_step bq_ hb); obtain ⟨Ao36, co36, eo36⟩ := Kd.R_slice HO_2.out; subst eo36; obtain ⟨i037, hi037, _, hsz37, _⟩ := info_parts info5; obtain ⟨A37, hcut37, hA37, hC37⟩ := print_drop_of (P := Tryz.prog) (Value.int .u8) 0 22 5 .i64 Tryz.underlying22 hi037 hsz37 A0 c0 l0 (ji29) (of_decide_eq_true as_) (of_decide_eq_true as_) HC0.out; have HR148 := Aside0.mk (Kd.C_of_reads (h1 := fun _ => rfl) (hA37 _ (Kd.reads_of_C HR0.out))); have HC148 := Aside0.mk hC37; clear hA37 hC37 hi037 hsz37))
            go_ret3
            exact ⟨_, by first | rfl | (simp [errW_none, errW_some] <;> rfl) | (simp only [← hji29]; first | rfl | (simp [errW_none, errW_some] <;> rfl)) | (simp [*, errW_none, errW_some] <;> rfl) | (simp [errW_none, errW_some]; first | exact isEmpty_bne _ | exact isEmpty_beq _ | exact (isEmpty_bne _).symm), by first | exact Kd.R_nil _ _ _ _ _ | exact Kd.N_nil _ _ _ _ _ | exact Kd.V_nil _ _ _ _ _ | exact Kd.Q_nil _ _ _ _ _ | exact Kd.S_nil _ _ _ _ _, bq_⟩
           ·rw [if_neg c32] at H
            have c32b0 := decide_eq_false c32
            have c32b0l := c32b0
            simp only [List.length_drop] at c32b0l
            clear c32
            by_cases c38 : 0 ≤ t140
            ·rw [if_pos c38] at H
             have c38b0 := eq_true c38
             have c38b1 := decide_eq_true c38
             clear c38
             by_cases c39 : t140 ≤ ((l0.drop ((ji29) : Int).toNat).length : Int)
             ·rw [if_pos c39] at H
              have c39b0 := eq_true c39
              have c39b1 := decide_eq_true c39
              have c39b1l := c39b1
              simp only [List.length_drop] at c39b1l
              clear c39
              obtain ⟨ji40, hji40⟩ : ∃ j_ : Int, (mn 2 (((l0.drop ((ji29) : Int).toNat).drop (t140 : Int).toNat).length : Int)) = j_ := ⟨_, rfl⟩
              replace H : (if 0 ≤ (ji40) then (if (ji40) ≤ (((l0.drop ((ji29) : Int).toNat).drop (t140 : Int).toNat).length : Int) then ((strings_HasPrefix.f (⟨#[13, 10]⟩ : ByteArray) (strOfNums (((l0.drop ((ji29) : Int).toNat).drop (t140 : Int).toNat).take ((ji40) : Int).toNat))).bind fun t151 => (if t151 = true then (if (((l0.drop ((ji29) : Int).toNat).drop (t140 : Int).toNat).length : Int) < 2 then (some (([] : List Int), 0, 10)) else (if (ji29) ≤ (wrap64 ((ji29) + t140)) then (if (wrap64 ((ji29) + t140)) ≤ (l0.length : Int) then (if x2_1.length + ((l0.take ((wrap64 ((ji29) + t140)) : Int).toNat).drop ((ji29) : Int).toNat).length < 140737488355328 then (chunk_Decode.l0 k1 l0 (x2_1 ++ ((l0.take ((wrap64 ((ji29) + t140)) : Int).toNat).drop ((ji29) : Int).toNat)) (wrap64 ((ji29) + (wrap64 (t140 + 2))))) else (none)) else (none)) else (none))) else (some (([] : List Int), 0, 5)))) else (none)) else (none)) = some (r1, r2, r3) := by first | (rw [hji40] at H; exact H) | (simp only [hji40] at H ⊢; exact H)
              (try rw [hji40] at A4)
              (try rw [hji40] at A6)
              have hji40_ : (if (((l0.drop ((ji29) : Int).toNat).drop (t140 : Int).toNat).length : Int) < 2 then (((l0.drop ((ji29) : Int).toNat).drop (t140 : Int).toNat).length : Int) else 2) = ji40 := hji40
              have hji40_l := hji40_
              simp only [List.length_drop] at hji40_l
              by_cases c41 : 0 ≤ (ji40)
              ·rw [if_pos c41] at H
               have c41b0 := eq_true c41
               have c41b1 := decide_eq_true c41
               clear c41
               by_cases c42 : (ji40) ≤ (((l0.drop ((ji29) : Int).toNat).drop (t140 : Int).toNat).length : Int)
               ·rw [if_pos c42] at H
                have c42b0 := eq_true c42
                have c42b1 := decide_eq_true c42
                have c42b1l := c42b1
                simp only [List.length_drop] at c42b1l
                clear c42
                replace H := Option.bind_eq_some_iff.mp H
                obtain ⟨t151, A430, H⟩ := H
                (try dsimp only at H)
                have A43 := Aside0.mk A430
                clear A430
                by_cases c44 : t151 = true
                ·subst c44
                 replace H := ifT_ H
                 by_cases c45 : (((l0.drop ((ji29) : Int).toNat).drop (t140 : Int).toNat).length : Int) < 2
                 ·rw [if_pos c45] at H
                  have c45b0 := decide_eq_true c45
                  have c45b0l := c45b0
                  simp only [List.length_drop] at c45b0l
                  have c45b1 : decide (((l0.drop ((ji29) : Int).toNat).drop (t140 : Int).toNat).length < 2) = true := decide_eq_true (by omega)
                  have c45b1l := c45b1
                  simp only [List.length_drop] at c45b1l
                  clear c45
                  simp only [Option.some.injEq, Prod.mk.injEq] at H
                  obtain ⟨rfl, rfl, rfl⟩ := H
                  obtain ⟨i046, hi046, _, hsz46, _⟩ := info_parts info5
                  obtain ⟨A46, hcut46, hA46, hC46⟩ := print_drop_of (P := Tryz.prog) (Value.int .u8) 0 22 5 .i64 Tryz.underlying22 hi046 hsz46 A0 c0 l0 x3_1 (of_decide_eq_true as_) (of_decide_eq_true as_) HC0.out
                  have HR136 := Aside0.mk (Kd.C_of_reads (h1 := fun _ => rfl) (hA46 _ (Kd.reads_of_C HR0.out)))
                  have HC136 := Aside0.mk hC46
                  clear hA46 hC46 hi046 hsz46
                  go_wp2_with (first | ((with_reducible refine gate_callee (f := 87) rfl ?_); refine goesL_ (some 17) rfl rfl Tryz.func87 (by kernel_rfl) rfl #[.slice A46 (l0.drop (x3_1 : Int).toNat).length (c0 - x3_1.toNat)] rfl (by (try simp only [List.map_toArray, List.map_cons, List.map_nil]); first | done | (rw [show (l0.drop (x3_1 : Int).toNat).length = (l0.length - x3_1.toNat) from List.length_drop] <;> rfl) | rfl | (simp only [List.length_drop, List.length_take]; rfl)) ?_; (with_reducible refine (chunk_take.calls k1 _ _ (l0.drop (x3_1 : Int).toNat) t137 t138 t139 _ ?side3 ?side1 ?side2 A4.out).mono ?_); (case side1 => repeat (first | exact (Kd.C_below HR136.out HB.out) | (with_reducible refine Kd.C_alloc ?_ _) | (with_reducible refine Kd.C_drewN ?_ _) | (with_reducible refine Kd.C_drew ?_))); (case side2 => exact HC136.out); (case side3 => exact lw_); rintro e w47 ⟨rfl, hb⟩; refine ⟨_, rfl, ?_⟩; replace HO_2 := Aside0.mk (Kd.R_below (by (with_reducible repeat (first | apply Kd.R_alloc | apply Kd.R_drewN | apply Kd.R_drew)); exact HO_2.out) hb); replace HB := Aside0.mk (below_step bq_ hb)) | ((with_reducible refine gate_callee (f := 88) rfl ?_); refine goesL_ (some 26) rfl rfl Tryz.func88 (by kernel_rfl) rfl #[.string t137] rfl lq_ ?_; (with_reducible refine (chunk_Size.calls k1 t137 t140 t141 _ ?side1 A6.out).mono ?_); (case side1 => exact lw_); rintro e w48 ⟨rfl, hb⟩; refine ⟨_, rfl, ?_⟩; replace HO_2 := Aside0.mk (Kd.R_below (by (with_reducible repeat (first | apply Kd.R_alloc | apply Kd.R_drewN | apply Kd.R_drew)); exact HO_2.out) hb); replace HB := Aside0.mk (below_step bq_ hb); obtain ⟨Ao49, co49, eo49⟩ := Kd.R_slice HO_2.out; subst eo49; obtain ⟨i050, hi050, _, hsz50, _⟩ := info_parts info5; obtain ⟨A50, hcut50, hA50, hC50⟩ := print_drop_of (P := Tryz.prog) (Value.int .u8) 0 22 5 .i64 Tryz.underlying22 hi050 hsz50 A0 c0 l0 (ji29) (of_decide_eq_true as_) (of_decide_eq_true as_) HC0.out; have HR148 := Aside0.mk (Kd.C_of_reads (h1 := fun _ => rfl) (hA50 _ (Kd.reads_of_C HR0.out))); have HC148 := Aside0.mk hC50; clear hA50 hC50 hi050 hsz50; obtain ⟨i051, hi051, _, hsz51, _⟩ := info_parts info5; obtain ⟨A51, hcut51, hA51, hC51⟩ := print_drop_of (P := Tryz.prog) (Value.int .u8) 0 22 5 .i64 Tryz.underlying22 hi051 hsz51 A50 (c0 - (ji29).toNat) (l0.drop ((ji29) : Int).toNat) t140 (of_decide_eq_true as_) (of_decide_eq_true as_) HC148.out; have HR149 := Aside0.mk (Kd.C_of_reads (h1 := fun _ => rfl) (hA51 _ (Kd.reads_of_C HR148.out))); have HC149 := Aside0.mk hC51; clear hA51 hC51 hi051 hsz51; simp only [List.length_drop] at hcut51; obtain ⟨i052, hi052, _, hsz52, _⟩ := info_parts info5; obtain ⟨hcut52, hA52, hC52⟩ := print_take_of (P := Tryz.prog) (Value.int .u8) 0 22 5 .i64 Tryz.underlying22 hi052 hsz52 A51 ((c0 - (ji29).toNat) - t140.toNat) ((l0.drop ((ji29) : Int).toNat).drop (t140 : Int).toNat) (ji40) (of_decide_eq_true as_) (of_decide_eq_true as_) HC149.out; have HR150 := Aside0.mk (Kd.C_of_reads (h1 := fun _ => rfl) (hA52 _ (Kd.reads_of_C HR149.out))); have HC150 := Aside0.mk hC52; clear hA52 hC52 hi052 hsz52; have hcv53 := Kd.C_string (P := Tryz.prog) (A := A51) (c := ((c0 - (ji29).toNat) - t140.toNat)) Tryz.underlying22 Tryz.underlying5 Tryz.underlying9 (Kd.C_below HR150.out HB.out); have hcv53b := hcv53; rw [show (((l0.drop ((ji29) : Int).toNat).drop (t140 : Int).toNat).take ((ji40) : Int).toNat).length = (ji40).toNat from (by rw [List.length_take]; have h_ : ((ji40) : Int) ≤ (((l0.drop ((ji29) : Int).toNat).drop (t140 : Int).toNat).length : Int) := of_decide_eq_true as_; omega)] at hcv53b; rw [show (((l0.drop ((ji29) : Int).toNat).drop (t140 : Int).toNat).take ((ji40) : Int).toNat).length = (ji40).toNat from (by rw [List.length_take]; have h_ : ((ji40) : Int) ≤ (((l0.drop ((ji29) : Int).toNat).drop (t140 : Int).toNat).length : Int) := of_decide_eq_true as_; omega)] at hcut52; simp only [List.length_drop] at hcut52) | ((with_reducible refine gate_callee (f := 89) rfl ?_); refine goesL_ (some 73) rfl rfl Tryz.func89 (by kernel_rfl) rfl #[.string (⟨#[13, 10]⟩ : ByteArray), .string (strOfNums (((l0.drop ((ji29) : Int).toNat).drop (t140 : Int).toNat).take ((ji40) : Int).toNat))] rfl (by (try simp only [List.map_toArray, List.map_cons, List.map_nil]); first | done | (simp only [List.drop_drop]; done) | (simp only [List.drop_drop]; rfl) | (simp only [hji29, hji40]; rfl) | rfl | (simp only [List.length_drop, List.length_take]; rfl)) ?_; (with_reducible refine (strings_HasPrefix.calls (⟨#[13, 10]⟩ : ByteArray) (strOfNums (((l0.drop ((ji29) : Int).toNat).drop (t140 : Int).toNat).take ((ji40) : Int).toNat)) true _ ?side1 A43.out).mono ?_); (case side1 => exact lw_); rintro e w' ⟨rfl, ⟨nd, rfl⟩⟩; refine ⟨_, rfl, ?_⟩))
                  go_ret3
                  exact ⟨_, by first | rfl | (simp [errW_none, errW_some] <;> rfl) | (simp only [← hji29, ← hji40]; first | rfl | (simp [errW_none, errW_some] <;> rfl)) | (simp [*, errW_none, errW_some] <;> rfl) | (simp [errW_none, errW_some]; first | exact isEmpty_bne _ | exact isEmpty_beq _ | exact (isEmpty_bne _).symm), by first | exact Kd.R_nil _ _ _ _ _ | exact Kd.N_nil _ _ _ _ _ | exact Kd.V_nil _ _ _ _ _ | exact Kd.Q_nil _ _ _ _ _ | exact Kd.S_nil _ _ _ _ _, bq_⟩
                 ·rw [if_neg c45] at H
                  have c45b0 := decide_eq_false c45
                  have c45b0l := c45b0
                  simp only [List.length_drop] at c45b0l
                  have c45b1 : decide (((l0.drop ((ji29) : Int).toNat).drop (t140 : Int).toNat).length < 2) = false := decide_eq_false (by omega)
                  have c45b1l := c45b1
                  simp only [List.length_drop] at c45b1l
                  clear c45
                  have c54b0 := eq_true (of_decide_eq_true as_ : 0 ≤ (ji29))
                  by_cases c55 : (ji29) ≤ (wrap64 ((ji29) + t140))
                  ·rw [if_pos c55] at H
                   have c55b0 := eq_true c55
                   have c55b1 := decide_eq_true c55
                   by_cases c56 : (wrap64 ((ji29) + t140)) ≤ (l0.length : Int)
                   ·rw [if_pos c56] at H
                    have c56b0 := eq_true c56
                    have c56b1 := decide_eq_true c56
                    by_cases c57 : x2_1.length + ((l0.take ((wrap64 ((ji29) + t140)) : Int).toNat).drop ((ji29) : Int).toNat).length < 140737488355328
                    ·rw [if_pos c57] at H
                     have LMc57 := Aside0.mk c57
                     clear c57
                     obtain ⟨y153, hy153⟩ : ∃ y_ : List Int, y_ = (x2_1 ++ ((l0.take ((wrap64 ((ji29) + t140)) : Int).toNat).drop ((ji29) : Int).toNat)) := ⟨_, rfl⟩
                     replace H : (chunk_Decode.l0 k1 l0 y153 (wrap64 ((ji29) + (wrap64 (t140 + 2))))) = some (r1, r2, r3) := by first | (rw [hy153]; with_reducible exact H) | (have H2_ := (Option.bind_some _ _).symm.trans H; rw [hy153]; with_reducible exact H2_) | (have H2_ := (Option.bind_some _ _).symm.trans H; with_reducible exact H2_) | with_reducible exact H | (rw [hy153]; exact H) | exact H
                     have Ny153 := Aside0.mk hy153
                     clear hy153
                     have H' := Aside0.mk H
                     clear H
                     obtain ⟨i058, hi058, _, hsz58, _⟩ := info_parts info5
                     obtain ⟨A58, hcut58, hA58, hC58⟩ := print_drop_of (P := Tryz.prog) (Value.int .u8) 0 22 5 .i64 Tryz.underlying22 hi058 hsz58 A0 c0 l0 x3_1 (of_decide_eq_true as_) (of_decide_eq_true as_) HC0.out
                     have HR136 := Aside0.mk (Kd.C_of_reads (h1 := fun _ => rfl) (hA58 _ (Kd.reads_of_C HR0.out)))
                     have HC136 := Aside0.mk hC58
                     clear hA58 hC58 hi058 hsz58
                     go_wp2_with (first | ((with_reducible refine gate_callee (f := 87) rfl ?_); refine goesL_ (some 17) rfl rfl Tryz.func87 (by kernel_rfl) rfl #[.slice A58 (l0.drop (x3_1 : Int).toNat).length (c0 - x3_1.toNat)] rfl (by (try simp only [List.map_toArray, List.map_cons, List.map_nil]); first | done | (rw [show (l0.drop (x3_1 : Int).toNat).length = (l0.length - x3_1.toNat) from List.length_drop] <;> rfl) | rfl | (simp only [List.length_drop, List.length_take]; rfl)) ?_; (with_reducible refine (chunk_take.calls k1 _ _ (l0.drop (x3_1 : Int).toNat) t137 t138 t139 _ ?side3 ?side1 ?side2 A4.out).mono ?_); (case side1 => repeat (first | exact (Kd.C_below HR136.out HB.out) | (with_reducible refine Kd.C_alloc ?_ _) | (with_reducible refine Kd.C_drewN ?_ _) | (with_reducible refine Kd.C_drew ?_))); (case side2 => exact HC136.out); (case side3 => exact lw_); rintro e w59 ⟨rfl, hb⟩; refine ⟨_, rfl, ?_⟩; replace HO_2 := Aside0.mk (Kd.R_below (by (with_reducible repeat (first | apply Kd.R_alloc | apply Kd.R_drewN | apply Kd.R_drew)); exact HO_2.out) hb); replace HB := Aside0.mk (below_step bq_ hb)) | ((with_reducible refine gate_callee (f := 88) rfl ?_); refine goesL_ (some 26) rfl rfl Tryz.func88 (by kernel_rfl) rfl #[.string t137] rfl lq_ ?_; (with_reducible refine (chunk_Size.calls k1 t137 t140 t141 _ ?side1 A6.out).mono ?_); (case side1 => exact lw_); rintro e w60 ⟨rfl, hb⟩; refine ⟨_, rfl, ?_⟩; replace HO_2 := Aside0.mk (Kd.R_below (by (with_reducible repeat (first | apply Kd.R_alloc | apply Kd.R_drewN | apply Kd.R_drew)); exact HO_2.out) hb); replace HB := Aside0.mk (below_step bq_ hb); obtain ⟨Ao61, co61, eo61⟩ := Kd.R_slice HO_2.out; subst eo61; obtain ⟨i062, hi062, _, hsz62, _⟩ := info_parts info5; obtain ⟨A62, hcut62, hA62, hC62⟩ := print_drop_of (P := Tryz.prog) (Value.int .u8) 0 22 5 .i64 Tryz.underlying22 hi062 hsz62 A0 c0 l0 (ji29) (of_decide_eq_true as_) (of_decide_eq_true as_) HC0.out; have HR148 := Aside0.mk (Kd.C_of_reads (h1 := fun _ => rfl) (hA62 _ (Kd.reads_of_C HR0.out))); have HC148 := Aside0.mk hC62; clear hA62 hC62 hi062 hsz62; obtain ⟨i063, hi063, _, hsz63, _⟩ := info_parts info5; obtain ⟨A63, hcut63, hA63, hC63⟩ := print_drop_of (P := Tryz.prog) (Value.int .u8) 0 22 5 .i64 Tryz.underlying22 hi063 hsz63 A62 (c0 - (ji29).toNat) (l0.drop ((ji29) : Int).toNat) t140 (of_decide_eq_true as_) (of_decide_eq_true as_) HC148.out; have HR149 := Aside0.mk (Kd.C_of_reads (h1 := fun _ => rfl) (hA63 _ (Kd.reads_of_C HR148.out))); have HC149 := Aside0.mk hC63; clear hA63 hC63 hi063 hsz63; simp only [List.length_drop] at hcut63; obtain ⟨i064, hi064, _, hsz64, _⟩ := info_parts info5; obtain ⟨hcut64, hA64, hC64⟩ := print_take_of (P := Tryz.prog) (Value.int .u8) 0 22 5 .i64 Tryz.underlying22 hi064 hsz64 A63 ((c0 - (ji29).toNat) - t140.toNat) ((l0.drop ((ji29) : Int).toNat).drop (t140 : Int).toNat) (ji40) (of_decide_eq_true as_) (of_decide_eq_true as_) HC149.out; have HR150 := Aside0.mk (Kd.C_of_reads (h1 := fun _ => rfl) (hA64 _ (Kd.reads_of_C HR149.out))); have HC150 := Aside0.mk hC64; clear hA64 hC64 hi064 hsz64; have hcv65 := Kd.C_string (P := Tryz.prog) (A := A63) (c := ((c0 - (ji29).toNat) - t140.toNat)) Tryz.underlying22 Tryz.underlying5 Tryz.underlying9 (Kd.C_below HR150.out HB.out); have hcv65b := hcv65; rw [show (((l0.drop ((ji29) : Int).toNat).drop (t140 : Int).toNat).take ((ji40) : Int).toNat).length = (ji40).toNat from (by rw [List.length_take]; have h_ : ((ji40) : Int) ≤ (((l0.drop ((ji29) : Int).toNat).drop (t140 : Int).toNat).length : Int) := of_decide_eq_true as_; omega)] at hcv65b; rw [show (((l0.drop ((ji29) : Int).toNat).drop (t140 : Int).toNat).take ((ji40) : Int).toNat).length = (ji40).toNat from (by rw [List.length_take]; have h_ : ((ji40) : Int) ≤ (((l0.drop ((ji29) : Int).toNat).drop (t140 : Int).toNat).length : Int) := of_decide_eq_true as_; omega)] at hcut64; simp only [List.length_drop] at hcut64) | ((with_reducible refine gate_callee (f := 89) rfl ?_); refine goesL_ (some 73) rfl rfl Tryz.func89 (by kernel_rfl) rfl #[.string (⟨#[13, 10]⟩ : ByteArray), .string (strOfNums (((l0.drop ((ji29) : Int).toNat).drop (t140 : Int).toNat).take ((ji40) : Int).toNat))] rfl (by (try simp only [List.map_toArray, List.map_cons, List.map_nil]); first | done | (simp only [List.drop_drop]; done) | (simp only [List.drop_drop]; rfl) | (simp only [hji29, hji40]; rfl) | rfl | (simp only [List.length_drop, List.length_take]; rfl)) ?_; (with_reducible refine (strings_HasPrefix.calls (⟨#[13, 10]⟩ : ByteArray) (strOfNums (((l0.drop ((ji29) : Int).toNat).drop (t140 : Int).toNat).take ((ji40) : Int).toNat)) true _ ?side1 A43.out).mono ?_); (case side1 => exact lw_); rintro e w' ⟨rfl, ⟨nd, rfl⟩⟩; refine ⟨_, rfl, ?_⟩; obtain ⟨i066, hi066, _, hsz66, _⟩ := info_parts info5; obtain ⟨A66, hcut66, hA66, hC66⟩ := print_mid_of (P := Tryz.prog) (Value.int .u8) 0 22 5 .i64 .i64 Tryz.underlying22 hi066 hsz66 A0 c0 l0 (ji29) (wrap64 ((ji29) + t140)) (of_decide_eq_true as_) (by first | omega | exact of_decide_eq_true as_) (of_decide_eq_true as_) HC0.out; have HR152 := Aside0.mk (Kd.C_of_reads (h1 := fun _ => rfl) (hA66 _ (Kd.reads_of_C HR0.out))); have HC152 := Aside0.mk hC66; clear hA66 hC66 hi066 hsz66) | ((with_reducible refine gate_builtin (b := .append) (xs := #[.tmp 78, .tmp 84]) rfl ?_); at_builtin; refine Kd.R_append_rows (Kd.int .u8) (w0 := w) w.heap.size rfl (.tmp 78) (.tmp 84) 22 5 (.int .u8 0) 1 rfl Tryz.underlying22 info5 rfl (by decide) (by omega) (.slice Ao61 x2_1.length co61) x2_1 ((l0.take ((wrap64 ((ji29) + t140)) : Int).toNat).drop ((ji29) : Int).toNat) _ _ _ (fun _ => True) (fun _ => False) rfl rfl ?aO ?aR (fun _ _ h => h) (fun _ h => h.elim) ?aF ?aB ?aS ?aL ?_; (case aR => first | (rw [← show ((l0.take ((wrap64 ((ji29) + t140)) : Int).toNat).drop ((ji29) : Int).toNat).length = ((wrap64 ((ji29) + t140)).toNat - (ji29).toNat) from (by rw [List.length_drop, List.length_take]; have h_ : ((wrap64 ((ji29) + t140)) : Int) ≤ (l0.length : Int) := of_decide_eq_true as_; omega)]; repeat (first | exact (Kd.C_below HR152.out bq_) | (with_reducible refine Kd.C_alloc ?_ _) | (with_reducible refine Kd.C_drewN ?_ _) | (with_reducible refine Kd.C_drew ?_))) | (repeat (first | exact (Kd.C_below HR152.out bq_) | (with_reducible refine Kd.C_alloc ?_ _) | (with_reducible refine Kd.C_drewN ?_ _) | (with_reducible refine Kd.C_drew ?_)))); (case aB => exact bq_); (case aF => exact (fun _ _ => trivial)); (case aO => exact (by (with_reducible repeat (first | apply Kd.R_alloc | apply Kd.R_drewN | apply Kd.R_drew)); exact HO_2.out)); (case aS => exact (below_size bq_)); (case aL => have := LMc57.out; have hlx_ := (show ((l0.take ((wrap64 ((ji29) + t140)) : Int).toNat).drop ((ji29) : Int).toNat).length = ((wrap64 ((ji29) + t140)).toNat - (ji29).toNat) from (by rw [List.length_drop, List.length_take]; have h_ : ((wrap64 ((ji29) + t140)) : Int) ≤ (l0.length : Int) := of_decide_eq_true as_; omega)); omega); intro v154 w67 ho hb hg hat; rw [← Ny153.out] at ho; have HO155 := Aside0.mk (ho); replace HB := Aside0.mk (hb); clear HO_2; clear ho hb hg hat))
                     go_roundg k1
                     case measure => have := HK1.out; omega
                     case rel => exact ⟨(y153), (wrap64 ((ji29) + (wrap64 (t140 + 2)))), (by first | rfl | (simp; done) | (simp only [← hji29] <;> (first | rfl | simp)) | (simp [*]; done)), H', ⟨by have := HK1.out; omega⟩, ⟨by (with_reducible repeat (first | apply Kd.R_alloc | apply Kd.R_drewN | apply Kd.R_drew)); exact HO155.out⟩, ⟨bq_⟩⟩
                    ·rw [if_neg c57] at H
                     exact absurd H (by simp)
                   ·rw [if_neg c56] at H
                    exact absurd H (by simp)
                  ·rw [if_neg c55] at H
                   exact absurd H (by simp)
                ·replace c44 := Bool.eq_false_iff.mpr c44
                 subst c44
                 replace H := ifF_ H
                 simp only [Option.some.injEq, Prod.mk.injEq] at H
                 obtain ⟨rfl, rfl, rfl⟩ := H
                 obtain ⟨i068, hi068, _, hsz68, _⟩ := info_parts info5
                 obtain ⟨A68, hcut68, hA68, hC68⟩ := print_drop_of (P := Tryz.prog) (Value.int .u8) 0 22 5 .i64 Tryz.underlying22 hi068 hsz68 A0 c0 l0 x3_1 (of_decide_eq_true as_) (of_decide_eq_true as_) HC0.out
                 have HR136 := Aside0.mk (Kd.C_of_reads (h1 := fun _ => rfl) (hA68 _ (Kd.reads_of_C HR0.out)))
                 have HC136 := Aside0.mk hC68
                 clear hA68 hC68 hi068 hsz68
                 go_wp2_with (first | ((with_reducible refine gate_callee (f := 87) rfl ?_); refine goesL_ (some 17) rfl rfl Tryz.func87 (by kernel_rfl) rfl #[.slice A68 (l0.drop (x3_1 : Int).toNat).length (c0 - x3_1.toNat)] rfl (by (try simp only [List.map_toArray, List.map_cons, List.map_nil]); first | done | (rw [show (l0.drop (x3_1 : Int).toNat).length = (l0.length - x3_1.toNat) from List.length_drop] <;> rfl) | rfl | (simp only [List.length_drop, List.length_take]; rfl)) ?_; (with_reducible refine (chunk_take.calls k1 _ _ (l0.drop (x3_1 : Int).toNat) t137 t138 t139 _ ?side3 ?side1 ?side2 A4.out).mono ?_); (case side1 => repeat (first | exact (Kd.C_below HR136.out HB.out) | (with_reducible refine Kd.C_alloc ?_ _) | (with_reducible refine Kd.C_drewN ?_ _) | (with_reducible refine Kd.C_drew ?_))); (case side2 => exact HC136.out); (case side3 => exact lw_); rintro e w69 ⟨rfl, hb⟩; refine ⟨_, rfl, ?_⟩; replace HO_2 := Aside0.mk (Kd.R_below (by (with_reducible repeat (first | apply Kd.R_alloc | apply Kd.R_drewN | apply Kd.R_drew)); exact HO_2.out) hb); replace HB := Aside0.mk (below_step bq_ hb)) | ((with_reducible refine gate_callee (f := 88) rfl ?_); refine goesL_ (some 26) rfl rfl Tryz.func88 (by kernel_rfl) rfl #[.string t137] rfl lq_ ?_; (with_reducible refine (chunk_Size.calls k1 t137 t140 t141 _ ?side1 A6.out).mono ?_); (case side1 => exact lw_); rintro e w70 ⟨rfl, hb⟩; refine ⟨_, rfl, ?_⟩; replace HO_2 := Aside0.mk (Kd.R_below (by (with_reducible repeat (first | apply Kd.R_alloc | apply Kd.R_drewN | apply Kd.R_drew)); exact HO_2.out) hb); replace HB := Aside0.mk (below_step bq_ hb); obtain ⟨Ao71, co71, eo71⟩ := Kd.R_slice HO_2.out; subst eo71; obtain ⟨i072, hi072, _, hsz72, _⟩ := info_parts info5; obtain ⟨A72, hcut72, hA72, hC72⟩ := print_drop_of (P := Tryz.prog) (Value.int .u8) 0 22 5 .i64 Tryz.underlying22 hi072 hsz72 A0 c0 l0 (ji29) (of_decide_eq_true as_) (of_decide_eq_true as_) HC0.out; have HR148 := Aside0.mk (Kd.C_of_reads (h1 := fun _ => rfl) (hA72 _ (Kd.reads_of_C HR0.out))); have HC148 := Aside0.mk hC72; clear hA72 hC72 hi072 hsz72; obtain ⟨i073, hi073, _, hsz73, _⟩ := info_parts info5; obtain ⟨A73, hcut73, hA73, hC73⟩ := print_drop_of (P := Tryz.prog) (Value.int .u8) 0 22 5 .i64 Tryz.underlying22 hi073 hsz73 A72 (c0 - (ji29).toNat) (l0.drop ((ji29) : Int).toNat) t140 (of_decide_eq_true as_) (of_decide_eq_true as_) HC148.out; have HR149 := Aside0.mk (Kd.C_of_reads (h1 := fun _ => rfl) (hA73 _ (Kd.reads_of_C HR148.out))); have HC149 := Aside0.mk hC73; clear hA73 hC73 hi073 hsz73; simp only [List.length_drop] at hcut73; obtain ⟨i074, hi074, _, hsz74, _⟩ := info_parts info5; obtain ⟨hcut74, hA74, hC74⟩ := print_take_of (P := Tryz.prog) (Value.int .u8) 0 22 5 .i64 Tryz.underlying22 hi074 hsz74 A73 ((c0 - (ji29).toNat) - t140.toNat) ((l0.drop ((ji29) : Int).toNat).drop (t140 : Int).toNat) (ji40) (of_decide_eq_true as_) (of_decide_eq_true as_) HC149.out; have HR150 := Aside0.mk (Kd.C_of_reads (h1 := fun _ => rfl) (hA74 _ (Kd.reads_of_C HR149.out))); have HC150 := Aside0.mk hC74; clear hA74 hC74 hi074 hsz74; have hcv75 := Kd.C_string (P := Tryz.prog) (A := A73) (c := ((c0 - (ji29).toNat) - t140.toNat)) Tryz.underlying22 Tryz.underlying5 Tryz.underlying9 (Kd.C_below HR150.out HB.out); have hcv75b := hcv75; rw [show (((l0.drop ((ji29) : Int).toNat).drop (t140 : Int).toNat).take ((ji40) : Int).toNat).length = (ji40).toNat from (by rw [List.length_take]; have h_ : ((ji40) : Int) ≤ (((l0.drop ((ji29) : Int).toNat).drop (t140 : Int).toNat).length : Int) := of_decide_eq_true as_; omega)] at hcv75b; rw [show (((l0.drop ((ji29) : Int).toNat).drop (t140 : Int).toNat).take ((ji40) : Int).toNat).length = (ji40).toNat from (by rw [List.length_take]; have h_ : ((ji40) : Int) ≤ (((l0.drop ((ji29) : Int).toNat).drop (t140 : Int).toNat).length : Int) := of_decide_eq_true as_; omega)] at hcut74; simp only [List.length_drop] at hcut74) | ((with_reducible refine gate_callee (f := 89) rfl ?_); refine goesL_ (some 73) rfl rfl Tryz.func89 (by kernel_rfl) rfl #[.string (⟨#[13, 10]⟩ : ByteArray), .string (strOfNums (((l0.drop ((ji29) : Int).toNat).drop (t140 : Int).toNat).take ((ji40) : Int).toNat))] rfl (by (try simp only [List.map_toArray, List.map_cons, List.map_nil]); first | done | (simp only [List.drop_drop]; done) | (simp only [List.drop_drop]; rfl) | (simp only [hji29, hji40]; rfl) | rfl | (simp only [List.length_drop, List.length_take]; rfl)) ?_; (with_reducible refine (strings_HasPrefix.calls (⟨#[13, 10]⟩ : ByteArray) (strOfNums (((l0.drop ((ji29) : Int).toNat).drop (t140 : Int).toNat).take ((ji40) : Int).toNat)) false _ ?side1 A43.out).mono ?_); (case side1 => exact lw_); rintro e w' ⟨rfl, ⟨nd, rfl⟩⟩; refine ⟨_, rfl, ?_⟩))
                 go_ret3
                 exact ⟨_, by first | rfl | (simp [errW_none, errW_some] <;> rfl) | (simp only [← hji29, ← hji40]; first | rfl | (simp [errW_none, errW_some] <;> rfl)) | (simp [*, errW_none, errW_some] <;> rfl) | (simp [errW_none, errW_some]; first | exact isEmpty_bne _ | exact isEmpty_beq _ | exact (isEmpty_bne _).symm), by first | exact Kd.R_nil _ _ _ _ _ | exact Kd.N_nil _ _ _ _ _ | exact Kd.V_nil _ _ _ _ _ | exact Kd.Q_nil _ _ _ _ _ | exact Kd.S_nil _ _ _ _ _, bq_⟩
               ·rw [if_neg c42] at H
                exact absurd H (by simp)
              ·rw [if_neg c41] at H
               exact absurd H (by simp)
             ·rw [if_neg c39] at H
              exact absurd H (by simp)
            ·rw [if_neg c38] at H
             exact absurd H (by simp)
          ·rw [if_neg c31] at H
           exact absurd H (by simp)
         ·rw [if_neg c30] at H
          exact absurd H (by simp)
      ·rw [if_neg c7] at H
       have c7b0 := beq_eq_false_iff_ne.mpr c7
       have c7b1 := bne_iff_ne.mpr c7
       simp only [Option.some.injEq, Prod.mk.injEq] at H
       obtain ⟨rfl, rfl, rfl⟩ := H
       obtain ⟨i076, hi076, _, hsz76, _⟩ := info_parts info5
       obtain ⟨A76, hcut76, hA76, hC76⟩ := print_drop_of (P := Tryz.prog) (Value.int .u8) 0 22 5 .i64 Tryz.underlying22 hi076 hsz76 A0 c0 l0 x3_1 (of_decide_eq_true as_) (of_decide_eq_true as_) HC0.out
       have HR136 := Aside0.mk (Kd.C_of_reads (h1 := fun _ => rfl) (hA76 _ (Kd.reads_of_C HR0.out)))
       have HC136 := Aside0.mk hC76
       clear hA76 hC76 hi076 hsz76
       go_wp2_with (first | ((with_reducible refine gate_callee (f := 87) rfl ?_); refine goesL_ (some 17) rfl rfl Tryz.func87 (by kernel_rfl) rfl #[.slice A76 (l0.drop (x3_1 : Int).toNat).length (c0 - x3_1.toNat)] rfl (by (try simp only [List.map_toArray, List.map_cons, List.map_nil]); first | done | (rw [show (l0.drop (x3_1 : Int).toNat).length = (l0.length - x3_1.toNat) from List.length_drop] <;> rfl) | rfl | (simp only [List.length_drop, List.length_take]; rfl)) ?_; (with_reducible refine (chunk_take.calls k1 _ _ (l0.drop (x3_1 : Int).toNat) t137 t138 t139 _ ?side3 ?side1 ?side2 A4.out).mono ?_); (case side1 => repeat (first | exact (Kd.C_below HR136.out HB.out) | (with_reducible refine Kd.C_alloc ?_ _) | (with_reducible refine Kd.C_drewN ?_ _) | (with_reducible refine Kd.C_drew ?_))); (case side2 => exact HC136.out); (case side3 => exact lw_); rintro e w77 ⟨rfl, hb⟩; refine ⟨_, rfl, ?_⟩; replace HO_2 := Aside0.mk (Kd.R_below (by (with_reducible repeat (first | apply Kd.R_alloc | apply Kd.R_drewN | apply Kd.R_drew)); exact HO_2.out) hb); replace HB := Aside0.mk (below_step bq_ hb)) | ((with_reducible refine gate_callee (f := 88) rfl ?_); refine goesL_ (some 26) rfl rfl Tryz.func88 (by kernel_rfl) rfl #[.string t137] rfl lq_ ?_; (with_reducible refine (chunk_Size.calls k1 t137 t140 t141 _ ?side1 A6.out).mono ?_); (case side1 => exact lw_); rintro e w78 ⟨rfl, hb⟩; refine ⟨_, rfl, ?_⟩; replace HO_2 := Aside0.mk (Kd.R_below (by (with_reducible repeat (first | apply Kd.R_alloc | apply Kd.R_drewN | apply Kd.R_drew)); exact HO_2.out) hb); replace HB := Aside0.mk (below_step bq_ hb)))
       go_ret3
       exact ⟨_, rq_, by first | exact Kd.R_nil _ _ _ _ _ | exact Kd.N_nil _ _ _ _ _ | exact Kd.V_nil _ _ _ _ _ | exact Kd.Q_nil _ _ _ _ _ | exact Kd.S_nil _ _ _ _ _, bq_⟩
     ·rw [if_neg c5] at H
      have c5b0 := beq_eq_false_iff_ne.mpr c5
      have c5b1 := bne_iff_ne.mpr c5
      simp only [Option.some.injEq, Prod.mk.injEq] at H
      obtain ⟨rfl, rfl, rfl⟩ := H
      obtain ⟨i079, hi079, _, hsz79, _⟩ := info_parts info5
      obtain ⟨A79, hcut79, hA79, hC79⟩ := print_drop_of (P := Tryz.prog) (Value.int .u8) 0 22 5 .i64 Tryz.underlying22 hi079 hsz79 A0 c0 l0 x3_1 (of_decide_eq_true as_) (of_decide_eq_true as_) HC0.out
      have HR136 := Aside0.mk (Kd.C_of_reads (h1 := fun _ => rfl) (hA79 _ (Kd.reads_of_C HR0.out)))
      have HC136 := Aside0.mk hC79
      clear hA79 hC79 hi079 hsz79
      go_wp2_with (first | ((with_reducible refine gate_callee (f := 87) rfl ?_); refine goesL_ (some 17) rfl rfl Tryz.func87 (by kernel_rfl) rfl #[.slice A79 (l0.drop (x3_1 : Int).toNat).length (c0 - x3_1.toNat)] rfl (by (try simp only [List.map_toArray, List.map_cons, List.map_nil]); first | done | (rw [show (l0.drop (x3_1 : Int).toNat).length = (l0.length - x3_1.toNat) from List.length_drop] <;> rfl) | rfl | (simp only [List.length_drop, List.length_take]; rfl)) ?_; (with_reducible refine (chunk_take.calls k1 _ _ (l0.drop (x3_1 : Int).toNat) t137 t138 t139 _ ?side3 ?side1 ?side2 A4.out).mono ?_); (case side1 => repeat (first | exact (Kd.C_below HR136.out HB.out) | (with_reducible refine Kd.C_alloc ?_ _) | (with_reducible refine Kd.C_drewN ?_ _) | (with_reducible refine Kd.C_drew ?_))); (case side2 => exact HC136.out); (case side3 => exact lw_); rintro e w80 ⟨rfl, hb⟩; refine ⟨_, rfl, ?_⟩; replace HO_2 := Aside0.mk (Kd.R_below (by (with_reducible repeat (first | apply Kd.R_alloc | apply Kd.R_drewN | apply Kd.R_drew)); exact HO_2.out) hb); replace HB := Aside0.mk (below_step bq_ hb)))
      go_ret3
      exact ⟨_, rq_, by first | exact Kd.R_nil _ _ _ _ _ | exact Kd.N_nil _ _ _ _ _ | exact Kd.V_nil _ _ _ _ _ | exact Kd.Q_nil _ _ _ _ _ | exact Kd.S_nil _ _ _ _ _, bq_⟩
    ·rw [if_neg c3] at H
     exact absurd H (by simp)
   ·rw [if_neg c2] at H
    exact absurd H (by simp)

def http_body.j0 : Nat → List Int → Int → Option (List Int × Int × Int)
 | 0, _, _ => none
 | k + 1, x0, x10 => if x10 > 32768 then (some (([] : List Int), 0, 3)) else (if x10 > (x0.length : Int) then (some (([] : List Int), 0, 10)) else (if 0 ≤ x10 then (if x10 ≤ (x0.length : Int) then ((slices_Clone_byte_byte.f (x0.take (x10 : Int).toNat)).bind fun t164 => (some (t164, x10, 0))) else (none)) else (none)))
def http_body.f (k : Nat) (l0 : List Int) (l1 : List (S67)) (a2 : Bool) : Option (List Int × Int × Int) := (http_kind.f k l1).bind fun bt156 => (if bt156.1 = 3 then (some (([] : List Int), 0, 5)) else (if bt156.1 = 2 then ((chunk_Decode.f k l0).bind fun bt158 => (some (bt158.1, bt158.2.1, bt158.2.2))) else (if bt156.1 = 0 then (if a2 = true then (http_body.j0 k l0 (l0.length : Int)) else (http_body.j0 k l0 bt156.2)) else (http_body.j0 k l0 bt156.2))))
theorem http_body.mono_l : ∀ k, (∀ y0 y1, LeO (http_body.j0 k y0 y1) (http_body.j0 (k + 1) y0 y1))
 | 0 => fun _ _ r h => by simp [http_body.j0] at h
 | k + 1 => by
  have ih0 := http_body.mono_l k
  ·intro y0 y1
   unfold http_body.j0
   repeat' first
   | (with_reducible exact ih0 _ _)
   | (with_reducible exact chunk_Decode.mono _ _)
   | (with_reducible exact http_kind.mono _ _)
   | (with_reducible exact LeO.refl _)
   | (with_reducible exact LeO.none _)
   | (with_reducible refine LeO.ite ?_ ?_)
   | (with_reducible refine LeO.bind ?_ (fun _ => ?_))
   | exact ih0 _ _
   | exact chunk_Decode.mono _ _
   | exact http_kind.mono _ _
   | exact LeO.none _
   | refine LeO.ite ?_ ?_
   | refine LeO.bind ?_ (fun _ => ?_)
theorem http_body.mono : ∀ a0 a1 a2 k, LeO (http_body.f k a0 a1 a2) (http_body.f (k + 1) a0 a1 a2) := by
 intro a0 a1 a2 k
 have ih0 := http_body.mono_l k
 unfold http_body.f
 repeat' first
   | (with_reducible exact ih0 _ _)
   | (with_reducible exact chunk_Decode.mono _ _)
   | (with_reducible exact http_kind.mono _ _)
   | (with_reducible exact LeO.refl _)
   | (with_reducible exact LeO.none _)
   | (with_reducible refine LeO.ite ?_ ?_)
   | (with_reducible refine LeO.bind ?_ (fun _ => ?_))
   | exact ih0 _ _
   | exact chunk_Decode.mono _ _
   | exact http_kind.mono _ _
   | exact LeO.none _
   | refine LeO.ite ?_ ?_
   | refine LeO.bind ?_ (fun _ => ?_)
set_option maxHeartbeats 8000000 in
set_option maxRecDepth 100000 in
theorem http_body.calls (k : Nat) (A0 : Option Addr) (c0 : Nat) (l0 : List Int) (A1 : Option Addr) (c1 : Nat) (l1 : List (S67)) (a2 : Bool) (r1 : List Int) (r2 : Int) (r3 : Int) (w : World) (hLW : LW w) (hr0 : Kd.C (Kd.int .u8) w A0 l0.length l0) (hc0 : l0.length ≤ c0) (hr1 : Kd.C k67 w A1 l1.length l1) (hc1 : l1.length ≤ c1) (h : http_body.f k l0 l1 a2 = some (r1, r2, r3)) :
  Calls Tryz.prog 28 #[.slice A0 l0.length c0, .slice A1 l1.length c1, .bool a2] w fun e w' => ∃ v0_ : Value, e = .returned (.tuple #[v0_, .int .i64 r2, .int .i64 r3]) ∧ Kd.R (Kd.int .u8) 5 w' w.heap.size (fun _ => True) v0_ r1 ∧ Below w.heap.size w w' := by
 have HLW := Aside0.mk hLW
 clear hLW
 have HR0 := Aside0.mk hr0
 have HC0 := Aside0.mk hc0
 clear hr0 hc0
 have HR1 := Aside0.mk hr1
 have HC1 := Aside0.mk hc1
 clear hr1 hc1
 have HB := Aside0.mk (Below.refl w.heap.size w)
 have H := h
 unfold http_body.f at H
 clear h
 replace H := Option.bind_eq_some_iff.mp H
 obtain ⟨⟨t156, t157⟩, A40, H⟩ := H
 (try dsimp only at H)
 have A4 := Aside0.mk A40
 clear A40
 have HC5 := Aside0.mk H
 clear H
 go_enter Tryz.func28, Tryz.ntmps28
 go_upto_block 0 with (first | ((with_reducible refine gate_callee (f := 54) rfl ?_); refine goesL_ (some 13) rfl rfl Tryz.func54 (by kernel_rfl) rfl #[.slice A1 l1.length c1] rfl lq_ ?_; (with_reducible refine (http_kind.calls k _ _ l1 t156 t157 _ ?side3 ?side1 ?side2 A4.out).mono ?_); (case side1 => repeat (first | exact HR1.out | (with_reducible refine Kd.C_alloc ?_ _) | (with_reducible refine Kd.C_drewN ?_ _) | (with_reducible refine Kd.C_drew ?_))); (case side2 => exact HC1.out); (case side3 => exact lw_); rintro e w6 ⟨rfl, hb⟩; refine ⟨_, rfl, ?_⟩; replace HB := Aside0.mk (below_step bq_ hb)))
 (try simp only [Act.put, List.setIfInBounds_toArray, List.set_cons_zero, List.set_cons_succ])
 go_cut [10] (fun v10 wc => ∃ (kq : Nat) (x10_4 : Int), v10 = .int .i64 x10_4 ∧ Aside0 (http_body.j0 kq l0 x10_4 = some (r1, r2, r3)) ∧ Aside0 (kq ≤ k) ∧ Aside0 (Below w.heap.size w wc))
 case first =>
  have H := HC5.out
  clear HC5
  by_cases c7 : t156 = 3
  ·rw [if_pos c7] at H
   have c7b0 := beq_iff_eq.mpr c7
   have c7b1 := bne_eq_false_iff_eq.mpr c7
   clear c7
   (first | rw [c7b0] | (simp only [i64_w, i32_w]; rw [c7b0]) | skip)
   simp only [Option.some.injEq, Prod.mk.injEq] at H
   obtain ⟨rfl, rfl, rfl⟩ := H
   go_wp2
   go_ret3
   exact ⟨_, rq_, by first | exact Kd.R_nil _ _ _ _ _ | exact Kd.N_nil _ _ _ _ _ | exact Kd.V_nil _ _ _ _ _ | exact Kd.Q_nil _ _ _ _ _ | exact Kd.S_nil _ _ _ _ _, bq_⟩
  ·rw [if_neg c7] at H
   have c7b0 := beq_eq_false_iff_ne.mpr c7
   have c7b1 := bne_iff_ne.mpr c7
   (first | rw [c7b0] | (simp only [i64_w, i32_w]; rw [c7b0]) | skip)
   by_cases c8 : t156 = 2
   ·rw [if_pos c8] at H
    have c8b0 := beq_iff_eq.mpr c8
    have c8b1 := bne_eq_false_iff_eq.mpr c8
    clear c8
    replace H := Option.bind_eq_some_iff.mp H
    obtain ⟨⟨t158, t159, t160⟩, A90, H⟩ := H
    (try dsimp only at H)
    have A9 := Aside0.mk A90
    clear A90
    simp only [Option.some.injEq, Prod.mk.injEq] at H
    obtain ⟨rfl, rfl, rfl⟩ := H
    go_wp2_with (first | ((with_reducible refine gate_callee (f := 55) rfl ?_); refine goesL_ (some 23) rfl rfl Tryz.func55 (by kernel_rfl) rfl #[.slice A0 l0.length c0] rfl lq_ ?_; (with_reducible refine (chunk_Decode.calls k _ _ l0 t158 t159 t160 _ ?side3 ?side1 ?side2 A9.out).mono ?_); (case side1 => repeat (first | exact (Kd.C_below HR0.out HB.out) | (with_reducible refine Kd.C_alloc ?_ _) | (with_reducible refine Kd.C_drewN ?_ _) | (with_reducible refine Kd.C_drew ?_))); (case side2 => exact HC0.out); (case side3 => exact lw_); rintro e w10 ⟨v161, rfl, ho0, hb⟩; refine ⟨_, rfl, ?_⟩; have HO162 := Aside0.mk (Kd.R_lower ho0 (below_size bq_)); replace HB := Aside0.mk (below_step bq_ hb)))
    go_ret3
    exact ⟨_, rq_, by (with_reducible repeat (first | apply Kd.R_alloc | apply Kd.R_drewN | apply Kd.R_drew)); exact HO162.out, bq_⟩
   ·rw [if_neg c8] at H
    have c8b0 := beq_eq_false_iff_ne.mpr c8
    have c8b1 := bne_iff_ne.mpr c8
    by_cases c11 : t156 = 0
    ·rw [if_pos c11] at H
     have c11b0 := beq_iff_eq.mpr c11
     have c11b1 := bne_eq_false_iff_eq.mpr c11
     clear c11
     by_cases c12 : a2 = true
     ·subst c12
      replace H := ifT_ H
      have H' := Aside0.mk H
      clear H
      go_wp2
      go_meet
      case rel => exact ⟨_, ((l0.length : Int)), sq_, H', ⟨by first | omega | exact Nat.le_refl _⟩, ⟨bq_⟩⟩
     ·replace c12 := Bool.eq_false_iff.mpr c12
      subst c12
      replace H := ifF_ H
      have H' := Aside0.mk H
      clear H
      go_wp2
      go_meet
      case rel => exact ⟨_, (t157), sq_, H', ⟨by first | omega | exact Nat.le_refl _⟩, ⟨bq_⟩⟩
    ·rw [if_neg c11] at H
     have c11b0 := beq_eq_false_iff_ne.mpr c11
     have c11b1 := bne_iff_ne.mpr c11
     have H' := Aside0.mk H
     clear H
     go_wp2
     go_meet
     case rel => exact ⟨_, (t157), sq_, H', ⟨by first | omega | exact Nat.le_refl _⟩, ⟨bq_⟩⟩
 case rest =>
  clear HC5
  obtain ⟨kq, x10_4, rfl, HA, HJ4, HB⟩ := hcut
  cases kq with
  | zero => exact absurd HA.out (by simp [http_body.j0])
  | succ kj4 =>
   have H := HA.out
   clear HA
   simp only [http_body.j0] at H
   by_cases c13 : x10_4 > 32768
   ·rw [if_pos c13] at H
    have c13b0 := decide_eq_true c13
    clear c13
    simp only [Option.some.injEq, Prod.mk.injEq] at H
    obtain ⟨rfl, rfl, rfl⟩ := H
    go_wp2
    go_ret3
    exact ⟨_, rq_, by first | exact Kd.R_nil _ _ _ _ _ | exact Kd.N_nil _ _ _ _ _ | exact Kd.V_nil _ _ _ _ _ | exact Kd.Q_nil _ _ _ _ _ | exact Kd.S_nil _ _ _ _ _, bq_⟩
   ·rw [if_neg c13] at H
    have c13b0 := decide_eq_false c13
    clear c13
    by_cases c14 : x10_4 > (l0.length : Int)
    ·rw [if_pos c14] at H
     have c14b0 := decide_eq_true c14
     clear c14
     simp only [Option.some.injEq, Prod.mk.injEq] at H
     obtain ⟨rfl, rfl, rfl⟩ := H
     go_wp2
     go_ret3
     exact ⟨_, rq_, by first | exact Kd.R_nil _ _ _ _ _ | exact Kd.N_nil _ _ _ _ _ | exact Kd.V_nil _ _ _ _ _ | exact Kd.Q_nil _ _ _ _ _ | exact Kd.S_nil _ _ _ _ _, bq_⟩
    ·rw [if_neg c14] at H
     have c14b0 := decide_eq_false c14
     clear c14
     by_cases c15 : 0 ≤ x10_4
     ·rw [if_pos c15] at H
      have c15b0 := eq_true c15
      have c15b1 := decide_eq_true c15
      clear c15
      by_cases c16 : x10_4 ≤ (l0.length : Int)
      ·rw [if_pos c16] at H
       have c16b0 := eq_true c16
       have c16b1 := decide_eq_true c16
       clear c16
       replace H := Option.bind_eq_some_iff.mp H
       obtain ⟨t164, A170, H⟩ := H
       (try dsimp only at H)
       have A17 := Aside0.mk A170
       clear A170
       simp only [Option.some.injEq, Prod.mk.injEq] at H
       obtain ⟨rfl, rfl, rfl⟩ := H
       obtain ⟨i018, hi018, _, hsz18, _⟩ := info_parts info5
       obtain ⟨hcut18, hA18, hC18⟩ := print_take_of (P := Tryz.prog) (Value.int .u8) 0 22 5 .i64 Tryz.underlying22 hi018 hsz18 A0 c0 l0 x10_4 (of_decide_eq_true as_) (of_decide_eq_true as_) HC0.out
       have HR163 := Aside0.mk (Kd.C_of_reads (h1 := fun _ => rfl) (hA18 _ (Kd.reads_of_C HR0.out)))
       have HC163 := Aside0.mk hC18
       clear hA18 hC18 hi018 hsz18
       go_wp2_with (first | ((with_reducible refine gate_callee (f := 56) rfl ?_); refine goesL_ (some 46) rfl rfl Tryz.func56 (by kernel_rfl) rfl #[.slice A0 (l0.take (x10_4 : Int).toNat).length c0] rfl (by (try simp only [List.map_toArray, List.map_cons, List.map_nil]); first | done | (rw [show (l0.take (x10_4 : Int).toNat).length = x10_4.toNat from (by rw [List.length_take]; have h_ : (x10_4 : Int) ≤ (l0.length : Int) := of_decide_eq_true as_; omega)] <;> rfl) | rfl | (simp only [List.length_drop, List.length_take]; rfl)) ?_; (with_reducible refine (slices_Clone_byte_byte.calls _ _ (l0.take (x10_4 : Int).toNat) t164 _ ?side3 ?side1 ?side2 A17.out).mono ?_); (case side1 => repeat (first | exact (Kd.C_below HR163.out HB.out) | (with_reducible refine Kd.C_alloc ?_ _) | (with_reducible refine Kd.C_drewN ?_ _) | (with_reducible refine Kd.C_drew ?_))); (case side2 => exact HC163.out); (case side3 => exact lw_); rintro e w19 ⟨v165, rfl, ho0, hb⟩; refine ⟨_, rfl, ?_⟩; have HO166 := Aside0.mk (Kd.R_lower ho0 (below_size bq_)); replace HB := Aside0.mk (below_step bq_ hb)))
       go_ret3
       exact ⟨_, rq_, by (with_reducible repeat (first | apply Kd.R_alloc | apply Kd.R_drewN | apply Kd.R_drew)); exact HO166.out, bq_⟩
      ·rw [if_neg c16] at H
       exact absurd H (by simp)
     ·rw [if_neg c15] at H
      exact absurd H (by simp)

end Go.Proofs.YtipleegkonhfcaaGreatDoor.P
