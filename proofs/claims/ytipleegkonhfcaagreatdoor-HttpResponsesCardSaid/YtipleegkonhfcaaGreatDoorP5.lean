import Derived.Test.YtipleegkonhfcaaGreatDoorP4
namespace Go.Proofs.YtipleegkonhfcaaGreatDoor.P
open Go.Proofs.YtipleegkonhfcaaGreatDoorZ
open Go.Proofs.YtipleegkonhfcaaGreatDoor.E Go.Proofs.YtipleegkonhfcaaGreatDoorV
open Go.Proofs.YtipleegkonhfcaaGreatDoor.U
open Go.Proofs.YtipleegkonhfcaaGreatDoor.KF
open Go.RowKit Go.Proofs.YtipleegkonhfcaaGreatDoorW.PrintWords Go.Proofs.YtipleegkonhfcaaGreatDoorW.PrintLast Go.Proofs.YtipleegkonhfcaaGreatDoorW.PrintMore
attribute [local go_sem] max2_int min2_int max_two min_two max_three min_three max_four min_four   -- for this text's walks alone
set_option linter.unusedVariables false
set_option linter.unusedSimpArgs false

def http_ParseRequest.j0 : Nat → List Int → Int → List ByteArray → Bool → Option (ByteArray × ByteArray × (List (S67)) × List Int × Int × Int)
 | 0, _, _, _, _ => none
 | k + 1, x0, x3, x6, x44 => if x44 = true then (some ((⟨#[]⟩ : ByteArray), (⟨#[]⟩ : ByteArray), ([] : List (S67)), ([] : List Int), 0, 5)) else (if 0 ≤ x3 then (if x3 ≤ (x0.length : Int) then ((header_Parse.f k (x0.drop (x3 : Int).toNat)).bind fun bt180 => (if bt180.2.2 = 0 then (if 0 ≤ (wrap64 (x3 + bt180.2.1)) then (if (wrap64 (x3 + bt180.2.1)) ≤ (x0.length : Int) then ((http_body.f k (x0.drop ((wrap64 (x3 + bt180.2.1)) : Int).toNat) bt180.1 false).bind fun bt186 => (if bt186.2.2 = 0 then (if 0 < (x6.length : Int) then (if 1 < (x6.length : Int) then (some (rdOf ByteArray.empty x6 0, rdOf ByteArray.empty x6 1, bt180.1, bt186.1, wrap64 ((wrap64 (x3 + bt180.2.1)) + bt186.2.1), 0)) else (none)) else (none)) else (some ((⟨#[]⟩ : ByteArray), (⟨#[]⟩ : ByteArray), ([] : List (S67)), ([] : List Int), 0, bt186.2.2)))) else (none)) else (none)) else (some ((⟨#[]⟩ : ByteArray), (⟨#[]⟩ : ByteArray), ([] : List (S67)), ([] : List Int), 0, bt180.2.2)))) else (none)) else (none))
def http_ParseRequest.f (k : Nat) (l0 : List Int) : Option (ByteArray × ByteArray × (List (S67)) × List Int × Int × Int) := (http_first.f k l0).bind fun bt168 => (if bt168.2.2 = 0 then ((strings_Split.f bt168.1 (⟨#[32]⟩ : ByteArray)).bind fun t171 => (if (t171.length : Int) = 3 then (if 0 < (t171.length : Int) then ((header_Token.f (rdOf ByteArray.empty t171 0)).bind fun t175 => (if t175 = true then (if 1 < (t171.length : Int) then ((http_target.f k (rdOf ByteArray.empty t171 1)).bind fun t177 => (if t177 = true then (if 2 < (t171.length : Int) then (http_ParseRequest.j0 k l0 bt168.2.1 t171 ((rdOf ByteArray.empty t171 2).toList != ([72, 84, 84, 80, 47, 49, 46, 49] : List UInt8))) else (none)) else (http_ParseRequest.j0 k l0 bt168.2.1 t171 true))) else (none)) else (http_ParseRequest.j0 k l0 bt168.2.1 t171 true))) else (none)) else (http_ParseRequest.j0 k l0 bt168.2.1 t171 true))) else (some ((⟨#[]⟩ : ByteArray), (⟨#[]⟩ : ByteArray), ([] : List (S67)), ([] : List Int), 0, bt168.2.2)))
theorem http_ParseRequest.mono_l : ∀ k, (∀ y0 y1 y2 y3, LeO (http_ParseRequest.j0 k y0 y1 y2 y3) (http_ParseRequest.j0 (k + 1) y0 y1 y2 y3))
 | 0 => fun _ _ _ _ r h => by simp [http_ParseRequest.j0] at h
 | k + 1 => by
  have ih0 := http_ParseRequest.mono_l k
  ·intro y0 y1 y2 y3
   unfold http_ParseRequest.j0
   repeat' first
   | (with_reducible exact ih0 _ _ _ _)
   | (with_reducible exact header_Parse.mono _ _)
   | (with_reducible exact http_body.mono _ _ _ _)
   | (with_reducible exact http_first.mono _ _)
   | (with_reducible exact http_target.mono _ _)
   | (with_reducible exact LeO.refl _)
   | (with_reducible exact LeO.none _)
   | (with_reducible refine LeO.ite ?_ ?_)
   | (with_reducible refine LeO.bind ?_ (fun _ => ?_))
   | exact ih0 _ _ _ _
   | exact header_Parse.mono _ _
   | exact http_body.mono _ _ _ _
   | exact http_first.mono _ _
   | exact http_target.mono _ _
   | exact LeO.none _
   | refine LeO.ite ?_ ?_
   | refine LeO.bind ?_ (fun _ => ?_)
theorem http_ParseRequest.mono : ∀ a0 k, LeO (http_ParseRequest.f k a0) (http_ParseRequest.f (k + 1) a0) := by
 intro a0 k
 have ih0 := http_ParseRequest.mono_l k
 unfold http_ParseRequest.f
 repeat' first
   | (with_reducible exact ih0 _ _ _ _)
   | (with_reducible exact header_Parse.mono _ _)
   | (with_reducible exact http_body.mono _ _ _ _)
   | (with_reducible exact http_first.mono _ _)
   | (with_reducible exact http_target.mono _ _)
   | (with_reducible exact LeO.refl _)
   | (with_reducible exact LeO.none _)
   | (with_reducible refine LeO.ite ?_ ?_)
   | (with_reducible refine LeO.bind ?_ (fun _ => ?_))
   | exact ih0 _ _ _ _
   | exact header_Parse.mono _ _
   | exact http_body.mono _ _ _ _
   | exact http_first.mono _ _
   | exact http_target.mono _ _
   | exact LeO.none _
   | refine LeO.ite ?_ ?_
   | refine LeO.bind ?_ (fun _ => ?_)
def http_ParseRequest.T14 : Bool × List (List Nat × List Nat) := (true, [([], []), ([0], [0]), ([1], [1]), ([], []), ([3], [3]), ([4], [4]), ([], []), ([], []), ([2, 5, 6, 7], [2, 5, 6, 7]), ([], []), ([], []), ([9, 10], [9, 10]), ([8, 0, 1, 2, 3, 4, 5, 6, 7, 8], [8]), ([11, 12, 0, 1, 2, 3, 4, 5, 6, 7, 8, 9, 10, 11, 12], [9, 11]), ([13, 0, 1, 2, 3, 4, 5, 6, 7, 8, 9, 10, 11, 12, 13], [])])
def http_ParseRequest.B14 : List Nat := [0, 1, 3, 0, 8, 24, 0, 0, 255, 0, 0, 1536, 511, 8191, 16383]
theorem http_ParseRequest.tab14 : rtab .any (opsOf Tryz.f7 14) = http_ParseRequest.T14 := by kernel_rfl
theorem http_ParseRequest.bits14 : waitsOk http_ParseRequest.T14.2 http_ParseRequest.B14 = true := by kernel_rfl
set_option maxHeartbeats 8000000 in
set_option maxRecDepth 100000 in
theorem http_ParseRequest.calls (k : Nat) (A0 : Option Addr) (c0 : Nat) (l0 : List Int) (r1 : ByteArray) (r2 : ByteArray) (r3 : List (S67)) (r4 : List Int) (r5 : Int) (r6 : Int) (w : World) (hLW : LW w) (hr0 : Kd.C (Kd.int .u8) w A0 l0.length l0) (hc0 : l0.length ≤ c0) (h : http_ParseRequest.f k l0 = some (r1, r2, r3, r4, r5, r6)) :
  Calls Tryz.prog 7 #[.slice A0 l0.length c0] w fun e w' => ∃ v2_ v3_ : Value, e = .returned (.tuple #[.agg #[.string r1, .string r2, v2_, v3_], .int .i64 r5, .int .i64 r6]) ∧ Kd.R k67 67 w' w.heap.size (fun _ => True) v2_ r3 ∧ Kd.R (Kd.int .u8) 5 w' w.heap.size (fun _ => True) v3_ r4 ∧ Below w.heap.size w w' := by
 have hu26 := Tryz.underlying26
 have HLW := Aside0.mk hLW
 clear hLW
 have HR0 := Aside0.mk hr0
 have HC0 := Aside0.mk hc0
 clear hr0 hc0
 have HB := Aside0.mk (Below.refl w.heap.size w)
 have H := h
 unfold http_ParseRequest.f at H
 clear h
 replace H := Option.bind_eq_some_iff.mp H
 obtain ⟨⟨t168, t169, t170⟩, A20, H⟩ := H
 (try dsimp only at H)
 have A2 := Aside0.mk A20
 clear A20
 by_cases c3 : t170 = 0
 ·rw [if_pos c3] at H
  have c3b0 := beq_iff_eq.mpr c3
  have c3b1 := bne_eq_false_iff_eq.mpr c3
  clear c3
  replace H := Option.bind_eq_some_iff.mp H
  obtain ⟨t171, A40, H⟩ := H
  (try dsimp only at H)
  have A4 := Aside0.mk A40
  clear A40
  have HC5 := Aside0.mk H
  clear H
  go_enter Tryz.func7, Tryz.ntmps7
  go_upto_region 5 with (first | ((with_reducible refine gate_dst (N := 2) rfl ?_); refine bx_ 2 #[.string (⟨#[]⟩ : ByteArray), .string (⟨#[]⟩ : ByteArray), .slice none 0 0, .slice none 0 0] 26 ?_; intro gb167 hg w6 hbox hb; have BK167 := Aside0.mk (hbox); have GW167 := Aside0.mk (ge_ (w := w) hg); have GE167 := Aside0.mk (ge_ (w := w) hg); replace HB := Aside0.mk (below_step bq_ hb); clear hb hbox hg) | ((with_reducible refine gate_callee (f := 23) rfl ?_); refine goesL_ (some 12) rfl rfl Tryz.func23 (by kernel_rfl) rfl #[.slice A0 l0.length c0] rfl lq_ ?_; (with_reducible refine (http_first.calls k _ _ l0 t168 t169 t170 _ ?side3 ?side1 ?side2 A2.out).mono ?_); (case side1 => repeat (first | exact (Kd.C_below HR0.out HB.out) | (with_reducible refine Kd.C_alloc ?_ _) | (with_reducible refine Kd.C_drewN ?_ _) | (with_reducible refine Kd.C_drew ?_))); (case side2 => exact HC0.out); (case side3 => exact lg_); rintro e w7 ⟨rfl, hb⟩; refine ⟨_, rfl, ?_⟩; replace BK167 := Aside0.mk (blk_below (g := gb167) (o := .cells #[.string (⟨#[]⟩ : ByteArray), .string (⟨#[]⟩ : ByteArray), .slice none 0 0, .slice none 0 0] 26 (0, 0)) bk_ hb); replace HB := Aside0.mk (below_step bg_ hb)) | ((with_reducible refine gate_callee (f := 24) rfl ?_); refine goesL_ (some 21) rfl rfl Tryz.func24 (by kernel_rfl) rfl #[.string t168, .string (⟨#[32]⟩ : ByteArray)] rfl lq_ ?_; (with_reducible refine (strings_Split.calls t168 (⟨#[32]⟩ : ByteArray) t171 _ ?side1 A4.out).mono ?_); (case side1 => exact lg_); rintro e w8 ⟨v172, rfl, ho0, hb⟩; refine ⟨_, rfl, ?_⟩; have HO173 := Aside0.mk (Kd.R_lower ho0 (below_size bg_)); replace BK167 := Aside0.mk (blk_below (g := gb167) (o := .cells #[.string (⟨#[]⟩ : ByteArray), .string (⟨#[]⟩ : ByteArray), .slice none 0 0, .slice none 0 0] 26 (0, 0)) bk_ hb); replace HB := Aside0.mk (below_step bg_ hb)))
  (try simp only [Act.put, List.setIfInBounds_toArray, List.set_cons_zero, List.set_cons_succ])
  go_cut [44] (fun v44 wc => ∃ (kq : Nat) (x44_4 : Bool), v44 = .bool x44_4 ∧ Aside0 (http_ParseRequest.j0 kq l0 t169 t171 x44_4 = some (r1, r2, r3, r4, r5, r6)) ∧ Aside0 (kq ≤ k) ∧ Aside0 (Kd.R Kd.string 9 wc w.heap.size (fun _ => True) v172 t171) ∧ Aside0 (wc.heap[gb167]? = some (.cells #[.string (⟨#[]⟩ : ByteArray), .string (⟨#[]⟩ : ByteArray), (.slice none 0 0), (.slice none 0 0)] 26 (0, 0))) ∧ Aside0 (Below w.heap.size w wc))
  case first =>
   have H := HC5.out
   clear HC5
   by_cases c9 : (t171.length : Int) = 3
   ·rw [if_pos c9] at H
    have c9b0 := beq_iff_eq.mpr c9
    have c9b1 := bne_eq_false_iff_eq.mpr c9
    clear c9
    (first | rw [c9b0] | (simp only [i64_w, i32_w]; rw [c9b0]) | skip)
    by_cases c10 : 0 < (t171.length : Int)
    ·rw [if_pos c10] at H
     have c10b0 := decide_eq_true c10
     have c10b1 : decide (0 < t171.length) = true := decide_eq_true (by omega)
     clear c10
     replace H := Option.bind_eq_some_iff.mp H
     obtain ⟨t175, A110, H⟩ := H
     (try dsimp only at H)
     have A11 := Aside0.mk A110
     clear A110
     by_cases c12 : t175 = true
     ·subst c12
      replace H := ifT_ H
      by_cases c13 : 1 < (t171.length : Int)
      ·rw [if_pos c13] at H
       have c13b0 := decide_eq_true c13
       have c13b1 : decide (1 < t171.length) = true := decide_eq_true (by omega)
       clear c13
       replace H := Option.bind_eq_some_iff.mp H
       obtain ⟨t177, A140, H⟩ := H
       (try dsimp only at H)
       have A14 := Aside0.mk A140
       clear A140
       by_cases c15 : t177 = true
       ·subst c15
        replace H := ifT_ H
        by_cases c16 : 2 < (t171.length : Int)
        ·rw [if_pos c16] at H
         have c16b0 := decide_eq_true c16
         have c16b1 : decide (2 < t171.length) = true := decide_eq_true (by omega)
         clear c16
         have H' := Aside0.mk H
         clear H
         obtain ⟨Ao17, co17, eo17⟩ := Kd.R_slice HO173.out
         subst eo17
         have p174 : 0 ≤ (0 : Int) := (by omega)
         have q174 : 0 < (t171.length : Int) := of_decide_eq_true as_
         obtain ⟨ad174, e174, hx174_0⟩ := Kd.at_string (Kd.R_reads' HO173.out).2.2 0 p174 q174
         cases e174
         have qi174 : (0 < t171.length) = True := eq_true (by omega)
         (try rw [show ((0 : Int)).toNat = 0 from rfl] at hx174_0)
         (try rw [Addr.add_zero'] at hx174_0)
         replace p174 := eq_true p174
         replace q174 := eq_true q174
         go_wp2_with (first | (go_at_call 25; (with_reducible refine (header_Token.calls (rdOf ByteArray.empty t171 0) true _ ?side1 A11.out).mono ?_); (case side1 => exact lg_); rintro e w18 ⟨rfl, hb⟩; replace HO173 := Aside0.mk (Kd.R_below (by (with_reducible repeat (first | apply Kd.R_alloc | apply Kd.R_drewN | apply Kd.R_drew)); exact HO173.out) hb); replace BK167 := Aside0.mk (blk_below (g := gb167) (o := .cells #[.string (⟨#[]⟩ : ByteArray), .string (⟨#[]⟩ : ByteArray), .slice none 0 0, .slice none 0 0] 26 (0, 0)) bk_ hb); replace HB := Aside0.mk (below_step bg_ hb); have p176 : 0 ≤ (1 : Int) := (by omega); have q176 : 1 < (t171.length : Int) := of_decide_eq_true as_; obtain ⟨ad176, e176, hx176_0⟩ := Kd.at_string (Kd.R_reads' HO173.out).2.2 1 p176 q176; obtain rfl : ad174 = ad176 := (by injection e176); (try simp only [show (1 : Int).toNat = 1 from rfl, Nat.reduceMul, Nat.reduceEqDiff, Go.Addr.add, ↓reduceIte] at hx176_0); have qi176 : (1 < t171.length) = True := eq_true (by omega); (try rw [show ((1 : Int)).toNat = 1 from rfl] at hx176_0); replace p176 := eq_true p176; replace q176 := eq_true q176) | (go_at_call 26; (with_reducible refine (http_target.calls k (rdOf ByteArray.empty t171 1) true _ ?side1 A14.out).mono ?_); (case side1 => exact lg_); rintro e w' ⟨rfl, ⟨nd, rfl⟩⟩; have p178 : 0 ≤ (2 : Int) := (by omega); have q178 : 2 < (t171.length : Int) := of_decide_eq_true as_; obtain ⟨ad178, e178, hx178_0⟩ := Kd.at_string (Kd.R_reads' HO173.out).2.2 2 p178 q178; obtain rfl : ad174 = ad178 := (by injection e178); (try simp only [show (2 : Int).toNat = 2 from rfl, Nat.reduceMul, Nat.reduceEqDiff, Go.Addr.add, ↓reduceIte] at hx178_0); have qi178 : (2 < t171.length) = True := eq_true (by omega); (try rw [show ((2 : Int)).toNat = 2 from rfl] at hx178_0); replace p178 := eq_true p178; replace q178 := eq_true q178))
         go_meet
         case rel => exact ⟨_, (((rdOf ByteArray.empty t171 2).toList != ([72, 84, 84, 80, 47, 49, 46, 49] : List UInt8))), sq_, H', ⟨by first | omega | exact Nat.le_refl _⟩, ⟨by (with_reducible repeat (first | apply Kd.R_alloc | apply Kd.R_drewN | apply Kd.R_drew)); exact HO173.out⟩, ⟨bk_⟩, ⟨bg_⟩⟩
        ·rw [if_neg c16] at H
         exact absurd H (by simp)
       ·replace c15 := Bool.eq_false_iff.mpr c15
        subst c15
        replace H := ifF_ H
        have H' := Aside0.mk H
        clear H
        obtain ⟨Ao19, co19, eo19⟩ := Kd.R_slice HO173.out
        subst eo19
        have p174 : 0 ≤ (0 : Int) := (by omega)
        have q174 : 0 < (t171.length : Int) := of_decide_eq_true as_
        obtain ⟨ad174, e174, hx174_0⟩ := Kd.at_string (Kd.R_reads' HO173.out).2.2 0 p174 q174
        cases e174
        have qi174 : (0 < t171.length) = True := eq_true (by omega)
        (try rw [show ((0 : Int)).toNat = 0 from rfl] at hx174_0)
        (try rw [Addr.add_zero'] at hx174_0)
        replace p174 := eq_true p174
        replace q174 := eq_true q174
        go_wp2_with (first | (go_at_call 25; (with_reducible refine (header_Token.calls (rdOf ByteArray.empty t171 0) true _ ?side1 A11.out).mono ?_); (case side1 => exact lg_); rintro e w20 ⟨rfl, hb⟩; replace HO173 := Aside0.mk (Kd.R_below (by (with_reducible repeat (first | apply Kd.R_alloc | apply Kd.R_drewN | apply Kd.R_drew)); exact HO173.out) hb); replace BK167 := Aside0.mk (blk_below (g := gb167) (o := .cells #[.string (⟨#[]⟩ : ByteArray), .string (⟨#[]⟩ : ByteArray), .slice none 0 0, .slice none 0 0] 26 (0, 0)) bk_ hb); replace HB := Aside0.mk (below_step bg_ hb); have p176 : 0 ≤ (1 : Int) := (by omega); have q176 : 1 < (t171.length : Int) := of_decide_eq_true as_; obtain ⟨ad176, e176, hx176_0⟩ := Kd.at_string (Kd.R_reads' HO173.out).2.2 1 p176 q176; obtain rfl : ad174 = ad176 := (by injection e176); (try simp only [show (1 : Int).toNat = 1 from rfl, Nat.reduceMul, Nat.reduceEqDiff, Go.Addr.add, ↓reduceIte] at hx176_0); have qi176 : (1 < t171.length) = True := eq_true (by omega); (try rw [show ((1 : Int)).toNat = 1 from rfl] at hx176_0); replace p176 := eq_true p176; replace q176 := eq_true q176) | (go_at_call 26; (with_reducible refine (http_target.calls k (rdOf ByteArray.empty t171 1) false _ ?side1 A14.out).mono ?_); (case side1 => exact lg_); rintro e w' ⟨rfl, ⟨nd, rfl⟩⟩))
        go_meet
        case rel => exact ⟨_, (true), sq_, H', ⟨by first | omega | exact Nat.le_refl _⟩, ⟨by (with_reducible repeat (first | apply Kd.R_alloc | apply Kd.R_drewN | apply Kd.R_drew)); exact HO173.out⟩, ⟨bk_⟩, ⟨bg_⟩⟩
      ·rw [if_neg c13] at H
       exact absurd H (by simp)
     ·replace c12 := Bool.eq_false_iff.mpr c12
      subst c12
      replace H := ifF_ H
      have H' := Aside0.mk H
      clear H
      obtain ⟨Ao21, co21, eo21⟩ := Kd.R_slice HO173.out
      subst eo21
      have p174 : 0 ≤ (0 : Int) := (by omega)
      have q174 : 0 < (t171.length : Int) := of_decide_eq_true as_
      obtain ⟨ad174, e174, hx174_0⟩ := Kd.at_string (Kd.R_reads' HO173.out).2.2 0 p174 q174
      cases e174
      have qi174 : (0 < t171.length) = True := eq_true (by omega)
      (try rw [show ((0 : Int)).toNat = 0 from rfl] at hx174_0)
      (try rw [Addr.add_zero'] at hx174_0)
      replace p174 := eq_true p174
      replace q174 := eq_true q174
      go_wp2_with (first | (go_at_call 25; (with_reducible refine (header_Token.calls (rdOf ByteArray.empty t171 0) false _ ?side1 A11.out).mono ?_); (case side1 => exact lg_); rintro e w22 ⟨rfl, hb⟩; replace HO173 := Aside0.mk (Kd.R_below (by (with_reducible repeat (first | apply Kd.R_alloc | apply Kd.R_drewN | apply Kd.R_drew)); exact HO173.out) hb); replace BK167 := Aside0.mk (blk_below (g := gb167) (o := .cells #[.string (⟨#[]⟩ : ByteArray), .string (⟨#[]⟩ : ByteArray), .slice none 0 0, .slice none 0 0] 26 (0, 0)) bk_ hb); replace HB := Aside0.mk (below_step bg_ hb)))
      go_meet
      case rel => exact ⟨_, (true), sq_, H', ⟨by first | omega | exact Nat.le_refl _⟩, ⟨by (with_reducible repeat (first | apply Kd.R_alloc | apply Kd.R_drewN | apply Kd.R_drew)); exact HO173.out⟩, ⟨bk_⟩, ⟨bg_⟩⟩
    ·rw [if_neg c10] at H
     exact absurd H (by simp)
   ·rw [if_neg c9] at H
    have c9b0 := beq_eq_false_iff_ne.mpr c9
    have c9b1 := bne_iff_ne.mpr c9
    (first | rw [c9b0] | (simp only [i64_w, i32_w]; rw [c9b0]) | skip)
    have H' := Aside0.mk H
    clear H
    obtain ⟨Ao23, co23, eo23⟩ := Kd.R_slice HO173.out
    subst eo23
    go_wp2
    go_meet
    case rel => exact ⟨_, (true), sq_, H', ⟨by first | omega | exact Nat.le_refl _⟩, ⟨by (with_reducible repeat (first | apply Kd.R_alloc | apply Kd.R_drewN | apply Kd.R_drew)); exact HO173.out⟩, ⟨bk_⟩, ⟨bg_⟩⟩
  case rest =>
   clear HC5
   obtain ⟨kq, x44_4, rfl, HA, HJ4, HO_6, BK167, HB⟩ := hcut
   cases kq with
   | zero => exact absurd HA.out (by simp [http_ParseRequest.j0])
   | succ kj4 =>
    have H := HA.out
    clear HA
    simp only [http_ParseRequest.j0] at H
    by_cases c24 : x44_4 = true
    ·subst c24
     replace H := ifT_ H
     simp only [Option.some.injEq, Prod.mk.injEq] at H
     obtain ⟨rfl, rfl, rfl, rfl, rfl, rfl⟩ := H
     have hcz25_0 := cz_ BK167 0 (.string (⟨#[]⟩ : ByteArray))
     have hcz25_1 := cz_ BK167 1 (.string (⟨#[]⟩ : ByteArray))
     have hcz25_2 := cz_ BK167 2 (.slice none 0 0)
     have hcz25_3 := cz_ BK167 3 (.slice none 0 0)
     have hfz25_0 := bf_ BK167 0
     have hfz25_1 := bf_ BK167 1
     have hfz25_2 := bf_ BK167 2
     have hfz25_3 := bf_ BK167 3
     go_wp2
     refine bodyPost_ret (results_ctt rfl _ _ gb167 26 #[.string (⟨#[]⟩ : ByteArray), .string (⟨#[]⟩ : ByteArray), .slice none 0 0, .slice none 0 0] (0, 0) _ rfl (by (with_reducible repeat (first | refine blk_drewN ?_ _ | refine blk_drew ?_ | refine blk_alloc ?_ _)); refine blk_put (cs := #[.string (⟨#[]⟩ : ByteArray), .string (⟨#[]⟩ : ByteArray), .slice none 0 0, .slice none 0 0]) ?_ 3 _ rfl; (with_reducible repeat (first | refine blk_drewN ?_ _ | refine blk_drew ?_ | refine blk_alloc ?_ _)); refine blk_put (cs := #[.string (⟨#[]⟩ : ByteArray), .string (⟨#[]⟩ : ByteArray), .slice none 0 0, .slice none 0 0]) ?_ 2 _ rfl; (with_reducible repeat (first | refine blk_drewN ?_ _ | refine blk_drew ?_ | refine blk_alloc ?_ _)); refine blk_put (cs := #[.string (⟨#[]⟩ : ByteArray), .string (⟨#[]⟩ : ByteArray), .slice none 0 0, .slice none 0 0]) ?_ 1 _ rfl; (with_reducible repeat (first | refine blk_drewN ?_ _ | refine blk_drew ?_ | refine blk_alloc ?_ _)); refine blk_put (cs := #[.string (⟨#[]⟩ : ByteArray), .string (⟨#[]⟩ : ByteArray), .slice none 0 0, .slice none 0 0]) ?_ 0 _ rfl; (with_reducible repeat (first | refine blk_drewN ?_ _ | refine blk_drew ?_ | refine blk_alloc ?_ _)); exact BK167.out) Tryz.underlying26 rfl (by kernel_rfl)) rfl ?_
     exact ⟨_, _, rq_, by first | exact Kd.R_nil _ _ _ _ _ | exact Kd.N_nil _ _ _ _ _ | exact Kd.V_nil _ _ _ _ _ | exact Kd.Q_nil _ _ _ _ _ | exact Kd.S_nil _ _ _ _ _, by first | exact Kd.R_nil _ _ _ _ _ | exact Kd.N_nil _ _ _ _ _ | exact Kd.V_nil _ _ _ _ _ | exact Kd.Q_nil _ _ _ _ _ | exact Kd.S_nil _ _ _ _ _, bg_⟩
    ·replace c24 := Bool.eq_false_iff.mpr c24
     subst c24
     replace H := ifF_ H
     by_cases c26 : 0 ≤ t169
     ·rw [if_pos c26] at H
      have c26b0 := eq_true c26
      have c26b1 := decide_eq_true c26
      clear c26
      by_cases c27 : t169 ≤ (l0.length : Int)
      ·rw [if_pos c27] at H
       have c27b0 := eq_true c27
       have c27b1 := decide_eq_true c27
       clear c27
       replace H := Option.bind_eq_some_iff.mp H
       obtain ⟨⟨t180, t181, t182⟩, A280, H⟩ := H
       (try dsimp only at H)
       have A28 := Aside0.mk A280
       clear A280
       by_cases c29 : t182 = 0
       ·rw [if_pos c29] at H
        have c29b0 := beq_iff_eq.mpr c29
        have c29b1 := bne_eq_false_iff_eq.mpr c29
        clear c29
        obtain ⟨ji30, hji30⟩ : ∃ j_ : Int, (wrap64 (t169 + t181)) = j_ := ⟨_, rfl⟩
        replace H : (if 0 ≤ (ji30) then (if (ji30) ≤ (l0.length : Int) then ((http_body.f kj4 (l0.drop ((ji30) : Int).toNat) t180 false).bind fun bt186 => (if bt186.2.2 = 0 then (if 0 < (t171.length : Int) then (if 1 < (t171.length : Int) then (some (rdOf ByteArray.empty t171 0, rdOf ByteArray.empty t171 1, t180, bt186.1, wrap64 ((ji30) + bt186.2.1), 0)) else (none)) else (none)) else (some ((⟨#[]⟩ : ByteArray), (⟨#[]⟩ : ByteArray), ([] : List (S67)), ([] : List Int), 0, bt186.2.2)))) else (none)) else (none)) = some (r1, r2, r3, r4, r5, r6) := by first | (rw [hji30] at H; exact H) | (simp only [hji30] at H ⊢; exact H)
        (try rw [hji30] at A28)
        have hji30w : (IntKind.i64.wrap (t169 + t181)) = ji30 := (i64_w _).trans hji30
        by_cases c31 : 0 ≤ (ji30)
        ·rw [if_pos c31] at H
         have c31b0 := eq_true c31
         have c31b1 := decide_eq_true c31
         clear c31
         by_cases c32 : (ji30) ≤ (l0.length : Int)
         ·rw [if_pos c32] at H
          have c32b0 := eq_true c32
          have c32b1 := decide_eq_true c32
          clear c32
          replace H := Option.bind_eq_some_iff.mp H
          obtain ⟨⟨t186, t187, t188⟩, A330, H⟩ := H
          (try dsimp only at H)
          have A33 := Aside0.mk A330
          clear A330
          by_cases c34 : t188 = 0
          ·rw [if_pos c34] at H
           have c34b0 := beq_iff_eq.mpr c34
           have c34b1 := bne_eq_false_iff_eq.mpr c34
           clear c34
           by_cases c35 : 0 < (t171.length : Int)
           ·rw [if_pos c35] at H
            have c35b0 := decide_eq_true c35
            have c35b1 : decide (0 < t171.length) = true := decide_eq_true (by omega)
            clear c35
            by_cases c36 : 1 < (t171.length : Int)
            ·rw [if_pos c36] at H
             have c36b0 := decide_eq_true c36
             have c36b1 : decide (1 < t171.length) = true := decide_eq_true (by omega)
             clear c36
             simp only [Option.some.injEq, Prod.mk.injEq] at H
             obtain ⟨rfl, rfl, rfl, rfl, rfl, rfl⟩ := H
             obtain ⟨i037, hi037, _, hsz37, _⟩ := info_parts info5
             obtain ⟨A37, hcut37, hA37, hC37⟩ := print_drop_of (P := Tryz.prog) (Value.int .u8) 0 22 5 .i64 Tryz.underlying22 hi037 hsz37 A0 c0 l0 t169 (of_decide_eq_true as_) (of_decide_eq_true as_) HC0.out
             have HR179 := Aside0.mk (Kd.C_of_reads (h1 := fun _ => rfl) (hA37 _ (Kd.reads_of_C HR0.out)))
             have HC179 := Aside0.mk hC37
             clear hA37 hC37 hi037 hsz37
             try go_wp2_with (first | ((with_reducible refine gate_callee (f := 27) rfl ?_); refine goesL_ (some 50) rfl rfl Tryz.func27 (by kernel_rfl) rfl #[.slice A37 (l0.drop (t169 : Int).toNat).length (c0 - t169.toNat)] rfl (by (try simp only [List.map_toArray, List.map_cons, List.map_nil]); first | done | (rw [show (l0.drop (t169 : Int).toNat).length = (l0.length - t169.toNat) from List.length_drop] <;> rfl) | rfl | (simp only [List.length_drop, List.length_take]; rfl)) ?_; (with_reducible refine (header_Parse.calls kj4 _ _ (l0.drop (t169 : Int).toNat) t180 t181 t182 _ ?side3 ?side1 ?side2 A28.out).mono ?_); (case side1 => repeat (first | exact (Kd.C_below HR179.out HB.out) | (with_reducible refine Kd.C_alloc ?_ _) | (with_reducible refine Kd.C_drewN ?_ _) | (with_reducible refine Kd.C_drew ?_))); (case side2 => exact HC179.out); (case side3 => exact lg_); rintro e w38 ⟨v183, rfl, ho0, hb⟩; refine ⟨_, rfl, ?_⟩; replace HO_6 := Aside0.mk (Kd.R_below (by (with_reducible repeat (first | apply Kd.R_alloc | apply Kd.R_drewN | apply Kd.R_drew)); exact HO_6.out) hb); have HO184 := Aside0.mk (Kd.R_lower ho0 (below_size bg_)); replace BK167 := Aside0.mk (blk_below (g := gb167) (o := .cells #[.string (⟨#[]⟩ : ByteArray), .string (⟨#[]⟩ : ByteArray), .slice none 0 0, .slice none 0 0] 26 (0, 0)) bk_ hb); replace HB := Aside0.mk (below_step bg_ hb); obtain ⟨i039, hi039, _, hsz39, _⟩ := info_parts info5; obtain ⟨A39, hcut39, hA39, hC39⟩ := print_drop_of (P := Tryz.prog) (Value.int .u8) 0 22 5 .i64 Tryz.underlying22 hi039 hsz39 A0 c0 l0 (ji30) (of_decide_eq_true as_) (of_decide_eq_true as_) HC0.out; have HR185 := Aside0.mk (Kd.C_of_reads (h1 := fun _ => rfl) (hA39 _ (Kd.reads_of_C HR0.out))); have HC185 := Aside0.mk hC39; clear hA39 hC39 hi039 hsz39; obtain ⟨Ao40, co40, eo40⟩ := Kd.R_slice HO184.out; subst eo40) | ((with_reducible refine gate_callee (f := 28) rfl ?_); refine goesL_ (some 66) rfl rfl Tryz.func28 (by kernel_rfl) rfl #[.slice A39 (l0.drop ((ji30) : Int).toNat).length (c0 - (ji30).toNat), .slice Ao40 t180.length co40, .bool false] rfl (by (try simp only [List.map_toArray, List.map_cons, List.map_nil]); first | done | (rw [show (l0.drop ((ji30) : Int).toNat).length = (l0.length - (ji30).toNat) from List.length_drop] <;> rfl) | (simp only [hji30]; rfl) | rfl | (simp only [List.length_drop, List.length_take]; rfl)) ?_; (with_reducible refine (http_body.calls kj4 _ _ (l0.drop ((ji30) : Int).toNat) _ _ t180 false t186 t187 t188 _ ?side5 ?side1 ?side2 ?side3 ?side4 A33.out).mono ?_); (case side1 => repeat (first | exact (Kd.C_below HR185.out HB.out) | (with_reducible refine Kd.C_alloc ?_ _) | (with_reducible refine Kd.C_drewN ?_ _) | (with_reducible refine Kd.C_drew ?_))); (case side2 => exact HC185.out); (case side3 => repeat (first | exact (Kd.R_reads' HO184.out).2.2 | (with_reducible refine Kd.C_alloc ?_ _) | (with_reducible refine Kd.C_drewN ?_ _) | (with_reducible refine Kd.C_drew ?_))); (case side4 => exact (Kd.R_reads' HO184.out).2.1); (case side5 => exact lg_); rintro e w41 ⟨v189, rfl, ho0, hb⟩; refine ⟨_, rfl, ?_⟩; replace HO_6 := Aside0.mk (Kd.R_below (by (with_reducible repeat (first | apply Kd.R_alloc | apply Kd.R_drewN | apply Kd.R_drew)); exact HO_6.out) hb); replace HO184 := Aside0.mk (Kd.R_below (by (with_reducible repeat (first | apply Kd.R_alloc | apply Kd.R_drewN | apply Kd.R_drew)); exact HO184.out) hb); have HO190 := Aside0.mk (Kd.R_lower ho0 (below_size bg_)); replace BK167 := Aside0.mk (blk_below (g := gb167) (o := .cells #[.string (⟨#[]⟩ : ByteArray), .string (⟨#[]⟩ : ByteArray), .slice none 0 0, .slice none 0 0] 26 (0, 0)) bk_ hb); replace HB := Aside0.mk (below_step bg_ hb)))
             replace HO_6 := Aside0.mk (Kd.R_drew HO_6.out)
             replace HO184 := Aside0.mk (Kd.R_drew HO184.out)
             replace HO190 := Aside0.mk (Kd.R_drew HO190.out)
             replace BK167 := Aside0.mk (blk_drew BK167.out)
             replace HB := Aside0.mk (below_drew1 HB.out)
             obtain ⟨Ao43, co43, eo43⟩ := Kd.R_slice HO_6.out
             (first | subst eo43 | (injection eo43 with f1_ f2_ f3_; have f4_ := f1_.symm; have f5_ := f3_.symm; clear f1_ f2_ f3_; subst f4_; subst f5_))
             have p191 : 0 ≤ (0 : Int) := (by omega)
             have q191 : 0 < (t171.length : Int) := of_decide_eq_true as_
             obtain ⟨ad191, e191, hx191_0⟩ := Kd.at_string (Kd.R_reads' HO_6.out).2.2 0 p191 q191
             cases e191
             have qi191 : (0 < t171.length) = True := eq_true (by omega)
             (try rw [show ((0 : Int)).toNat = 0 from rfl] at hx191_0)
             (try rw [Addr.add_zero'] at hx191_0)
             replace p191 := eq_true p191
             replace q191 := eq_true q191
             have p192 : 0 ≤ (1 : Int) := (by omega)
             have q192 : 1 < (t171.length : Int) := of_decide_eq_true as_
             obtain ⟨ad192, e192, hx192_0⟩ := Kd.at_string (Kd.R_reads' HO_6.out).2.2 1 p192 q192
             obtain rfl : ad191 = ad192 := (by injection e192)
             (try simp only [show (1 : Int).toNat = 1 from rfl, Nat.reduceMul, Nat.reduceEqDiff, Go.Addr.add, ↓reduceIte] at hx192_0)
             have qi192 : (1 < t171.length) = True := eq_true (by omega)
             (try rw [show ((1 : Int)).toNat = 1 from rfl] at hx192_0)
             replace p192 := eq_true p192
             replace q192 := eq_true q192
             obtain ⟨Ao44, co44, eo44⟩ := Kd.R_slice HO190.out
             (first | subst eo44 | (injection eo44 with f1_ f2_ f3_; have f4_ := f1_.symm; have f5_ := f3_.symm; clear f1_ f2_ f3_; subst f4_; subst f5_))
             refine start_ (n := 15) (S := fun w' => w'.cell? ad191 = some (.string (rdOf ByteArray.empty t171 0)) ∧ w'.cell? ⟨ad191.block, ad191.off + 1, none⟩ = some (.string (rdOf ByteArray.empty t171 1))) (ds := []) (bv_ 0 15) (by kernel_rfl) rfl rfl ⟨hx191_0, hx192_0⟩ (fun hHeld => ?_); refine with_tabW http_ParseRequest.tab14 http_ParseRequest.bits14 (fun HT_ HW_ => ?_)
             generalize w41.drew = w42 at HO_6 HO184 HO190 BK167 HB hx191_0 hx192_0 hHeld ⊢
             iterate 2 refine p1_ HT_ ?_
             refine pure_ (i := 3) (N := some 77) (v := ?_) (a' := ?_) #[true, true, false, true, false, false, false, false, false, false, false, false, false, false, false] rfl rfl (any_of HT_.out (by kernel_rfl)) (fun _ _ _ h => h) (Or.inl ⟨by rfl, ?_⟩) ?_ ?_
             rotate_left
             ·intro w'
              go_simp
              with_reducible rfl
             rotate_left
             ·simp only [Act.put, sa_, s0_, s1_, i64_w, i32_w]
              rfl
             refine pure_ (i := 4) (N := some 78) (v := ?_) (a' := ?_) #[true, true, false, true, true, false, false, false, false, false, false, false, false, false, false] rfl rfl (any_of HT_.out (by kernel_rfl)) (fun _ _ _ h => h) (Or.inl ⟨by rfl, ?_⟩) ?_ ?_
             rotate_left
             ·intro w'
              go_simp
              with_reducible rfl
             rotate_left
             ·simp only [Act.put, sa_, s0_, s1_, i64_w, i32_w]
              rfl
             refine pure_ (i := 6) (N := some 80) (v := ?_) (a' := ?_) #[true, true, false, true, true, false, true, false, false, false, false, false, false, false, false] rfl rfl (any_of HT_.out (by kernel_rfl)) (fun _ _ _ h => h) (Or.inl ⟨by rfl, ?_⟩) ?_ ?_
             rotate_left
             ·intro w'
              go_simp
              with_reducible rfl
             rotate_left
             ·simp only [Act.put, sa_, s0_, s1_, i64_w, i32_w]
              rfl
             refine pure_ (i := 7) (N := some 81) (v := ?_) (a' := ?_) #[true, true, false, true, true, false, true, true, false, false, false, false, false, false, false] rfl rfl (any_of HT_.out (by kernel_rfl)) (fun _ _ _ h => h) (Or.inl ⟨by rfl, ?_⟩) ?_ ?_
             rotate_left
             ·intro w'
              go_simp
              with_reducible rfl
             rotate_left
             ·simp only [Act.put, sa_, s0_, s1_, i64_w, i32_w]
              rfl
             refine pure_ (i := 9) (N := some 83) (v := ?_) (a' := ?_) #[true, true, false, true, true, false, true, true, false, true, false, false, false, false, false] rfl rfl (any_of HT_.out (by kernel_rfl)) (fun _ _ _ h => h) (Or.inl ⟨by rfl, ?_⟩) ?_ ?_
             rotate_left
             ·intro w'
              go_simp
              with_reducible rfl
             rotate_left
             ·simp only [Act.put, sa_, s0_, s1_, i64_w, i32_w]
              rfl
             refine pure_ (i := 10) (N := some 84) (v := ?_) (a' := ?_) #[true, true, false, true, true, false, true, true, false, true, true, false, false, false, false] rfl rfl (any_of HT_.out (by kernel_rfl)) (fun _ _ _ h => h) (Or.inl ⟨by rfl, ?_⟩) ?_ ?_
             rotate_left
             ·intro w'
              go_simp
              with_reducible rfl
             rotate_left
             ·simp only [Act.put, sa_, s0_, s1_, i64_w, i32_w]
              rfl
             refine pure_ (i := 11) (N := some 85) (v := ?_) (a' := ?_) #[true, true, false, true, true, false, true, true, false, true, true, true, false, false, false] rfl rfl (any_of HT_.out (by kernel_rfl)) (fun _ _ _ h => h) (Or.inl ⟨by rfl, ?_⟩) ?_ ?_
             rotate_left
             ·intro w'
              go_simp
              with_reducible rfl
             rotate_left
             ·simp only [Act.put, sa_, s0_, s1_, i64_w, i32_w]
              rfl
             refine take_ (i := 2) (N := some 76) (v := ?_) (a' := ?_) #[true, true, true, true, true, false, true, true, false, true, true, true, false, false, false] rfl rfl (take_ofW HT_.out HW_.out (by kernel_rfl)) (fun _ _ _ h => h) (Or.inl ⟨by rfl, ?_⟩) hHeld ?_ ?_
             rotate_left
             ·rintro w' ⟨s0, s1⟩
              go_simp
              with_reducible rfl
             rotate_left
             ·simp only [Act.put, sa_, s0_, s1_, i64_w, i32_w]
              rfl
             refine take_ (i := 5) (N := some 79) (v := ?_) (a' := ?_) #[true, true, true, true, true, true, true, true, false, true, true, true, false, false, false] rfl rfl (take_ofW HT_.out HW_.out (by kernel_rfl)) (fun _ _ _ h => h) (Or.inl ⟨by rfl, ?_⟩) hHeld ?_ ?_
             rotate_left
             ·rintro w' ⟨s0, s1⟩
              go_simp
              with_reducible rfl
             rotate_left
             ·simp only [Act.put, sa_, s0_, s1_, i64_w, i32_w]
              rfl
             refine pl_ 8 82 ?_ 12 3 HT_ ?_ ?_ ?_ ?_
             rotate_left
             ·intro w'
              go_simp
              with_reducible rfl
             rotate_left
             ·simp only [Act.put, sa_, s0_, s1_, i64_w, i32_w]
              rfl
             refine one_ (i := 12) (N := none) (bv_ 13 2) rfl rfl (one_of HT_.out (by kernel_rfl)) (by decide) (fun K hK => ?_)
             have hs45 : w42.cell? ⟨gb167, 0, none⟩ = some (.string (⟨#[]⟩ : ByteArray)) := (blk_cell BK167.out 0).trans rfl
             have hfs45 := bf_ BK167 0
             have hs46 : w42.cell? ⟨gb167, 1, none⟩ = some (.string (⟨#[]⟩ : ByteArray)) := (blk_cell BK167.out 1).trans rfl
             have hfs46 := bf_ BK167 1
             have hs47 : w42.cell? ⟨gb167, 2, none⟩ = some (.slice none 0 0) := (blk_cell BK167.out 2).trans rfl
             have hfs47 := bf_ BK167 2
             have hs48 : w42.cell? ⟨gb167, 3, none⟩ = some (.slice none 0 0) := (blk_cell BK167.out 3).trans rfl
             have hfs48 := bf_ BK167 3
             refine skip_ (w1 := ?_) (by rfl) rfl ?_ ?_
             rotate_left
             ·go_simp
              rfl
             refine hK.out _ _ ⟨((cell_far (p := ⟨gb167, _, none⟩) (by first | exact Kd.own_blk (Kd.R_ne HO_6.out BK167.out (by decide)) | (rw [add_block]; exact Kd.own_blk (Kd.R_ne HO_6.out BK167.out (by decide))) | (show (Addr.add _ _).block ≠ _; rw [add_block]; exact Kd.own_blk (Kd.R_ne HO_6.out BK167.out (by decide))) | (dsimp only; exact Kd.own_blk (Kd.R_ne HO_6.out BK167.out (by decide)))) _).trans (((cell_far (p := ⟨gb167, _, none⟩) (by first | exact Kd.own_blk (Kd.R_ne HO_6.out BK167.out (by decide)) | (rw [add_block]; exact Kd.own_blk (Kd.R_ne HO_6.out BK167.out (by decide))) | (show (Addr.add _ _).block ≠ _; rw [add_block]; exact Kd.own_blk (Kd.R_ne HO_6.out BK167.out (by decide))) | (dsimp only; exact Kd.own_blk (Kd.R_ne HO_6.out BK167.out (by decide)))) _).trans (((cell_far (p := ⟨gb167, _, none⟩) (by first | exact Kd.own_blk (Kd.R_ne HO_6.out BK167.out (by decide)) | (rw [add_block]; exact Kd.own_blk (Kd.R_ne HO_6.out BK167.out (by decide))) | (show (Addr.add _ _).block ≠ _; rw [add_block]; exact Kd.own_blk (Kd.R_ne HO_6.out BK167.out (by decide))) | (dsimp only; exact Kd.own_blk (Kd.R_ne HO_6.out BK167.out (by decide)))) _).trans (((cell_far (p := ⟨gb167, _, none⟩) (by first | exact Kd.own_blk (Kd.R_ne HO_6.out BK167.out (by decide)) | (rw [add_block]; exact Kd.own_blk (Kd.R_ne HO_6.out BK167.out (by decide))) | (show (Addr.add _ _).block ≠ _; rw [add_block]; exact Kd.own_blk (Kd.R_ne HO_6.out BK167.out (by decide))) | (dsimp only; exact Kd.own_blk (Kd.R_ne HO_6.out BK167.out (by decide)))) _).trans (hHeld.1)))))))), ((cell_far (p := ⟨gb167, _, none⟩) (by first | exact Kd.own_blk (Kd.R_ne HO_6.out BK167.out (by decide)) | (rw [add_block]; exact Kd.own_blk (Kd.R_ne HO_6.out BK167.out (by decide))) | (show (Addr.add _ _).block ≠ _; rw [add_block]; exact Kd.own_blk (Kd.R_ne HO_6.out BK167.out (by decide))) | (dsimp only; exact Kd.own_blk (Kd.R_ne HO_6.out BK167.out (by decide)))) _).trans (((cell_far (p := ⟨gb167, _, none⟩) (by first | exact Kd.own_blk (Kd.R_ne HO_6.out BK167.out (by decide)) | (rw [add_block]; exact Kd.own_blk (Kd.R_ne HO_6.out BK167.out (by decide))) | (show (Addr.add _ _).block ≠ _; rw [add_block]; exact Kd.own_blk (Kd.R_ne HO_6.out BK167.out (by decide))) | (dsimp only; exact Kd.own_blk (Kd.R_ne HO_6.out BK167.out (by decide)))) _).trans (((cell_far (p := ⟨gb167, _, none⟩) (by first | exact Kd.own_blk (Kd.R_ne HO_6.out BK167.out (by decide)) | (rw [add_block]; exact Kd.own_blk (Kd.R_ne HO_6.out BK167.out (by decide))) | (show (Addr.add _ _).block ≠ _; rw [add_block]; exact Kd.own_blk (Kd.R_ne HO_6.out BK167.out (by decide))) | (dsimp only; exact Kd.own_blk (Kd.R_ne HO_6.out BK167.out (by decide)))) _).trans (((cell_far (p := ⟨gb167, _, none⟩) (by first | exact Kd.own_blk (Kd.R_ne HO_6.out BK167.out (by decide)) | (rw [add_block]; exact Kd.own_blk (Kd.R_ne HO_6.out BK167.out (by decide))) | (show (Addr.add _ _).block ≠ _; rw [add_block]; exact Kd.own_blk (Kd.R_ne HO_6.out BK167.out (by decide))) | (dsimp only; exact Kd.own_blk (Kd.R_ne HO_6.out BK167.out (by decide)))) _).trans (hHeld.2))))))))⟩ (fun hHeld => ?_)
             clear hK K
             iterate 2 refine p1_ HT_ ?_
             refine done_ (done_of HT_.out (by kernel_rfl)) ?_
             try go_wp2
             refine bodyPost_ret (results_ctt rfl _ _ gb167 26 #[.string (rdOf ByteArray.empty t171 0), .string (rdOf ByteArray.empty t171 1), .slice Ao40 t180.length co40, .slice Ao44 t186.length co44] (0, 0) _ rfl (by (with_reducible repeat (first | refine blk_drewN ?_ _ | refine blk_drew ?_ | refine blk_alloc ?_ _)); refine blk_put (cs := #[.string (rdOf ByteArray.empty t171 0), .string (rdOf ByteArray.empty t171 1), .slice Ao40 t180.length co40, .slice none 0 0]) ?_ 3 _ rfl; (with_reducible repeat (first | refine blk_drewN ?_ _ | refine blk_drew ?_ | refine blk_alloc ?_ _)); refine blk_put (cs := #[.string (rdOf ByteArray.empty t171 0), .string (rdOf ByteArray.empty t171 1), .slice none 0 0, .slice none 0 0]) ?_ 2 _ rfl; (with_reducible repeat (first | refine blk_drewN ?_ _ | refine blk_drew ?_ | refine blk_alloc ?_ _)); refine blk_put (cs := #[.string (rdOf ByteArray.empty t171 0), .string (⟨#[]⟩ : ByteArray), .slice none 0 0, .slice none 0 0]) ?_ 1 _ rfl; (with_reducible repeat (first | refine blk_drewN ?_ _ | refine blk_drew ?_ | refine blk_alloc ?_ _)); refine blk_put (cs := #[.string (⟨#[]⟩ : ByteArray), .string (⟨#[]⟩ : ByteArray), .slice none 0 0, .slice none 0 0]) ?_ 0 _ rfl; (with_reducible repeat (first | refine blk_drewN ?_ _ | refine blk_drew ?_ | refine blk_alloc ?_ _)); exact BK167.out) Tryz.underlying26 rfl (by kernel_rfl)) rfl ?_
             exact ⟨_, _, by first | rfl | (simp [errW_none, errW_some] <;> rfl) | (simp only [← hji30]; first | rfl | (simp [errW_none, errW_some] <;> rfl)) | (simp [*, errW_none, errW_some] <;> rfl) | (simp [errW_none, errW_some]; first | exact isEmpty_bne _ | exact isEmpty_beq _ | exact (isEmpty_bne _).symm), by (with_reducible repeat (first | apply Kd.R_alloc | apply Kd.R_drewN | apply Kd.R_drew)); exact Kd.R_mono (Kd.R_far (p := ⟨gb167, 3, none⟩) (Kd.R_far (p := ⟨gb167, 2, none⟩) (Kd.R_far (p := ⟨gb167, 1, none⟩) (Kd.R_far (p := ⟨gb167, 0, none⟩) (Kd.R_types HO184.out BK167.out (by decide)) (fun _ hk => hk.2) (.string (rdOf ByteArray.empty t171 0))) (fun _ hk => hk.2) (.string (rdOf ByteArray.empty t171 1))) (fun _ hk => hk.2) (.slice Ao40 t180.length co40)) (fun _ hk => hk.2) (.slice Ao44 t186.length co44)) (fun _ hk => trivial), by (with_reducible repeat (first | apply Kd.R_alloc | apply Kd.R_drewN | apply Kd.R_drew)); exact Kd.R_mono (Kd.R_far (p := ⟨gb167, 3, none⟩) (Kd.R_far (p := ⟨gb167, 2, none⟩) (Kd.R_far (p := ⟨gb167, 1, none⟩) (Kd.R_far (p := ⟨gb167, 0, none⟩) (Kd.R_types HO190.out BK167.out (by decide)) (fun _ hk => hk.2) (.string (rdOf ByteArray.empty t171 0))) (fun _ hk => hk.2) (.string (rdOf ByteArray.empty t171 1))) (fun _ hk => hk.2) (.slice Ao40 t180.length co40)) (fun _ hk => hk.2) (.slice Ao44 t186.length co44)) (fun _ hk => trivial), bg_⟩
            ·rw [if_neg c36] at H
             exact absurd H (by simp)
           ·rw [if_neg c35] at H
            exact absurd H (by simp)
          ·rw [if_neg c34] at H
           have c34b0 := beq_eq_false_iff_ne.mpr c34
           have c34b1 := bne_iff_ne.mpr c34
           simp only [Option.some.injEq, Prod.mk.injEq] at H
           obtain ⟨rfl, rfl, rfl, rfl, rfl, rfl⟩ := H
           obtain ⟨i049, hi049, _, hsz49, _⟩ := info_parts info5
           obtain ⟨A49, hcut49, hA49, hC49⟩ := print_drop_of (P := Tryz.prog) (Value.int .u8) 0 22 5 .i64 Tryz.underlying22 hi049 hsz49 A0 c0 l0 t169 (of_decide_eq_true as_) (of_decide_eq_true as_) HC0.out
           have HR179 := Aside0.mk (Kd.C_of_reads (h1 := fun _ => rfl) (hA49 _ (Kd.reads_of_C HR0.out)))
           have HC179 := Aside0.mk hC49
           clear hA49 hC49 hi049 hsz49
           go_wp2_with (first | ((with_reducible refine gate_callee (f := 27) rfl ?_); refine goesL_ (some 50) rfl rfl Tryz.func27 (by kernel_rfl) rfl #[.slice A49 (l0.drop (t169 : Int).toNat).length (c0 - t169.toNat)] rfl (by (try simp only [List.map_toArray, List.map_cons, List.map_nil]); first | done | (rw [show (l0.drop (t169 : Int).toNat).length = (l0.length - t169.toNat) from List.length_drop] <;> rfl) | rfl | (simp only [List.length_drop, List.length_take]; rfl)) ?_; (with_reducible refine (header_Parse.calls kj4 _ _ (l0.drop (t169 : Int).toNat) t180 t181 t182 _ ?side3 ?side1 ?side2 A28.out).mono ?_); (case side1 => repeat (first | exact (Kd.C_below HR179.out HB.out) | (with_reducible refine Kd.C_alloc ?_ _) | (with_reducible refine Kd.C_drewN ?_ _) | (with_reducible refine Kd.C_drew ?_))); (case side2 => exact HC179.out); (case side3 => exact lg_); rintro e w50 ⟨v183, rfl, ho0, hb⟩; refine ⟨_, rfl, ?_⟩; replace HO_6 := Aside0.mk (Kd.R_below (by (with_reducible repeat (first | apply Kd.R_alloc | apply Kd.R_drewN | apply Kd.R_drew)); exact HO_6.out) hb); have HO184 := Aside0.mk (Kd.R_lower ho0 (below_size bg_)); replace BK167 := Aside0.mk (blk_below (g := gb167) (o := .cells #[.string (⟨#[]⟩ : ByteArray), .string (⟨#[]⟩ : ByteArray), .slice none 0 0, .slice none 0 0] 26 (0, 0)) bk_ hb); replace HB := Aside0.mk (below_step bg_ hb); obtain ⟨i051, hi051, _, hsz51, _⟩ := info_parts info5; obtain ⟨A51, hcut51, hA51, hC51⟩ := print_drop_of (P := Tryz.prog) (Value.int .u8) 0 22 5 .i64 Tryz.underlying22 hi051 hsz51 A0 c0 l0 (ji30) (of_decide_eq_true as_) (of_decide_eq_true as_) HC0.out; have HR185 := Aside0.mk (Kd.C_of_reads (h1 := fun _ => rfl) (hA51 _ (Kd.reads_of_C HR0.out))); have HC185 := Aside0.mk hC51; clear hA51 hC51 hi051 hsz51; obtain ⟨Ao52, co52, eo52⟩ := Kd.R_slice HO184.out; subst eo52) | ((with_reducible refine gate_callee (f := 28) rfl ?_); refine goesL_ (some 66) rfl rfl Tryz.func28 (by kernel_rfl) rfl #[.slice A51 (l0.drop ((ji30) : Int).toNat).length (c0 - (ji30).toNat), .slice Ao52 t180.length co52, .bool false] rfl (by (try simp only [List.map_toArray, List.map_cons, List.map_nil]); first | done | (rw [show (l0.drop ((ji30) : Int).toNat).length = (l0.length - (ji30).toNat) from List.length_drop] <;> rfl) | (simp only [hji30]; rfl) | rfl | (simp only [List.length_drop, List.length_take]; rfl)) ?_; (with_reducible refine (http_body.calls kj4 _ _ (l0.drop ((ji30) : Int).toNat) _ _ t180 false t186 t187 t188 _ ?side5 ?side1 ?side2 ?side3 ?side4 A33.out).mono ?_); (case side1 => repeat (first | exact (Kd.C_below HR185.out HB.out) | (with_reducible refine Kd.C_alloc ?_ _) | (with_reducible refine Kd.C_drewN ?_ _) | (with_reducible refine Kd.C_drew ?_))); (case side2 => exact HC185.out); (case side3 => repeat (first | exact (Kd.R_reads' HO184.out).2.2 | (with_reducible refine Kd.C_alloc ?_ _) | (with_reducible refine Kd.C_drewN ?_ _) | (with_reducible refine Kd.C_drew ?_))); (case side4 => exact (Kd.R_reads' HO184.out).2.1); (case side5 => exact lg_); rintro e w53 ⟨v189, rfl, ho0, hb⟩; refine ⟨_, rfl, ?_⟩; replace HO_6 := Aside0.mk (Kd.R_below (by (with_reducible repeat (first | apply Kd.R_alloc | apply Kd.R_drewN | apply Kd.R_drew)); exact HO_6.out) hb); replace HO184 := Aside0.mk (Kd.R_below (by (with_reducible repeat (first | apply Kd.R_alloc | apply Kd.R_drewN | apply Kd.R_drew)); exact HO184.out) hb); have HO190 := Aside0.mk (Kd.R_lower ho0 (below_size bg_)); replace BK167 := Aside0.mk (blk_below (g := gb167) (o := .cells #[.string (⟨#[]⟩ : ByteArray), .string (⟨#[]⟩ : ByteArray), .slice none 0 0, .slice none 0 0] 26 (0, 0)) bk_ hb); replace HB := Aside0.mk (below_step bg_ hb); have hcz54_0 := cz_ BK167 0 (.string (⟨#[]⟩ : ByteArray)); have hcz54_1 := cz_ BK167 1 (.string (⟨#[]⟩ : ByteArray)); have hcz54_2 := cz_ BK167 2 (.slice none 0 0); have hcz54_3 := cz_ BK167 3 (.slice none 0 0); have hfz54_0 := bf_ BK167 0; have hfz54_1 := bf_ BK167 1; have hfz54_2 := bf_ BK167 2; have hfz54_3 := bf_ BK167 3))
           refine bodyPost_ret (results_ctt rfl _ _ gb167 26 #[.string (⟨#[]⟩ : ByteArray), .string (⟨#[]⟩ : ByteArray), .slice none 0 0, .slice none 0 0] (0, 0) _ rfl (by (with_reducible repeat (first | refine blk_drewN ?_ _ | refine blk_drew ?_ | refine blk_alloc ?_ _)); refine blk_put (cs := #[.string (⟨#[]⟩ : ByteArray), .string (⟨#[]⟩ : ByteArray), .slice none 0 0, .slice none 0 0]) ?_ 3 _ rfl; (with_reducible repeat (first | refine blk_drewN ?_ _ | refine blk_drew ?_ | refine blk_alloc ?_ _)); refine blk_put (cs := #[.string (⟨#[]⟩ : ByteArray), .string (⟨#[]⟩ : ByteArray), .slice none 0 0, .slice none 0 0]) ?_ 2 _ rfl; (with_reducible repeat (first | refine blk_drewN ?_ _ | refine blk_drew ?_ | refine blk_alloc ?_ _)); refine blk_put (cs := #[.string (⟨#[]⟩ : ByteArray), .string (⟨#[]⟩ : ByteArray), .slice none 0 0, .slice none 0 0]) ?_ 1 _ rfl; (with_reducible repeat (first | refine blk_drewN ?_ _ | refine blk_drew ?_ | refine blk_alloc ?_ _)); refine blk_put (cs := #[.string (⟨#[]⟩ : ByteArray), .string (⟨#[]⟩ : ByteArray), .slice none 0 0, .slice none 0 0]) ?_ 0 _ rfl; (with_reducible repeat (first | refine blk_drewN ?_ _ | refine blk_drew ?_ | refine blk_alloc ?_ _)); exact BK167.out) Tryz.underlying26 rfl (by kernel_rfl)) rfl ?_
           exact ⟨_, _, by first | rfl | (simp [errW_none, errW_some] <;> rfl) | (simp only [← hji30]; first | rfl | (simp [errW_none, errW_some] <;> rfl)) | (simp [*, errW_none, errW_some] <;> rfl) | (simp [errW_none, errW_some]; first | exact isEmpty_bne _ | exact isEmpty_beq _ | exact (isEmpty_bne _).symm), by first | exact Kd.R_nil _ _ _ _ _ | exact Kd.N_nil _ _ _ _ _ | exact Kd.V_nil _ _ _ _ _ | exact Kd.Q_nil _ _ _ _ _ | exact Kd.S_nil _ _ _ _ _, by first | exact Kd.R_nil _ _ _ _ _ | exact Kd.N_nil _ _ _ _ _ | exact Kd.V_nil _ _ _ _ _ | exact Kd.Q_nil _ _ _ _ _ | exact Kd.S_nil _ _ _ _ _, bg_⟩
         ·rw [if_neg c32] at H
          exact absurd H (by simp)
        ·rw [if_neg c31] at H
         exact absurd H (by simp)
       ·rw [if_neg c29] at H
        have c29b0 := beq_eq_false_iff_ne.mpr c29
        have c29b1 := bne_iff_ne.mpr c29
        simp only [Option.some.injEq, Prod.mk.injEq] at H
        obtain ⟨rfl, rfl, rfl, rfl, rfl, rfl⟩ := H
        obtain ⟨i055, hi055, _, hsz55, _⟩ := info_parts info5
        obtain ⟨A55, hcut55, hA55, hC55⟩ := print_drop_of (P := Tryz.prog) (Value.int .u8) 0 22 5 .i64 Tryz.underlying22 hi055 hsz55 A0 c0 l0 t169 (of_decide_eq_true as_) (of_decide_eq_true as_) HC0.out
        have HR179 := Aside0.mk (Kd.C_of_reads (h1 := fun _ => rfl) (hA55 _ (Kd.reads_of_C HR0.out)))
        have HC179 := Aside0.mk hC55
        clear hA55 hC55 hi055 hsz55
        go_wp2_with (first | ((with_reducible refine gate_callee (f := 27) rfl ?_); refine goesL_ (some 50) rfl rfl Tryz.func27 (by kernel_rfl) rfl #[.slice A55 (l0.drop (t169 : Int).toNat).length (c0 - t169.toNat)] rfl (by (try simp only [List.map_toArray, List.map_cons, List.map_nil]); first | done | (rw [show (l0.drop (t169 : Int).toNat).length = (l0.length - t169.toNat) from List.length_drop] <;> rfl) | rfl | (simp only [List.length_drop, List.length_take]; rfl)) ?_; (with_reducible refine (header_Parse.calls kj4 _ _ (l0.drop (t169 : Int).toNat) t180 t181 t182 _ ?side3 ?side1 ?side2 A28.out).mono ?_); (case side1 => repeat (first | exact (Kd.C_below HR179.out HB.out) | (with_reducible refine Kd.C_alloc ?_ _) | (with_reducible refine Kd.C_drewN ?_ _) | (with_reducible refine Kd.C_drew ?_))); (case side2 => exact HC179.out); (case side3 => exact lg_); rintro e w56 ⟨v183, rfl, ho0, hb⟩; refine ⟨_, rfl, ?_⟩; replace HO_6 := Aside0.mk (Kd.R_below (by (with_reducible repeat (first | apply Kd.R_alloc | apply Kd.R_drewN | apply Kd.R_drew)); exact HO_6.out) hb); have HO184 := Aside0.mk (Kd.R_lower ho0 (below_size bg_)); replace BK167 := Aside0.mk (blk_below (g := gb167) (o := .cells #[.string (⟨#[]⟩ : ByteArray), .string (⟨#[]⟩ : ByteArray), .slice none 0 0, .slice none 0 0] 26 (0, 0)) bk_ hb); replace HB := Aside0.mk (below_step bg_ hb); have hcz57_0 := cz_ BK167 0 (.string (⟨#[]⟩ : ByteArray)); have hcz57_1 := cz_ BK167 1 (.string (⟨#[]⟩ : ByteArray)); have hcz57_2 := cz_ BK167 2 (.slice none 0 0); have hcz57_3 := cz_ BK167 3 (.slice none 0 0); have hfz57_0 := bf_ BK167 0; have hfz57_1 := bf_ BK167 1; have hfz57_2 := bf_ BK167 2; have hfz57_3 := bf_ BK167 3))
        refine bodyPost_ret (results_ctt rfl _ _ gb167 26 #[.string (⟨#[]⟩ : ByteArray), .string (⟨#[]⟩ : ByteArray), .slice none 0 0, .slice none 0 0] (0, 0) _ rfl (by (with_reducible repeat (first | refine blk_drewN ?_ _ | refine blk_drew ?_ | refine blk_alloc ?_ _)); refine blk_put (cs := #[.string (⟨#[]⟩ : ByteArray), .string (⟨#[]⟩ : ByteArray), .slice none 0 0, .slice none 0 0]) ?_ 3 _ rfl; (with_reducible repeat (first | refine blk_drewN ?_ _ | refine blk_drew ?_ | refine blk_alloc ?_ _)); refine blk_put (cs := #[.string (⟨#[]⟩ : ByteArray), .string (⟨#[]⟩ : ByteArray), .slice none 0 0, .slice none 0 0]) ?_ 2 _ rfl; (with_reducible repeat (first | refine blk_drewN ?_ _ | refine blk_drew ?_ | refine blk_alloc ?_ _)); refine blk_put (cs := #[.string (⟨#[]⟩ : ByteArray), .string (⟨#[]⟩ : ByteArray), .slice none 0 0, .slice none 0 0]) ?_ 1 _ rfl; (with_reducible repeat (first | refine blk_drewN ?_ _ | refine blk_drew ?_ | refine blk_alloc ?_ _)); refine blk_put (cs := #[.string (⟨#[]⟩ : ByteArray), .string (⟨#[]⟩ : ByteArray), .slice none 0 0, .slice none 0 0]) ?_ 0 _ rfl; (with_reducible repeat (first | refine blk_drewN ?_ _ | refine blk_drew ?_ | refine blk_alloc ?_ _)); exact BK167.out) Tryz.underlying26 rfl (by kernel_rfl)) rfl ?_
        exact ⟨_, _, rq_, by first | exact Kd.R_nil _ _ _ _ _ | exact Kd.N_nil _ _ _ _ _ | exact Kd.V_nil _ _ _ _ _ | exact Kd.Q_nil _ _ _ _ _ | exact Kd.S_nil _ _ _ _ _, by first | exact Kd.R_nil _ _ _ _ _ | exact Kd.N_nil _ _ _ _ _ | exact Kd.V_nil _ _ _ _ _ | exact Kd.Q_nil _ _ _ _ _ | exact Kd.S_nil _ _ _ _ _, bg_⟩
      ·rw [if_neg c27] at H
       exact absurd H (by simp)
     ·rw [if_neg c26] at H
      exact absurd H (by simp)
 ·rw [if_neg c3] at H
  have c3b0 := beq_eq_false_iff_ne.mpr c3
  have c3b1 := bne_iff_ne.mpr c3
  simp only [Option.some.injEq, Prod.mk.injEq] at H
  obtain ⟨rfl, rfl, rfl, rfl, rfl, rfl⟩ := H
  go_enter Tryz.func7, Tryz.ntmps7
  go_wp2_with (first | ((with_reducible refine gate_dst (N := 2) rfl ?_); refine bx_ 2 #[.string (⟨#[]⟩ : ByteArray), .string (⟨#[]⟩ : ByteArray), .slice none 0 0, .slice none 0 0] 26 ?_; intro gb167 hg w58 hbox hb; have BK167 := Aside0.mk (hbox); have GW167 := Aside0.mk (ge_ (w := w) hg); have GE167 := Aside0.mk (ge_ (w := w) hg); replace HB := Aside0.mk (below_step bq_ hb); clear hb hbox hg) | ((with_reducible refine gate_callee (f := 23) rfl ?_); refine goesL_ (some 12) rfl rfl Tryz.func23 (by kernel_rfl) rfl #[.slice A0 l0.length c0] rfl lq_ ?_; (with_reducible refine (http_first.calls k _ _ l0 t168 t169 t170 _ ?side3 ?side1 ?side2 A2.out).mono ?_); (case side1 => repeat (first | exact (Kd.C_below HR0.out HB.out) | (with_reducible refine Kd.C_alloc ?_ _) | (with_reducible refine Kd.C_drewN ?_ _) | (with_reducible refine Kd.C_drew ?_))); (case side2 => exact HC0.out); (case side3 => exact lg_); rintro e w59 ⟨rfl, hb⟩; refine ⟨_, rfl, ?_⟩; replace BK167 := Aside0.mk (blk_below (g := gb167) (o := .cells #[.string (⟨#[]⟩ : ByteArray), .string (⟨#[]⟩ : ByteArray), .slice none 0 0, .slice none 0 0] 26 (0, 0)) bk_ hb); replace HB := Aside0.mk (below_step bg_ hb); have hcz60_0 := cz_ BK167 0 (.string (⟨#[]⟩ : ByteArray)); have hcz60_1 := cz_ BK167 1 (.string (⟨#[]⟩ : ByteArray)); have hcz60_2 := cz_ BK167 2 (.slice none 0 0); have hcz60_3 := cz_ BK167 3 (.slice none 0 0); have hfz60_0 := bf_ BK167 0; have hfz60_1 := bf_ BK167 1; have hfz60_2 := bf_ BK167 2; have hfz60_3 := bf_ BK167 3))
  refine bodyPost_ret (results_ctt rfl _ _ gb167 26 #[.string (⟨#[]⟩ : ByteArray), .string (⟨#[]⟩ : ByteArray), .slice none 0 0, .slice none 0 0] (0, 0) _ rfl (by (with_reducible repeat (first | refine blk_drewN ?_ _ | refine blk_drew ?_ | refine blk_alloc ?_ _)); refine blk_put (cs := #[.string (⟨#[]⟩ : ByteArray), .string (⟨#[]⟩ : ByteArray), .slice none 0 0, .slice none 0 0]) ?_ 3 _ rfl; (with_reducible repeat (first | refine blk_drewN ?_ _ | refine blk_drew ?_ | refine blk_alloc ?_ _)); refine blk_put (cs := #[.string (⟨#[]⟩ : ByteArray), .string (⟨#[]⟩ : ByteArray), .slice none 0 0, .slice none 0 0]) ?_ 2 _ rfl; (with_reducible repeat (first | refine blk_drewN ?_ _ | refine blk_drew ?_ | refine blk_alloc ?_ _)); refine blk_put (cs := #[.string (⟨#[]⟩ : ByteArray), .string (⟨#[]⟩ : ByteArray), .slice none 0 0, .slice none 0 0]) ?_ 1 _ rfl; (with_reducible repeat (first | refine blk_drewN ?_ _ | refine blk_drew ?_ | refine blk_alloc ?_ _)); refine blk_put (cs := #[.string (⟨#[]⟩ : ByteArray), .string (⟨#[]⟩ : ByteArray), .slice none 0 0, .slice none 0 0]) ?_ 0 _ rfl; (with_reducible repeat (first | refine blk_drewN ?_ _ | refine blk_drew ?_ | refine blk_alloc ?_ _)); exact BK167.out) Tryz.underlying26 rfl (by kernel_rfl)) rfl ?_
  exact ⟨_, _, rq_, by first | exact Kd.R_nil _ _ _ _ _ | exact Kd.N_nil _ _ _ _ _ | exact Kd.V_nil _ _ _ _ _ | exact Kd.Q_nil _ _ _ _ _ | exact Kd.S_nil _ _ _ _ _, by first | exact Kd.R_nil _ _ _ _ _ | exact Kd.N_nil _ _ _ _ _ | exact Kd.V_nil _ _ _ _ _ | exact Kd.Q_nil _ _ _ _ _ | exact Kd.S_nil _ _ _ _ _, bg_⟩

-- NOT PRINTED: function 6 (lanternlaw11_awake)

mutual
def lanternref11_line.l0 : Nat → List Int → Int → Option (ByteArray × Int × Int)
 | 0, _, _ => none
 | k + 1, x0, x5 => if x5 < (x0.length : Int) then (lanternref11_line.j1 k x0 x5 (decide (x5 < 4096))) else (lanternref11_line.j1 k x0 x5 false)
def lanternref11_line.j1 : Nat → List Int → Int → Bool → Option (ByteArray × Int × Int)
 | 0, _, _, _ => none
 | k + 1, x0, x5, x14 => if x14 = true then (if 0 ≤ x5 then (if x5 < (x0.length : Int) then (if (rd x0 x5) = 10 then (if x5 > 0 then (if 0 ≤ (wrap64 (x5 - 1)) then (if (wrap64 (x5 - 1)) < (x0.length : Int) then (if (rd x0 (wrap64 (x5 - 1))) = 13 then (if (wrap64 (x5 - 1)) ≤ (x0.length : Int) then (some (strOfNums (x0.take ((wrap64 (x5 - 1)) : Int).toNat), wrap64 (x5 + 1), 0)) else (none)) else (if x5 ≤ (x0.length : Int) then (some (strOfNums (x0.take (x5 : Int).toNat), wrap64 (x5 + 1), 0)) else (none))) else (none)) else (none)) else (if x5 ≤ (x0.length : Int) then (some (strOfNums (x0.take (x5 : Int).toNat), wrap64 (x5 + 1), 0)) else (none))) else (lanternref11_line.l0 k x0 (wrap64 (x5 + 1)))) else (none)) else (none)) else (if (x0.length : Int) > 4096 then (some ((⟨#[]⟩ : ByteArray), 0, 3)) else (some ((⟨#[]⟩ : ByteArray), 0, 10)))
end
def lanternref11_line.f (k : Nat) (l0 : List Int) : Option (ByteArray × Int × Int) := lanternref11_line.l0 k l0 0
theorem lanternref11_line.mono_l : ∀ k, (∀ y0 y1, LeO (lanternref11_line.l0 k y0 y1) (lanternref11_line.l0 (k + 1) y0 y1)) ∧ (∀ y0 y1 y2, LeO (lanternref11_line.j1 k y0 y1 y2) (lanternref11_line.j1 (k + 1) y0 y1 y2))
 | 0 => ⟨fun _ _ r h => by simp [lanternref11_line.l0] at h, fun _ _ _ r h => by simp [lanternref11_line.j1] at h⟩
 | k + 1 => by
  obtain ⟨ih0, ih1⟩ := lanternref11_line.mono_l k
  refine ⟨?_, ?_⟩
  ·intro y0 y1
   unfold lanternref11_line.l0
   repeat' first | (with_reducible first | exact ih0 _ _ | exact ih1 _ _ _ | exact LeO.refl _ | exact LeO.none _ | refine LeO.ite ?_ ?_ | refine LeO.bind ?_ (fun _ => ?_))
  ·intro y0 y1 y2
   unfold lanternref11_line.j1
   repeat' first | (with_reducible first | exact ih0 _ _ | exact ih1 _ _ _ | exact LeO.refl _ | exact LeO.none _ | refine LeO.ite ?_ ?_ | refine LeO.bind ?_ (fun _ => ?_))
theorem lanternref11_line.mono : ∀ a0 k, LeO (lanternref11_line.f k a0) (lanternref11_line.f (k + 1) a0) := by
 intro a0 k
 obtain ⟨ih0, ih1⟩ := lanternref11_line.mono_l k
 unfold lanternref11_line.f
 repeat' first | (with_reducible first | exact ih0 _ _ | exact ih1 _ _ _ | exact LeO.refl _ | exact LeO.none _ | refine LeO.ite ?_ ?_ | refine LeO.bind ?_ (fun _ => ?_))
end Go.Proofs.YtipleegkonhfcaaGreatDoor.P
