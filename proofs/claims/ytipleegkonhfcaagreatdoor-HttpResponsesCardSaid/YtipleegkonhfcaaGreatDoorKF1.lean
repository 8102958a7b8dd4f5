/- slices.Compact at []string, of a row of the caller's own: it writes the row, its first cell stays. -/
import Derived.Test.YtipleegkonhfcaaGreatDoorU1
set_option linter.unusedVariables false
set_option linter.unusedSimpArgs false
namespace Go.Proofs.YtipleegkonhfcaaGreatDoor.E
open Go Go.RowKit Go.Shelf Go.Lib Go.Proofs.YtipleegkonhfcaaGreatDoorW.PrintWords Go.Proofs.YtipleegkonhfcaaGreatDoorW.PrintLast Go.Proofs.YtipleegkonhfcaaGreatDoorW.PrintMore Go.Proofs.YtipleegkonhfcaaGreatDoor.U
theorem strsOf_rd (s : List ByteArray) : Lib.strsOf (fun i => rdOf ByteArray.empty s (i : Int)) s.length = s.map (·.data.toList) := by
  apply List.ext_getElem
  · simp [Lib.strsOf]
  · intro i h1 h2
    simp only [Lib.strsOf, List.getElem_map, List.getElem_range]
    unfold rdOf
    rw [Int.toNat_natCast, List.getD_eq_getElem?_getD, List.getElem?_eq_getElem (by simpa using h2), Option.getD_some]
theorem below_setCells {w w1 : World} {base g : Nat} (hb : Below base w w1) (hg : base ≤ g) (vs : List Value) (o : Nat) : Below base w (w1.setCells g o vs) := by
  obtain ⟨q1, q2, q3, q4⟩ := setCells_same g vs o w1
  exact ⟨q1.trans hb.os, q2.trans hb.tape, q3.trans hb.output, by have := hb.size; rw [q4]; exact this, fun k hk => (setCells_far vs o k (by omega)).trans (hb.block k hk)⟩
theorem compact_head {α : Type} [Inhabited α] [DecidableEq α] (d : Array α) : ∀ m, ∃ t, Lib.compactUpTo d (m + 1) = d[0]! :: t
  | 0 => ⟨[], by rw [Lib.compactUpTo_succ, Lib.keeps_lt_one d 0 (by omega)]; rfl⟩
  | m + 1 => by
    obtain ⟨t, ht⟩ := compact_head d m
    exact ⟨t ++ (if Lib.keeps d (m + 1) then [d[m + 1]!] else []), by rw [Lib.compactUpTo_succ, ht]; rfl⟩
theorem own_cells {w2 : World} {base c2 : Nat} {A2 : Option Addr} {s : List ByteArray} {ok : Nat → Prop} (h : Kd.R Kd.string 9 w2 base ok (.slice A2 s.length c2) s) (hp : 0 < s.length) :
    ∃ g, A2 = some ⟨g, 0, none⟩ ∧ base ≤ g ∧ s.length ≤ c2 ∧ (∀ i, i < s.length → w2.cell? ⟨g, 0 + i, none⟩ = some (.string (rdOf ByteArray.empty s (i : Int)))) ∧ (∀ i, i < s.length → w2.frozen? ⟨g, 0 + i, none⟩ = false) := by
  have ho := Kd.own_of_R (enc := Value.string) h
  obtain ⟨_, ⟨_, hn⟩ | ⟨g, cap, cur, hv, hg, _, hc, _⟩⟩ := ho
  · omega
  · injection hv with e1 _ e3
    subst e1 e3
    refine ⟨g, rfl, hg, hc, fun i hi => ?_, fun i hi => ?_⟩
    · have := (Kd.R_celln (enc := Value.string) ByteArray.empty h (i : Int) (by omega) (by omega)).1
      rw [Int.toNat_natCast] at this
      rw [Nat.zero_add]
      exact this
    · have := (Kd.R_celln (enc := Value.string) ByteArray.empty h (i : Int) (by omega) (by omega)).2
      rw [Int.toNat_natCast] at this
      rw [Nat.zero_add]
      exact this
theorem own_slice {w2 : World} {base : Nat} {v : Value} {s : List ByteArray} {ok : Nat → Prop} (h : Kd.R Kd.string 9 w2 base ok v s) (hp : 0 < s.length) :
    ∃ g c2, v = .slice (some ⟨g, 0, none⟩) s.length c2 ∧ base ≤ g ∧ s.length ≤ c2 ∧ (∀ i, i < s.length → w2.cell? ⟨g, 0 + i, none⟩ = some (.string (rdOf ByteArray.empty s (i : Int)))) ∧ (∀ i, i < s.length → w2.frozen? ⟨g, 0 + i, none⟩ = false) := by
  obtain ⟨A2, c2, e⟩ := Kd.R_slice h
  subst e
  obtain ⟨g, e, h1, h2, h3, h4⟩ := own_cells h hp
  subst e
  exact ⟨g, c2, rfl, h1, h2, h3, h4⟩
theorem compact_call (g c2 M : Nat) (s : List ByteArray) (hM : (Lib.compact (s.map (·.data.toList))).length = M) (w w2 : World) (base : Nat) (hb : Below base w w2) (hg : base ≤ g) (hp : 0 < s.length) (hcap : s.length ≤ c2) (hlen : s.length ≤ 9223372036854775807)
    (hcell : ∀ i, i < s.length → w2.cell? ⟨g, 0 + i, none⟩ = some (.string (rdOf ByteArray.empty s (i : Int)))) (hfr : ∀ i, i < s.length → w2.frozen? ⟨g, 0 + i, none⟩ = false) :
    Calls Tryz.prog 86 #[.slice (some ⟨g, 0, none⟩) s.length c2] w2 fun e w3 => e = .returned (.slice (some ⟨g, 0, none⟩) M c2) ∧ w3.cell? ⟨g, 0, none⟩ = some (.string (s.getD 0 ByteArray.empty)) ∧ Below base w w3 := by
  subst hM
  refine (Tryz.slices_Compact_string_cells g 0 s.length c2 (fun i => rdOf ByteArray.empty s (i : Int)) w2 hlen hcap hcell hfr).mono ?_
  rw [strsOf_rd]
  rintro e w3 ⟨rfl, q, rfl⟩
  refine ⟨rfl, ?_, below_setCells (pw_below_drewN hb q) hg _ _⟩
  have hz : (s.map (·.data.toList)).length = s.length := List.length_map _
  obtain ⟨x, r, rfl⟩ : ∃ x r, s = x :: r := by
    cases s with
    | nil => simp at hp
    | cons x r => exact ⟨x, r, rfl⟩
  obtain ⟨t, ht⟩ := compact_head (((x :: r).map (·.data.toList)).toArray) r.length
  have hc : Lib.compact ((x :: r).map (·.data.toList)) = x.data.toList :: t := by
    unfold Lib.compact
    rw [hz]
    exact ht
  have hlt : (Lib.compact ((x :: r).map (·.data.toList))).length ≤ (x :: r).length := by
    have : ((List.range ((x :: r).map (·.data.toList)).length).filter (Lib.keeps ((x :: r).map (·.data.toList)).toArray)).length ≤ (List.range ((x :: r).map (·.data.toList)).length).length := List.length_filter_le _ _
    rw [List.length_range, List.length_map] at this
    unfold Lib.compact Lib.compactUpTo
    rw [List.length_map, List.length_map]
    exact this
  rw [hc] at hlt ⊢
  have hin := World.cell?_setCells_in g (((x.data.toList :: t) ++ List.replicate ((x :: r).length - (x.data.toList :: t).length) []).map (fun l : List UInt8 => Value.string ⟨l.toArray⟩)) 0 (w2.drewN q) (fun j hj => by
    have hj' : j < (x :: r).length := by
      rw [List.length_map, List.length_append, List.length_replicate] at hj
      omega
    have := hcell j hj'
    show ((w2.drewN q).cell? _).isSome = true
    rw [show (w2.drewN q).cell? ⟨g, 0 + j, none⟩ = w2.cell? ⟨g, 0 + j, none⟩ from rfl, this]
    rfl) 0 (by simp)
  rw [Nat.add_zero] at hin
  rw [hin]
  rfl
/-- What slices.Compact answers of texts (only its length is looked at). -/
def slices_Compact_string_string.f (s : List ByteArray) : Option (List ByteArray) :=
  if s.length ≤ 9223372036854775807 then some ((Lib.compact (s.map (·.data.toList))).map fun l => ⟨l.toArray⟩) else none
theorem compact_calls {g c2 : Nat} {s t : List ByteArray} {w w2 : World} {base : Nat} {ok : Nat → Prop} (hR : Kd.R Kd.string 9 w2 base ok (.slice (some ⟨g, 0, none⟩) s.length c2) s) (hb : Below base w w2) (hp : 0 < s.length) (hf : slices_Compact_string_string.f s = some t) :
    Calls Tryz.prog 86 #[.slice (some ⟨g, 0, none⟩) s.length c2] w2 fun e w3 => e = .returned (.slice (some ⟨g, 0, none⟩) t.length c2) ∧ w3.cell? ⟨g, 0, none⟩ = some (.string (rdOf ByteArray.empty s 0)) ∧ Below base w w3 := by
  unfold slices_Compact_string_string.f at hf
  by_cases hl : s.length ≤ 9223372036854775807
  · rw [if_pos hl] at hf
    injection hf with hf
    obtain ⟨g', e, h1, h2, h3, h4⟩ := own_cells hR hp
    injection e with e
    injection e with e
    subst e
    refine (compact_call g c2 t.length s (by rw [← hf, List.length_map]) w w2 base hb h1 hp h2 hl h3 h4).mono ?_
    rintro e w3 ⟨q1, q2, q3⟩
    refine ⟨q1, ?_, q3⟩
    rw [q2]
    rfl
  · rw [if_neg hl] at hf
    cases hf
end Go.Proofs.YtipleegkonhfcaaGreatDoor.E
namespace Go.Proofs.YtipleegkonhfcaaGreatDoor.KF
open Go.Proofs.YtipleegkonhfcaaGreatDoor.E Go.Proofs.YtipleegkonhfcaaGreatDoorV
open Go.Proofs.YtipleegkonhfcaaGreatDoor.U
open Go.RowKit Go.Proofs.YtipleegkonhfcaaGreatDoorW.PrintWords Go.Proofs.YtipleegkonhfcaaGreatDoorW.PrintLast Go.Proofs.YtipleegkonhfcaaGreatDoorW.PrintMore
attribute [local go_sem] max2_int min2_int max_two min_two max_three min_three max_four min_four   -- for this text's walks alone
set_option linter.unusedVariables false
set_option linter.unusedSimpArgs false

def errW : Option Int → Value
 | none => .nilIface
 | some c => .iface 0 (.int .i64 c)
theorem errW_none : errW none = .nilIface := rfl
theorem errW_some (c : Int) : errW (some c) = .iface 0 (.int .i64 c) := rfl

end Go.Proofs.YtipleegkonhfcaaGreatDoor.KF
namespace Go.Proofs.YtipleegkonhfcaaGreatDoor.KF
open Go.Proofs.YtipleegkonhfcaaGreatDoorZ
open Go.Proofs.YtipleegkonhfcaaGreatDoor.E Go.Proofs.YtipleegkonhfcaaGreatDoorV
open Go.Proofs.YtipleegkonhfcaaGreatDoor.U
open Go.RowKit Go.Proofs.YtipleegkonhfcaaGreatDoorW.PrintWords Go.Proofs.YtipleegkonhfcaaGreatDoorW.PrintLast Go.Proofs.YtipleegkonhfcaaGreatDoorW.PrintMore
attribute [local go_sem] max2_int min2_int max_two min_two max_three min_three max_four min_four   -- for this text's walks alone
set_option linter.unusedVariables false
set_option linter.unusedSimpArgs false

def http_kind.j0 : Nat → List ByteArray → List ByteArray → Bool → Option (Int × Int)
 | 0, _, _, _ => none
 | k + 1, x4, x5, x10 => if x10 = true then (some (2, 0)) else (if (x4.length : Int) > 0 then (some (3, 0)) else (if (x5.length : Int) = 0 then (some (0, 0)) else ((slices_Compact_string_string.f x5).bind fun t109 => (if (t109.length : Int) = 1 then (if 0 < (x5.length : Int) then (if (rdOf ByteArray.empty x5 0).toList = ([] : List UInt8) then (some (3, 0)) else (if ((rdOf ByteArray.empty x5 0).size : Int) > 8 then (some (3, 0)) else ((http_within.f k (rdOf ByteArray.empty x5 0) 48 57).bind fun t115 => (if t115 = true then ((strconv_Atoi.f (rdOf ByteArray.empty x5 0)).bind fun bt117 => (some (1, bt117.1))) else (some (3, 0)))))) else (none)) else (some (3, 0))))))
def http_kind.f (k : Nat) (l0 : List (S67)) : Option (Int × Int) := (header_All.f k l0 (⟨#[84, 114, 97, 110, 115, 102, 101, 114, 45, 69, 110, 99, 111, 100, 105, 110, 103]⟩ : ByteArray)).bind fun t101 => ((header_All.f k l0 (⟨#[67, 111, 110, 116, 101, 110, 116, 45, 76, 101, 110, 103, 116, 104]⟩ : ByteArray)).bind fun t104 => (if (t101.length : Int) = 1 then (if 0 < (t101.length : Int) then ((text_Lower.f (rdOf ByteArray.empty t101 0)).bind fun t108 => (if t108.toList = ([99, 104, 117, 110, 107, 101, 100] : List UInt8) then (http_kind.j0 k t101 t104 ((t104.length : Int) == 0)) else (http_kind.j0 k t101 t104 false))) else (none)) else (http_kind.j0 k t101 t104 false)))
theorem http_kind.mono_l : ∀ k, (∀ y0 y1 y2, LeO (http_kind.j0 k y0 y1 y2) (http_kind.j0 (k + 1) y0 y1 y2))
 | 0 => fun _ _ _ r h => by simp [http_kind.j0] at h
 | k + 1 => by
  have ih0 := http_kind.mono_l k
  ·intro y0 y1 y2
   unfold http_kind.j0
   repeat' first
   | (with_reducible exact ih0 _ _ _)
   | (with_reducible exact header_All.mono _ _ _)
   | (with_reducible exact http_within.mono _ _ _ _)
   | (with_reducible exact LeO.refl _)
   | (with_reducible exact LeO.none _)
   | (with_reducible refine LeO.ite ?_ ?_)
   | (with_reducible refine LeO.bind ?_ (fun _ => ?_))
   | exact ih0 _ _ _
   | exact header_All.mono _ _ _
   | exact http_within.mono _ _ _ _
   | exact LeO.none _
   | refine LeO.ite ?_ ?_
   | refine LeO.bind ?_ (fun _ => ?_)
theorem http_kind.mono : ∀ a0 k, LeO (http_kind.f k a0) (http_kind.f (k + 1) a0) := by
 intro a0 k
 have ih0 := http_kind.mono_l k
 unfold http_kind.f
 repeat' first
   | (with_reducible exact ih0 _ _ _)
   | (with_reducible exact header_All.mono _ _ _)
   | (with_reducible exact http_within.mono _ _ _ _)
   | (with_reducible exact LeO.refl _)
   | (with_reducible exact LeO.none _)
   | (with_reducible refine LeO.ite ?_ ?_)
   | (with_reducible refine LeO.bind ?_ (fun _ => ?_))
   | exact ih0 _ _ _
   | exact header_All.mono _ _ _
   | exact http_within.mono _ _ _ _
   | exact LeO.none _
   | refine LeO.ite ?_ ?_
   | refine LeO.bind ?_ (fun _ => ?_)
set_option maxHeartbeats 8000000 in
set_option maxRecDepth 100000 in
theorem http_kind.calls (k : Nat) (A0 : Option Addr) (c0 : Nat) (l0 : List (S67)) (r1 : Int) (r2 : Int) (w : World) (hLW : LW w) (hr0 : Kd.C k67 w A0 l0.length l0) (hc0 : l0.length ≤ c0) (h : http_kind.f k l0 = some (r1, r2)) :
  Calls Tryz.prog 54 #[.slice A0 l0.length c0] w fun e w' => e = .returned (.tuple #[.int .i64 r1, .int .i64 r2]) ∧ Below w.heap.size w w' := by
 have HLW := Aside0.mk hLW
 clear hLW
 have HR0 := Aside0.mk hr0
 have HC0 := Aside0.mk hc0
 clear hr0 hc0
 have HB := Aside0.mk (Below.refl w.heap.size w)
 have H := h
 unfold http_kind.f at H
 clear h
 replace H := Option.bind_eq_some_iff.mp H
 obtain ⟨t101, A20, H⟩ := H
 (try dsimp only at H)
 have A2 := Aside0.mk A20
 clear A20
 replace H := Option.bind_eq_some_iff.mp H
 obtain ⟨t104, A30, H⟩ := H
 (try dsimp only at H)
 have A3 := Aside0.mk A30
 clear A30
 have HC4 := Aside0.mk H
 clear H
 go_enter Tryz.func54, Tryz.ntmps54
 go_upto_region 2 with (first | ((with_reducible refine gate_callee (f := 66) rfl ?_); refine goesL_ (some 7) rfl rfl Tryz.func66 (by kernel_rfl) rfl #[.slice A0 l0.length c0, .string (⟨#[84, 114, 97, 110, 115, 102, 101, 114, 45, 69, 110, 99, 111, 100, 105, 110, 103]⟩ : ByteArray)] rfl lq_ ?_; (with_reducible refine (header_All.calls k _ _ l0 (⟨#[84, 114, 97, 110, 115, 102, 101, 114, 45, 69, 110, 99, 111, 100, 105, 110, 103]⟩ : ByteArray) t101 _ ?side3 ?side1 ?side2 A2.out).mono ?_); (case side1 => repeat (first | exact HR0.out | (with_reducible refine Kd.C_alloc ?_ _) | (with_reducible refine Kd.C_drewN ?_ _) | (with_reducible refine Kd.C_drew ?_))); (case side2 => exact HC0.out); (case side3 => exact lw_); rintro e w5 ⟨v102, rfl, ho0, hb⟩; refine ⟨_, rfl, ?_⟩; have HO103 := Aside0.mk (Kd.R_lower ho0 (below_size bq_)); replace HB := Aside0.mk (below_step bq_ hb)) | ((with_reducible refine gate_callee (f := 66) rfl ?_); refine goesL_ (some 9) rfl rfl Tryz.func66 (by kernel_rfl) rfl #[.slice A0 l0.length c0, .string (⟨#[67, 111, 110, 116, 101, 110, 116, 45, 76, 101, 110, 103, 116, 104]⟩ : ByteArray)] rfl lq_ ?_; (with_reducible refine (header_All.calls k _ _ l0 (⟨#[67, 111, 110, 116, 101, 110, 116, 45, 76, 101, 110, 103, 116, 104]⟩ : ByteArray) t104 _ ?side3 ?side1 ?side2 A3.out).mono ?_); (case side1 => repeat (first | exact (Kd.C_below HR0.out HB.out) | (with_reducible refine Kd.C_alloc ?_ _) | (with_reducible refine Kd.C_drewN ?_ _) | (with_reducible refine Kd.C_drew ?_))); (case side2 => exact HC0.out); (case side3 => exact lw_); rintro e w6 ⟨v105, rfl, ho0, hb⟩; refine ⟨_, rfl, ?_⟩; have n0_ := Aside0.mk (Kd.R_elder' (by (with_reducible repeat (first | apply Kd.R_alloc | apply Kd.R_drewN | apply Kd.R_drew)); exact HO103.out) (Kd.R_base ho0) hb); have n1_ := Aside0.mk (Kd.R_lower (Kd.R_new' ho0 (Kd.R_lt (by (with_reducible repeat (first | apply Kd.R_alloc | apply Kd.R_drewN | apply Kd.R_drew)); exact HO103.out))) (below_size bq_)); have n2_ := Aside0.mk (below_step bq_ hb); clear HO103; clear HB; have HO103 := n0_; have HO106 := n1_; have HB := n2_; clear n0_ n1_ n2_))
 (try simp only [Act.put, List.setIfInBounds_toArray, List.set_cons_zero, List.set_cons_succ])
 go_cut [10] (fun v10 wc => ∃ (kq : Nat) (x10_3 : Bool), v10 = .bool x10_3 ∧ Aside0 (http_kind.j0 kq t101 t104 x10_3 = some (r1, r2)) ∧ Aside0 (kq ≤ k) ∧ Aside0 (Kd.R Kd.string 9 wc w.heap.size (fun k_ => some k_ ≠ (v105 : Value).ownBlock) v102 t101) ∧ Aside0 (Kd.R Kd.string 9 wc w.heap.size (fun k_ => some k_ ≠ (v102 : Value).ownBlock) v105 t104) ∧ Aside0 (Below w.heap.size w wc))
 case first =>
  have H := HC4.out
  clear HC4
  by_cases c7 : (t101.length : Int) = 1
  ·rw [if_pos c7] at H
   have c7b0 := beq_iff_eq.mpr c7
   have c7b1 := bne_eq_false_iff_eq.mpr c7
   clear c7
   (first | rw [c7b0] | (simp only [i64_w, i32_w]; rw [c7b0]) | skip)
   by_cases c8 : 0 < (t101.length : Int)
   ·rw [if_pos c8] at H
    have c8b0 := decide_eq_true c8
    have c8b1 : decide (0 < t101.length) = true := decide_eq_true (by omega)
    clear c8
    replace H := Option.bind_eq_some_iff.mp H
    obtain ⟨t108, A90, H⟩ := H
    (try dsimp only at H)
    have A9 := Aside0.mk A90
    clear A90
    by_cases c10 : t108.toList = ([99, 104, 117, 110, 107, 101, 100] : List UInt8)
    ·rw [if_pos c10] at H
     have c10b0 := beq_iff_eq.mpr c10
     have c10b1 := bne_eq_false_iff_eq.mpr c10
     clear c10
     have H' := Aside0.mk H
     clear H
     obtain ⟨Ao11, co11, eo11⟩ := Kd.R_slice HO103.out
     subst eo11
     have p107 : 0 ≤ (0 : Int) := (by omega)
     have q107 : 0 < (t101.length : Int) := of_decide_eq_true as_
     obtain ⟨ad107, e107, hx107_0⟩ := Kd.at_string (Kd.R_reads' HO103.out).2.2 0 p107 q107
     cases e107
     have qi107 : (0 < t101.length) = True := eq_true (by omega)
     (try rw [show ((0 : Int)).toNat = 0 from rfl] at hx107_0)
     (try rw [Addr.add_zero'] at hx107_0)
     replace p107 := eq_true p107
     replace q107 := eq_true q107
     go_wp2_with (first | (go_at_call 85; (with_reducible refine (text_Lower.calls (rdOf ByteArray.empty t101 0) t108 _ ?side1 A9.out).mono ?_); (case side1 => exact lw_); rintro e w12 ⟨rfl, hb⟩; replace HO103 := Aside0.mk (Kd.R_below (by (with_reducible repeat (first | apply Kd.R_alloc | apply Kd.R_drewN | apply Kd.R_drew)); exact HO103.out) hb); replace HO106 := Aside0.mk (Kd.R_below (by (with_reducible repeat (first | apply Kd.R_alloc | apply Kd.R_drewN | apply Kd.R_drew)); exact HO106.out) hb); replace HB := Aside0.mk (below_step bq_ hb); obtain ⟨Ao13, co13, eo13⟩ := Kd.R_slice HO106.out; subst eo13))
     go_meet
     case rel => exact ⟨_, (((t104.length : Int) == 0)), sq_, H', ⟨by first | omega | exact Nat.le_refl _⟩, ⟨by (with_reducible repeat (first | apply Kd.R_alloc | apply Kd.R_drewN | apply Kd.R_drew)); exact Kd.R_mono HO103.out (fun _ hk => hk.2)⟩, ⟨by (with_reducible repeat (first | apply Kd.R_alloc | apply Kd.R_drewN | apply Kd.R_drew)); exact Kd.R_mono HO106.out (fun _ hk => hk.2)⟩, ⟨bq_⟩⟩
    ·rw [if_neg c10] at H
     have c10b0 := beq_eq_false_iff_ne.mpr c10
     have c10b1 := bne_iff_ne.mpr c10
     have H' := Aside0.mk H
     clear H
     obtain ⟨Ao14, co14, eo14⟩ := Kd.R_slice HO103.out
     subst eo14
     have p107 : 0 ≤ (0 : Int) := (by omega)
     have q107 : 0 < (t101.length : Int) := of_decide_eq_true as_
     obtain ⟨ad107, e107, hx107_0⟩ := Kd.at_string (Kd.R_reads' HO103.out).2.2 0 p107 q107
     cases e107
     have qi107 : (0 < t101.length) = True := eq_true (by omega)
     (try rw [show ((0 : Int)).toNat = 0 from rfl] at hx107_0)
     (try rw [Addr.add_zero'] at hx107_0)
     replace p107 := eq_true p107
     replace q107 := eq_true q107
     go_wp2_with (first | (go_at_call 85; (with_reducible refine (text_Lower.calls (rdOf ByteArray.empty t101 0) t108 _ ?side1 A9.out).mono ?_); (case side1 => exact lw_); rintro e w15 ⟨rfl, hb⟩; replace HO103 := Aside0.mk (Kd.R_below (by (with_reducible repeat (first | apply Kd.R_alloc | apply Kd.R_drewN | apply Kd.R_drew)); exact HO103.out) hb); replace HO106 := Aside0.mk (Kd.R_below (by (with_reducible repeat (first | apply Kd.R_alloc | apply Kd.R_drewN | apply Kd.R_drew)); exact HO106.out) hb); replace HB := Aside0.mk (below_step bq_ hb)))
     go_meet
     case rel => exact ⟨_, (false), sq_, H', ⟨by first | omega | exact Nat.le_refl _⟩, ⟨by (with_reducible repeat (first | apply Kd.R_alloc | apply Kd.R_drewN | apply Kd.R_drew)); exact Kd.R_mono HO103.out (fun _ hk => hk.2)⟩, ⟨by (with_reducible repeat (first | apply Kd.R_alloc | apply Kd.R_drewN | apply Kd.R_drew)); exact Kd.R_mono HO106.out (fun _ hk => hk.2)⟩, ⟨bq_⟩⟩
   ·rw [if_neg c8] at H
    exact absurd H (by simp)
  ·rw [if_neg c7] at H
   have c7b0 := beq_eq_false_iff_ne.mpr c7
   have c7b1 := bne_iff_ne.mpr c7
   (first | rw [c7b0] | (simp only [i64_w, i32_w]; rw [c7b0]) | skip)
   have H' := Aside0.mk H
   clear H
   obtain ⟨Ao16, co16, eo16⟩ := Kd.R_slice HO103.out
   subst eo16
   go_wp2
   go_meet
   case rel => exact ⟨_, (false), sq_, H', ⟨by first | omega | exact Nat.le_refl _⟩, ⟨by (with_reducible repeat (first | apply Kd.R_alloc | apply Kd.R_drewN | apply Kd.R_drew)); exact Kd.R_mono HO103.out (fun _ hk => hk.2)⟩, ⟨by (with_reducible repeat (first | apply Kd.R_alloc | apply Kd.R_drewN | apply Kd.R_drew)); exact Kd.R_mono HO106.out (fun _ hk => hk.2)⟩, ⟨bq_⟩⟩
 case rest =>
  clear HC4
  obtain ⟨kq, x10_3, rfl, HA, HJ3, HO_4, HO_5, HB⟩ := hcut
  cases kq with
  | zero => exact absurd HA.out (by simp [http_kind.j0])
  | succ kj3 =>
   have H := HA.out
   clear HA
   simp only [http_kind.j0] at H
   by_cases c17 : x10_3 = true
   ·subst c17
    replace H := ifT_ H
    simp only [Option.some.injEq, Prod.mk.injEq] at H
    obtain ⟨rfl, rfl⟩ := H
    go_wp2
    go_ret2
    exact ⟨rq_, bq_⟩
   ·replace c17 := Bool.eq_false_iff.mpr c17
    subst c17
    replace H := ifF_ H
    by_cases c18 : (t101.length : Int) > 0
    ·rw [if_pos c18] at H
     have c18b0 := decide_eq_true c18
     have c18b1 : decide (0 < t101.length) = true := decide_eq_true (by omega)
     clear c18
     simp only [Option.some.injEq, Prod.mk.injEq] at H
     obtain ⟨rfl, rfl⟩ := H
     obtain ⟨Ao19, co19, eo19⟩ := Kd.R_slice HO_4.out
     subst eo19
     go_wp2
     go_ret2
     exact ⟨rq_, bq_⟩
    ·rw [if_neg c18] at H
     have c18b0 := decide_eq_false c18
     have c18b1 : decide (0 < t101.length) = false := decide_eq_false (by omega)
     clear c18
     by_cases c20 : (t104.length : Int) = 0
     ·rw [if_pos c20] at H
      have c20b0 := beq_iff_eq.mpr c20
      have c20b1 := bne_eq_false_iff_eq.mpr c20
      clear c20
      simp only [Option.some.injEq, Prod.mk.injEq] at H
      obtain ⟨rfl, rfl⟩ := H
      obtain ⟨Ao21, co21, eo21⟩ := Kd.R_slice HO_4.out
      subst eo21
      obtain ⟨Ao22, co22, eo22⟩ := Kd.R_slice HO_5.out
      subst eo22
      go_wp2
      go_ret2
      exact ⟨rq_, bq_⟩
     ·rw [if_neg c20] at H
      have c20b0 := beq_eq_false_iff_ne.mpr c20
      have c20b1 := bne_iff_ne.mpr c20
      have c20b2 : ¬ (t104 = []) := fun h_ => c20 (by rw [h_]; rfl)
      replace H := Option.bind_eq_some_iff.mp H
      obtain ⟨t109, A230, H⟩ := H
      (try dsimp only at H)
      have A23 := Aside0.mk A230
      clear A230
      by_cases c24 : (t109.length : Int) = 1
      ·rw [if_pos c24] at H
       have c24b0 := beq_iff_eq.mpr c24
       have c24b1 := bne_eq_false_iff_eq.mpr c24
       clear c24
       by_cases c25 : 0 < (t104.length : Int)
       ·rw [if_pos c25] at H
        have c25b0 := decide_eq_true c25
        have c25b1 : decide (0 < t104.length) = true := decide_eq_true (by omega)
        clear c25
        by_cases c26 : (rdOf ByteArray.empty t104 0).toList = ([] : List UInt8)
        ·rw [if_pos c26] at H
         have c26b0 := beq_iff_eq.mpr c26
         have c26b1 := bne_eq_false_iff_eq.mpr c26
         clear c26
         simp only [Option.some.injEq, Prod.mk.injEq] at H
         obtain ⟨rfl, rfl⟩ := H
         obtain ⟨Ao27, co27, eo27⟩ := Kd.R_slice HO_4.out
         subst eo27
         obtain ⟨g28, co28, eo28, _, _, _, _⟩ := own_slice HO_5.out (by omega)
         subst eo28
         have pp_ : (0 ≤ (0 : Int)) = True := eq_true (by omega)
         have qq_ : (0 < (t104.length : Int)) = True := eq_true (by omega)
         have qi_ : (0 < t104.length) = True := eq_true (by omega)
         go_wp2_with (first | ((with_reducible refine gate_callee (f := 86) rfl ?_); refine goesL_ (some 35) rfl rfl Tryz.func86 (by kernel_rfl) rfl #[.slice (some ⟨g28, 0, none⟩) t104.length co28] rfl lq_ ?_; refine (compact_calls (by (with_reducible repeat (first | apply Kd.R_alloc | apply Kd.R_drewN | apply Kd.R_drew)); exact HO_5.out) bq_ (by omega) A23.out).mono ?_; rintro e w29 ⟨rfl, hx112_0, hb⟩; refine ⟨_, rfl, ?_⟩; clear HO_4; clear HO_5; clear HB; have HB := Aside0.mk hb))
         go_ret2
         exact ⟨rq_, bq_⟩
        ·rw [if_neg c26] at H
         have c26b0 := beq_eq_false_iff_ne.mpr c26
         have c26b1 := bne_iff_ne.mpr c26
         by_cases c31 : ((rdOf ByteArray.empty t104 0).size : Int) > 8
         ·rw [if_pos c31] at H
          have c31b0 := decide_eq_true c31
          have c31b1 : decide (8 < (rdOf ByteArray.empty t104 0).size) = true := decide_eq_true (by omega)
          clear c31
          simp only [Option.some.injEq, Prod.mk.injEq] at H
          obtain ⟨rfl, rfl⟩ := H
          obtain ⟨Ao32, co32, eo32⟩ := Kd.R_slice HO_4.out
          subst eo32
          obtain ⟨g33, co33, eo33, _, _, _, _⟩ := own_slice HO_5.out (by omega)
          subst eo33
          have pp_ : (0 ≤ (0 : Int)) = True := eq_true (by omega)
          have qq_ : (0 < (t104.length : Int)) = True := eq_true (by omega)
          have qi_ : (0 < t104.length) = True := eq_true (by omega)
          go_wp2_with (first | ((with_reducible refine gate_callee (f := 86) rfl ?_); refine goesL_ (some 35) rfl rfl Tryz.func86 (by kernel_rfl) rfl #[.slice (some ⟨g33, 0, none⟩) t104.length co33] rfl lq_ ?_; refine (compact_calls (by (with_reducible repeat (first | apply Kd.R_alloc | apply Kd.R_drewN | apply Kd.R_drew)); exact HO_5.out) bq_ (by omega) A23.out).mono ?_; rintro e w34 ⟨rfl, hx112_0, hb⟩; refine ⟨_, rfl, ?_⟩; clear HO_4; clear HO_5; clear HB; have HB := Aside0.mk hb))
          go_ret2
          exact ⟨rq_, bq_⟩
         ·rw [if_neg c31] at H
          have c31b0 := decide_eq_false c31
          have c31b1 : decide (8 < (rdOf ByteArray.empty t104 0).size) = false := decide_eq_false (by omega)
          clear c31
          replace H := Option.bind_eq_some_iff.mp H
          obtain ⟨t115, A360, H⟩ := H
          (try dsimp only at H)
          have A36 := Aside0.mk A360
          clear A360
          by_cases c37 : t115 = true
          ·subst c37
           replace H := ifT_ H
           replace H := Option.bind_eq_some_iff.mp H
           obtain ⟨⟨t117, t118⟩, A380, H⟩ := H
           (try dsimp only at H)
           have A38 := Aside0.mk A380
           clear A380
           simp only [Option.some.injEq, Prod.mk.injEq] at H
           obtain ⟨rfl, rfl⟩ := H
           obtain ⟨Ao39, co39, eo39⟩ := Kd.R_slice HO_4.out
           subst eo39
           obtain ⟨g40, co40, eo40, _, _, _, _⟩ := own_slice HO_5.out (by omega)
           subst eo40
           have pp_ : (0 ≤ (0 : Int)) = True := eq_true (by omega)
           have qq_ : (0 < (t104.length : Int)) = True := eq_true (by omega)
           have qi_ : (0 < t104.length) = True := eq_true (by omega)
           go_wp2_with (first | ((with_reducible refine gate_callee (f := 86) rfl ?_); refine goesL_ (some 35) rfl rfl Tryz.func86 (by kernel_rfl) rfl #[.slice (some ⟨g40, 0, none⟩) t104.length co40] rfl lq_ ?_; refine (compact_calls (by (with_reducible repeat (first | apply Kd.R_alloc | apply Kd.R_drewN | apply Kd.R_drew)); exact HO_5.out) bq_ (by omega) A23.out).mono ?_; rintro e w41 ⟨rfl, hx112_0, hb⟩; refine ⟨_, rfl, ?_⟩; clear HO_4; clear HO_5; clear HB; have HB := Aside0.mk hb) | (go_at_call 46; (with_reducible refine (http_within.calls kj3 (rdOf ByteArray.empty t104 0) 48 57 true _ ?side1 A36.out).mono ?_); (case side1 => exact lw_); rintro e w' ⟨rfl, ⟨nd, rfl⟩⟩) | ((with_reducible refine gate_callee (f := 70) rfl ?_); refine goesL_ (some 62) rfl rfl Tryz.func70 (by kernel_rfl) rfl #[.string (rdOf ByteArray.empty t104 0)] rfl lq_ ?_; (with_reducible refine (strconv_Atoi.calls (rdOf ByteArray.empty t104 0) t117 t118 _ ?side1 A38.out).mono ?_); (case side1 => exact lw_); rintro e w43 ⟨rfl, hb⟩; refine ⟨_, rfl, ?_⟩; replace HB := Aside0.mk (below_step bq_ hb); (try simp only [errW_none, errW_some])))
           all_goals (go_ret2; exact ⟨rq_, bq_⟩)
          ·replace c37 := Bool.eq_false_iff.mpr c37
           subst c37
           replace H := ifF_ H
           simp only [Option.some.injEq, Prod.mk.injEq] at H
           obtain ⟨rfl, rfl⟩ := H
           obtain ⟨Ao44, co44, eo44⟩ := Kd.R_slice HO_4.out
           subst eo44
           obtain ⟨g45, co45, eo45, _, _, _, _⟩ := own_slice HO_5.out (by omega)
           subst eo45
           have pp_ : (0 ≤ (0 : Int)) = True := eq_true (by omega)
           have qq_ : (0 < (t104.length : Int)) = True := eq_true (by omega)
           have qi_ : (0 < t104.length) = True := eq_true (by omega)
           go_wp2_with (first | ((with_reducible refine gate_callee (f := 86) rfl ?_); refine goesL_ (some 35) rfl rfl Tryz.func86 (by kernel_rfl) rfl #[.slice (some ⟨g45, 0, none⟩) t104.length co45] rfl lq_ ?_; refine (compact_calls (by (with_reducible repeat (first | apply Kd.R_alloc | apply Kd.R_drewN | apply Kd.R_drew)); exact HO_5.out) bq_ (by omega) A23.out).mono ?_; rintro e w46 ⟨rfl, hx112_0, hb⟩; refine ⟨_, rfl, ?_⟩; clear HO_4; clear HO_5; clear HB; have HB := Aside0.mk hb) | (go_at_call 46; (with_reducible refine (http_within.calls kj3 (rdOf ByteArray.empty t104 0) 48 57 false _ ?side1 A36.out).mono ?_); (case side1 => exact lw_); rintro e w' ⟨rfl, ⟨nd, rfl⟩⟩))
           go_ret2
           exact ⟨rq_, bq_⟩
       ·rw [if_neg c25] at H
        exact absurd H (by simp)
      ·rw [if_neg c24] at H
       have c24b0 := beq_eq_false_iff_ne.mpr c24
       have c24b1 := bne_iff_ne.mpr c24
       simp only [Option.some.injEq, Prod.mk.injEq] at H
       obtain ⟨rfl, rfl⟩ := H
       obtain ⟨Ao48, co48, eo48⟩ := Kd.R_slice HO_4.out
       subst eo48
       obtain ⟨g49, co49, eo49, _, _, _, _⟩ := own_slice HO_5.out (by omega)
       subst eo49
       have pp_ : (0 ≤ (0 : Int)) = True := eq_true (by omega)
       have qq_ : (0 < (t104.length : Int)) = True := eq_true (by omega)
       have qi_ : (0 < t104.length) = True := eq_true (by omega)
       go_wp2_with (first | ((with_reducible refine gate_callee (f := 86) rfl ?_); refine goesL_ (some 35) rfl rfl Tryz.func86 (by kernel_rfl) rfl #[.slice (some ⟨g49, 0, none⟩) t104.length co49] rfl lq_ ?_; refine (compact_calls (by (with_reducible repeat (first | apply Kd.R_alloc | apply Kd.R_drewN | apply Kd.R_drew)); exact HO_5.out) bq_ (by omega) A23.out).mono ?_; rintro e w50 ⟨rfl, hx112_0, hb⟩; refine ⟨_, rfl, ?_⟩; clear HO_4; clear HO_5; clear HB; have HB := Aside0.mk hb))
       go_ret2
       exact ⟨rq_, bq_⟩

end Go.Proofs.YtipleegkonhfcaaGreatDoor.KF
