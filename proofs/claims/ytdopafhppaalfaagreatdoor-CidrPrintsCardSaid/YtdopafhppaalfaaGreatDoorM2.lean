/- The contract of cidr.first, by hand: an address with its first bits alone. -/
import Derived.Test.YtdopafhppaalfaaGreatDoorP2
import Derived.LoopTactic
import Derived.StillTailTactics
set_option linter.unusedVariables false
set_option linter.unusedSimpArgs false
namespace Go.Proofs.YtdopafhppaalfaaGreatDoor.E
open Go Go.RowKit Go.Shelf Go.Lib Go.Proofs.YtdopafhppaalfaaGreatDoorW.PrintWords Go.Proofs.YtdopafhppaalfaaGreatDoorW.PrintLast Go.Proofs.YtdopafhppaalfaaGreatDoorW.PrintMore Go.Proofs.YtdopafhppaalfaaGreatDoorV Go.Proofs.YtdopafhppaalfaaGreatDoor.P

/-- How many bits of byte i stay, of c in all. -/
def mxI (x : Int) : Int := if 0 < x then x else 0
def mnI (x : Int) : Int := if x < 8 then x else 8
def keepI (c : Int) (i : Nat) : Int := mnI (mxI (c - 8 * (i : Int)))
theorem keep_range (x : Int) : 0 ≤ mnI (mxI x) ∧ mnI (mxI x) ≤ 8 := by
  unfold mnI mxI
  split <;> split <;> omega
theorem max2_0 (x : Int) : Builtin.max2 (.int .i64 0) (.int .i64 x) = pure (.int .i64 (mxI x)) := by
  rw [max2_int]; rfl
theorem min2_8 (x : Int) : Builtin.min2 (.int .i64 8) (.int .i64 x) = pure (.int .i64 (mnI x)) := by
  rw [min2_int]; rfl
attribute [local go_sem] max2_0 min2_8 max_two min_two
def maskI (k : Int) : Int := 255 * 2 ^ (8 - k).toNat % 256
def cutB (c : Int) (i : Nat) (b : Int) : Int := Go.bits .and .u8 b (maskI (keepI c i))
def cutL (c : Int) : Nat → List Int → List Int
  | _, [] => []
  | i, b :: t => cutB c i b :: cutL c (i + 1) t
def encA (v : Bool) (bs : List Int) : List Value := .bool v :: bs.map (Value.int .u8)
theorem addw (fr n : Int) (h : fr = 0 ∨ fr = 96) (h0 : 0 ≤ n) (h1 : n ≤ 128) : wrap64 (fr + n) = fr + n := by unfold wrap64; omega
theorem wm8 (i : Nat) (h : i < 16) : wrap64 (8 * (i : Int)) = 8 * (i : Int) := by unfold wrap64; omega
theorem subw (c : Int) (i : Nat) (x : Int) (hx : c - 8 * (i : Int) = x) (h0 : 0 ≤ c) (h1 : c ≤ 300) (hi : i < 16) : wrap64 (c - 8 * (i : Int)) = x := by unfold wrap64; omega
theorem subw8 (k : Int) (h0 : 0 ≤ k) (h1 : k ≤ 8) : wrap64 (8 - k) = 8 - k := by unfold wrap64; omega
theorem cutL_len (c : Int) : ∀ (l : List Int) (i : Nat), (cutL c i l).length = l.length
  | [], _ => rfl
  | b :: t, i => by rw [cutL, List.length_cons, List.length_cons, cutL_len c t (i + 1)]
theorem encA_cell {w : World} {g : Nat} {t : TypeId} {v : Bool} {bs : List Int} (h : w.heap[g]? = some (.cells (encA v bs).toArray t (0, 0))) (i : Nat) (hi : i < bs.length) : w.cell? ⟨g, 1 + i, none⟩ = some (.int .u8 bs[i]) := by
  rw [blk_cell h, List.getElem?_toArray, encA, Nat.add_comm, List.getElem?_cons_succ, List.getElem?_map, List.getElem?_eq_getElem hi]
  rfl
theorem encA_set (v : Bool) (bs : List Int) (i : Nat) (y : Int) (hi : i < bs.length) : (encA v bs).toArray.setIfInBounds (1 + i) (.int .u8 y) = (encA v (bs.set i y)).toArray := by
  rw [List.setIfInBounds_toArray, Nat.add_comm, encA, List.set_cons_succ, ← List.map_set]
  rfl
theorem encA_one (v : Bool) (bs : List Int) : (encA v bs).all (·.oneCell') = true := by
  simp only [encA, List.all_cons, List.all_map]
  rw [Bool.and_eq_true]
  exact ⟨rfl, List.all_eq_true.2 fun x _ => rfl⟩
theorem cutL_snoc (c : Int) (b : Int) : ∀ (l : List Int) (i : Nat), cutL c i (l ++ [b]) = cutL c i l ++ [cutB c (i + l.length) b]
  | [], i => rfl
  | x :: t, i => by rw [List.cons_append, cutL, cutL, cutL_snoc c b t (i + 1)]; simp only [List.cons_append, List.length_cons]; rw [show i + 1 + t.length = i + (t.length + 1) by omega]
theorem cut_step (c : Int) (bs : List Int) (hbs : bs.length = 16) (i : Nat) (hi : i < 16) (cur : List Int) (hc : cur = cutL c 0 (bs.take i) ++ bs.drop i) {kp : Int} (hk : keepI c i = kp) (h : i < cur.length) : cur.set i (Go.bits .and .u8 cur[i] (maskI kp)) = cutL c 0 (bs.take (i + 1)) ++ bs.drop (i + 1) := by
  subst hc hk
  have hib : i < bs.length := by omega
  have hl : (cutL c 0 (bs.take i)).length = i := by rw [cutL_len, List.length_take]; omega
  have hg : (cutL c 0 (bs.take i) ++ bs.drop i)[i] = bs[i] := by
    rw [List.getElem_append_right (by omega)]
    simp only [hl, Nat.sub_self, List.getElem_drop, Nat.add_zero]
  rw [hg, List.set_append_right _ _ (by omega), hl, Nat.sub_self, List.drop_eq_getElem_cons hib, List.set_cons_zero, List.take_succ_eq_append_getElem hib, cutL_snoc, List.length_take, Nat.min_eq_left (by omega), Nat.zero_add, List.append_assoc]
  rfl
theorem len16 : ∀ bs : List Int, bs.length = 16 → ∃ b1 b2 b3 b4 b5 b6 b7 b8 b9 b10 b11 b12 b13 b14 b15 b16 : Int, bs = [b1, b2, b3, b4, b5, b6, b7, b8, b9, b10, b11, b12, b13, b14, b15, b16]
  | [b1, b2, b3, b4, b5, b6, b7, b8, b9, b10, b11, b12, b13, b14, b15, b16], _ => ⟨b1, b2, b3, b4, b5, b6, b7, b8, b9, b10, b11, b12, b13, b14, b15, b16, rfl⟩
theorem encA_len (v : Bool) (bs : List Int) : (encA v bs).length = bs.length + 1 := by simp [encA]
theorem infoA : (Tryz.prog.info? 24).map (·.size) = some 17 := by kernel_rfl
def btI (v : Bool) : Int := if v = true then 128 else 32
def frI (v : Bool) : Int := if v = true then 0 else 96
theorem size_calls (v : Bool) (bs : List Int) (hbs : bs.length = 16) (w : World) (hLW : LW w) :
    Calls Tryz.prog 15 #[.agg (encA v bs).toArray] w fun e w' => e = .returned (.tuple #[.int .i64 (btI v), .int .i64 (frI v)]) ∧ Below w.heap.size w w' := by
  obtain ⟨b1, b2, b3, b4, b5, b6, b7, b8, b9, b10, b11, b12, b13, b14, b15, b16, rfl⟩ := len16 bs hbs
  cases v
  · exact cidr_size.calls false b1 b2 b3 b4 b5 b6 b7 b8 b9 b10 b11 b12 b13 b14 b15 b16 32 96 w hLW rfl
  · exact cidr_size.calls true b1 b2 b3 b4 b5 b6 b7 b8 b9 b10 b11 b12 b13 b14 b15 b16 128 0 w hLW rfl
set_option maxHeartbeats 4000000 in
set_option maxRecDepth 100000 in
theorem first_calls (v : Bool) (bs : List Int) (hbs : bs.length = 16) (n : Int) (h0 : 0 ≤ n) (h1 : n ≤ 128) (w : World) (hLW : LW w) :
    Calls Tryz.prog 17 #[.agg (encA v bs).toArray, .int .i64 n] w fun e w' => e = .returned (.agg (encA v (cutL (frI v + n) 0 bs)).toArray) ∧ Below w.heap.size w w' := by
  have HLW := Aside0.mk hLW
  clear hLW
  have hu24 := Tryz.underlying24
  go_enter Tryz.func17, Tryz.ntmps17
  go_wp2_with (first | ((with_reducible refine gate_dst (N := 2) rfl ?_); refine box_event ?hg (N := 2) ?hd (cs := (encA v bs).toArray) (t := 24) ?hr ?_; (case hd => rfl); (case hg => rfl); (case hr => first | (go_simp; done) | (go_simp; rfl)); intro gb hg w7 hbox hb; have HGE := Aside0.mk (show w.heap.size ≤ gb by rw [hg]; exact Nat.le_refl _); have BK7 := Aside0.mk hbox; have HB7 := Aside0.mk hb; have HLT := Aside0.mk (blk_lt hbox); clear hbox hb hg) | ((with_reducible refine gate_dst (N := 4) rfl ?_); refine box_event ?hg (N := 4) ?hd (cs := #[.bool false, .int .u8 0, .int .u8 0, .int .u8 0, .int .u8 0, .int .u8 0, .int .u8 0, .int .u8 0, .int .u8 0, .int .u8 0, .int .u8 0, .int .u8 0, .int .u8 0, .int .u8 0, .int .u8 0, .int .u8 0, .int .u8 0]) (t := 24) ?hr ?_; (case hd => rfl); (case hg => rfl); (case hr => first | (go_simp; done) | (go_simp; rfl)); intro gr hg w8 hbox hb; have HGR := Aside0.mk (show w7.heap.size ≤ gr by rw [hg]; exact Nat.le_refl _); have BR8 := Aside0.mk hbox; have HB8 := Aside0.mk hb; have BK8 := Aside0.mk (blk_below BK7.out hb); have HLR := Aside0.mk (blk_lt hbox); clear hbox hb hg) | ((with_reducible refine gate_dst (N := 10) rfl ?_); refine load_box ?hg 24 (.tmp 2) rfl BK8.out [] (encA v bs) [] (by simp) 0 rfl rfl Tryz.underlying24 rfl (by rw [encA_len, hbs]; exact infoA) ?_; (case hg => rfl)) | (go_at_call 15; refine (size_calls v bs hbs _ (LW.below (LW.below HLW.out HB7.out) HB8.out)).mono ?_; rintro e w9 ⟨rfl, hb9⟩))
  have HB9 := Aside0.mk (below_step (below_step HB7.out HB8.out) hb9)
  have BK9 := Aside0.mk ((hb9.block gb (Nat.lt_of_lt_of_le HLT.out HB8.out.size)).trans BK8.out)
  have BR9 := Aside0.mk ((hb9.block gr HLR.out).trans BR8.out)
  have HNE := Aside0.mk (show gb ≠ gr by have := HLT.out; have := HGR.out; omega)
  have HGW := Aside0.mk (show w.heap.size ≤ gr from Nat.le_trans HB7.out.size HGR.out)
  clear hb9
  have hfr : frI v = 0 ∨ frI v = 96 := by cases v; exact .inr rfl; exact .inl rfl
  obtain ⟨fr, hF⟩ : ∃ fr, frI v = fr := ⟨_, rfl⟩
  have HF := Aside0.mk hF
  rw [hF] at hfr
  simp only [hF]
  clear hF
  have HADD := Aside0.mk (addw fr n hfr h0 h1)
  obtain ⟨c, hcc⟩ : ∃ c, fr + n = c := ⟨_, rfl⟩
  have HADD' := Aside0.mk (HADD.out.trans hcc)
  clear HADD
  have hc0 : 0 ≤ c := by omega
  have hc1 : c ≤ 300 := by omega
  go_loopg [7, 8, 14] 16 (fun gg _ _ s14 wr => ∃ (i : Nat) (cur : List Int), s14 = .int .i64 i ∧ i ≤ 16 ∧ 16 - i ≤ gg ∧ Aside0 (Below w.heap.size w wr) ∧ Aside0 (wr.heap[gb]? = some (.cells (encA v cur).toArray 24 (0, 0))) ∧ Aside0 (wr.heap[gr]? = some (.cells #[.bool false, .int .u8 0, .int .u8 0, .int .u8 0, .int .u8 0, .int .u8 0, .int .u8 0, .int .u8 0, .int .u8 0, .int .u8 0, .int .u8 0, .int .u8 0, .int .u8 0, .int .u8 0, .int .u8 0, .int .u8 0, .int .u8 0] 24 (0, 0))) ∧ Aside0 (cur = cutL c 0 (bs.take i) ++ bs.drop i))
  case atStart => exact ⟨0, bs, rfl, by omega, by omega, HB9, BK9, BR9, ⟨by simp [cutL]⟩⟩
  case round =>
    obtain ⟨i, cur, rfl, hi, hgg, HB, BK, BR, I⟩ := hrel
    by_cases hlt : i < 16
    · have hltz : (i : Int) < 16 := by omega
      obtain ⟨x, hx⟩ : ∃ x, c - 8 * (i : Int) = x := ⟨_, rfl⟩
      have HW2 := Aside0.mk (wm8 i hlt)
      have HW3 := Aside0.mk (subw c i x hx hc0 hc1 hlt)
      have hx1 : -128 ≤ x ∧ x ≤ 300 := by omega
      go_upto_region 5 with (fail)
      have hw1 := HADD'.out
      have hw2 := HW2.out
      have hw3 := HW3.out
      go_upto_region 6 with (fail)
      have hcl : cur.length = 16 := by rw [I.out, List.length_append, cutL_len, List.length_take, List.length_drop]; omega
      have hk := keep_range x
      obtain ⟨kp, hkpe⟩ : ∃ kp, mnI (mxI x) = kp := ⟨_, rfl⟩
      rw [hkpe] at hk
      simp only [hkpe]
      have KP := Aside0.mk (show keepI c i = kp by unfold keepI; rw [hx]; exact hkpe)
      clear hkpe
      have hkp : 0 ≤ 8 - kp := by omega
      have hkw : wrap64 (8 - kp) = 8 - kp := subw8 kp hk.1 hk.2
      have hci : i < cur.length := by omega
      have hx0 : wr.cell? ⟨gb, 1 + i, none⟩ = some (.int .u8 cur[i]) := encA_cell BK.out i hci
      have hf0 := blk_frozen BK.out (1 + i)
      go_region
      go_wp2
      have HCI := Aside0.mk hci
      go_roundg (16 - (i + 1))
      case measure => omega
      case rel =>
        refine ⟨i + 1, cur.set i (Go.bits .and .u8 cur[i] (maskI kp)), by go_num, by omega, Nat.le_refl _, ⟨(HB.out.setCell (p := ⟨gb, 1 + i, none⟩) HGE.out _).drew⟩, ⟨blk_drew (blk_put BK.out (1 + i) _ (encA_set v cur i _ hci))⟩, ⟨(Below.heap_setCell wr ⟨gb, 1 + i, none⟩ _ gr (Ne.symm HNE.out)).trans BR.out⟩, ⟨?_⟩⟩
        exact cut_step c bs hbs i hlt cur I.out (KP.out) hci
    · obtain rfl : i = 16 := by omega
      have hltz : ¬ ((16 : Nat) : Int) < 16 := by decide
      have hcl : cur.length = 16 := by rw [I.out, List.length_append, cutL_len, List.length_take, List.length_drop]; omega
      have hce : cur = cutL c 0 bs := by rw [I.out, List.take_of_length_le (by omega), List.drop_eq_nil_of_le (by omega), List.append_nil]
      subst hce
      go_wp2_with (first | ((with_reducible refine gate_dst (N := 36) rfl ?_); refine load_box ?hg 24 (.tmp 2) rfl BK.out [] (encA v (cutL c 0 bs)) [] (by simp) 0 rfl rfl Tryz.underlying24 rfl (by rw [encA_len, hcl]; exact infoA) ?_; (case hg => rfl)) | (refine store_all ?hg 24 4 _ rfl rfl gr [.bool false, .int .u8 0, .int .u8 0, .int .u8 0, .int .u8 0, .int .u8 0, .int .u8 0, .int .u8 0, .int .u8 0, .int .u8 0, .int .u8 0, .int .u8 0, .int .u8 0, .int .u8 0, .int .u8 0, .int .u8 0, .int .u8 0] (encA v (cutL c 0 bs)) BR.out rfl rfl ?hl ?hi ?h1 ?_; (case hg => rfl); (case hl => rw [encA_len, hcl]; rfl); (case hi => rw [encA_len, hcl]; exact infoA); (case h1 => exact encA_one v (cutL c 0 bs)); intro w12 hw12))
      have HBR : Aside0 ((wr.setCells gr 0 (encA v (cutL c 0 bs))).heap[gr]? = some (.cells (encA v (cutL c 0 bs)).toArray 24 (0, 0))) := Aside0.mk (blk_part (encA v (cutL c 0 bs)) [.bool false, .int .u8 0, .int .u8 0, .int .u8 0, .int .u8 0, .int .u8 0, .int .u8 0, .int .u8 0, .int .u8 0, .int .u8 0, .int .u8 0, .int .u8 0, .int .u8 0, .int .u8 0, .int .u8 0, .int .u8 0, .int .u8 0] [] [] BR.out (by simp) (by rw [encA_len, hcl]; rfl) (cs' := (encA v (cutL c 0 bs)).toArray) (by simp))
      have HBL := Aside0.mk (below_setC HGW.out (encA v (cutL c 0 bs)) 0 HB.out)
      have hres := fun tmps (h : tmps.getD 4 undef = .pointer (some ⟨gr, 0, none⟩)) => results_cell_row (P := Tryz.prog) (fn := Tryz.f17) (p := 4) (ty := 24) rfl tmps (wr.setCells gr 0 (encA v (cutL c 0 bs))) gr 24 (encA v (cutL c 0 bs)).toArray (0, 0) _ h HBR.out Tryz.underlying24 rfl (by rw [List.size_toArray, encA_len, hcl]; kernel_rfl)
      refine bodyPost_ret (hres _ ?_) ?_ ?_
      · rfl
      · rfl
      exact ⟨by rw [HF.out, hcc], HBL.out⟩
end Go.Proofs.YtdopafhppaalfaaGreatDoor.E
set_option linter.unusedVariables false
namespace Go.Proofs.YtdopafhppaalfaaGreatDoor.E
open Go Go.RowKit Go.Shelf Go.Lib Go.Proofs.YtdopafhppaalfaaGreatDoorW.PrintWords Go.Proofs.YtdopafhppaalfaaGreatDoorW.PrintLast Go.Proofs.YtdopafhppaalfaaGreatDoorW.PrintMore Go.Proofs.YtdopafhppaalfaaGreatDoorV Go.Proofs.YtdopafhppaalfaaGreatDoor.P

def cidr_first.f (a0_0 : Bool) (a0_1 : Int) (a0_2 : Int) (a0_3 : Int) (a0_4 : Int) (a0_5 : Int) (a0_6 : Int) (a0_7 : Int) (a0_8 : Int) (a0_9 : Int) (a0_10 : Int) (a0_11 : Int) (a0_12 : Int) (a0_13 : Int) (a0_14 : Int) (a0_15 : Int) (a0_16 : Int) (a1 : Int) : Option (Bool × Int × Int × Int × Int × Int × Int × Int × Int × Int × Int × Int × Int × Int × Int × Int × Int) := if 0 ≤ a1 ∧ a1 ≤ 128 then some (a0_0, cutB (frI a0_0 + a1) 0 a0_1, cutB (frI a0_0 + a1) 1 a0_2, cutB (frI a0_0 + a1) 2 a0_3, cutB (frI a0_0 + a1) 3 a0_4, cutB (frI a0_0 + a1) 4 a0_5, cutB (frI a0_0 + a1) 5 a0_6, cutB (frI a0_0 + a1) 6 a0_7, cutB (frI a0_0 + a1) 7 a0_8, cutB (frI a0_0 + a1) 8 a0_9, cutB (frI a0_0 + a1) 9 a0_10, cutB (frI a0_0 + a1) 10 a0_11, cutB (frI a0_0 + a1) 11 a0_12, cutB (frI a0_0 + a1) 12 a0_13, cutB (frI a0_0 + a1) 13 a0_14, cutB (frI a0_0 + a1) 14 a0_15, cutB (frI a0_0 + a1) 15 a0_16) else none
theorem cidr_first.calls (a0_0 : Bool) (a0_1 : Int) (a0_2 : Int) (a0_3 : Int) (a0_4 : Int) (a0_5 : Int) (a0_6 : Int) (a0_7 : Int) (a0_8 : Int) (a0_9 : Int) (a0_10 : Int) (a0_11 : Int) (a0_12 : Int) (a0_13 : Int) (a0_14 : Int) (a0_15 : Int) (a0_16 : Int) (a1 : Int) (r1 : Bool) (r2 : Int) (r3 : Int) (r4 : Int) (r5 : Int) (r6 : Int) (r7 : Int) (r8 : Int) (r9 : Int) (r10 : Int) (r11 : Int) (r12 : Int) (r13 : Int) (r14 : Int) (r15 : Int) (r16 : Int) (r17 : Int) (w : World) (hLW : LW w) (h : cidr_first.f a0_0 a0_1 a0_2 a0_3 a0_4 a0_5 a0_6 a0_7 a0_8 a0_9 a0_10 a0_11 a0_12 a0_13 a0_14 a0_15 a0_16 a1 = some (r1, r2, r3, r4, r5, r6, r7, r8, r9, r10, r11, r12, r13, r14, r15, r16, r17)) :
    Calls Tryz.prog 17 #[.agg #[.bool a0_0, .int .u8 a0_1, .int .u8 a0_2, .int .u8 a0_3, .int .u8 a0_4, .int .u8 a0_5, .int .u8 a0_6, .int .u8 a0_7, .int .u8 a0_8, .int .u8 a0_9, .int .u8 a0_10, .int .u8 a0_11, .int .u8 a0_12, .int .u8 a0_13, .int .u8 a0_14, .int .u8 a0_15, .int .u8 a0_16], .int .i64 a1] w fun e w' => e = .returned (.agg #[.bool r1, .int .u8 r2, .int .u8 r3, .int .u8 r4, .int .u8 r5, .int .u8 r6, .int .u8 r7, .int .u8 r8, .int .u8 r9, .int .u8 r10, .int .u8 r11, .int .u8 r12, .int .u8 r13, .int .u8 r14, .int .u8 r15, .int .u8 r16, .int .u8 r17]) ∧ Below w.heap.size w w' := by
  unfold cidr_first.f at h
  split at h
  · rename_i hn
    simp only [Option.some.injEq, Prod.mk.injEq] at h
    obtain ⟨rfl, rfl, rfl, rfl, rfl, rfl, rfl, rfl, rfl, rfl, rfl, rfl, rfl, rfl, rfl, rfl, rfl⟩ := h
    exact first_calls a0_0 [a0_1, a0_2, a0_3, a0_4, a0_5, a0_6, a0_7, a0_8, a0_9, a0_10, a0_11, a0_12, a0_13, a0_14, a0_15, a0_16] rfl a1 hn.1 hn.2 w hLW
  · cases h
end Go.Proofs.YtdopafhppaalfaaGreatDoor.E
