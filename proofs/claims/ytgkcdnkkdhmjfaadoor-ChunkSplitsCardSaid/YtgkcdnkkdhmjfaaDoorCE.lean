/- The contract of chunk.Encode, by hand: a buffer of its own is written piece by piece. -/
import Derived.Test.YtgkcdnkkdhmjfaaDoorCF
import Derived.Test.YtgkcdnkkdhmjfaaDoorShelf2
set_option linter.unusedVariables false
set_option linter.unusedSimpArgs false
namespace Go.Proofs.YtgkcdnkkdhmjfaaDoor.E
open Go Go.RowKit Go.Shelf Go.Lib Go.Proofs.YtgkcdnkkdhmjfaaDoorW.PrintWords Go.Proofs.YtgkcdnkkdhmjfaaDoorW.PrintLast Go.Proofs.YtgkcdnkkdhmjfaaDoorW.PrintMore

theorem isBuffer_old {T e : TypeId} {B b : Nat} {bs : List Value} {w w' : World} (h : Lib.IsBuffer T e B b bs w) (hb : Below w.heap.size w w') : Lib.IsBuffer T e B b bs w' := by
  have hlt := h.lt
  obtain ⟨hB, v, lr, h1, h2, h3⟩ := h
  exact ⟨hB, v, lr, (hb.block b hlt).trans h1, pw_own_below h2 hb, h3⟩
def encU (l : List Int) : List Value := encs (fun z : Int => Value.int .u8 z) l
theorem encU_append (a b : List Int) : encU (a ++ b) = encU a ++ encU b := by simp [encU, encs]
theorem encU_length (a : List Int) : (encU a).length = a.length := by simp [encU, encs]
theorem encU_one (l : List Int) : ∀ v ∈ encU l, v.oneCell' = true := by
  intro v hv
  obtain ⟨b, _, rfl⟩ := List.mem_map.1 hv
  rfl
def numsU (l : List UInt8) : List Int := l.map fun b => (b.toNat : Int)
theorem encU_numsU (l : List UInt8) : encU (numsU l) = Lib.byteCells l := by
  simp [encU, encs, numsU, Lib.byteCells]
theorem byteCells_append (a b : List UInt8) : Lib.byteCells (a ++ b) = Lib.byteCells a ++ Lib.byteCells b := by simp [Lib.byteCells]
theorem byteCells_one (l : List UInt8) : ∀ v ∈ Lib.byteCells l, v.oneCell' = true := by
  intro v hv
  obtain ⟨b, _, rfl⟩ := List.mem_map.1 hv
  rfl
theorem app_one {a b : List Value} (ha : ∀ v ∈ a, v.oneCell' = true) (hb : ∀ v ∈ b, v.oneCell' = true) : ∀ v ∈ a ++ b, v.oneCell' = true := fun v hv => (List.mem_append.1 hv).elim (ha v) (hb v)
theorem size_mk (l : List UInt8) : (⟨l.toArray⟩ : ByteArray).size = l.length := by simp [ByteArray.size]
theorem enc1310 : encU [13, 10] = Lib.byteCells [13, 10] := rfl
theorem data_hex (l : List UInt8) : ((⟨l.toArray⟩ : ByteArray) ++ (⟨#[13, 10]⟩ : ByteArray)).data.toList = l ++ [13, 10] := by simp
theorem lim1 {a x : Nat} (ha : a ≤ 300000) (hx : x ≤ 4) : a + (x + 2) ≤ 140737488355328 := by omega
theorem lim2 {a x y : Nat} (ha : a ≤ 300000) (hx : x ≤ 4) (hy : y ≤ 32768) : a + (x + 2) + y ≤ 140737488355328 := by omega
theorem lim3 {a x y : Nat} (ha : a ≤ 300000) (hx : x ≤ 4) (hy : y ≤ 32768) : a + (x + 2) + y + 2 ≤ 140737488355328 := by omega
def rdR (xs : List (List Int)) (i : Int) : List Int := xs.getD i.toNat ([] : List Int)
theorem at_R {w : World} {A : Option Addr} {n : Nat} {xs : List (List Int)} (h : Kd.C (Kd.slice 5 (Kd.int .u8)) w A n xs) (i : Int) (h0 : 0 ≤ i) (h1 : i < n) : ∃ ad A0 c0, A = some ad ∧ w.cell? (ad.add i.toNat) = some (.slice A0 (rdR xs i).length c0) ∧ (rdR xs i).length ≤ c0 ∧ (Kd.int .u8).C w A0 (rdR xs i).length (rdR xs i) := by
  obtain ⟨ad, c, e, _, hK, hc0⟩ := Kd.C_get h ([] : List Int) i h0 h1
  have hc : ∀ j u, c[j]? = some u → w.cell? (ad.add (i.toNat * 1 + j)) = some u := hc0
  obtain ⟨A0, c0, rfl, l0, g0⟩ := hK
  exact ⟨ad, A0, c0, e, by have hq := hc 0 _ rfl; rwa [Nat.mul_one, Nat.add_zero] at hq, l0, g0⟩
/-- A piece in its chunk. -/
def pieceI (p : List Int) : List Int := if p = [] then [] else numsU (hexN p.length) ++ [13, 10] ++ p ++ [13, 10]
def piecesI (l : List (List Int)) : List Int := l.flatMap pieceI
def totalL (l : List (List Int)) : Nat := (l.map List.length).sum
theorem rdR_take (l : List (List Int)) (i : Nat) (h : i < l.length) : l.take (i + 1) = l.take i ++ [rdR l (i : Int)] := by
  have e : rdR l (i : Int) = l[i] := by
    show l.getD (i : Int).toNat [] = l[i]
    rw [Int.toNat_natCast, List.getD_eq_getElem?_getD, List.getElem?_eq_getElem h, Option.getD_some]
  rw [e, List.take_succ_eq_append_getElem h]
theorem pieces_step (l : List (List Int)) (i : Nat) (h : i < l.length) : piecesI (l.take (i + 1)) = piecesI (l.take i) ++ pieceI (rdR l (i : Int)) := by
  rw [rdR_take l i h, piecesI, piecesI, List.flatMap_append]
  simp
theorem total_step (l : List (List Int)) (i : Nat) (h : i < l.length) : totalL (l.take (i + 1)) = totalL (l.take i) + (rdR l (i : Int)).length := by
  rw [rdR_take l i h, totalL, totalL, List.map_append, List.sum_append]
  simp
theorem total_le (l : List (List Int)) (i : Nat) : totalL (l.take i) ≤ totalL l := by
  conv => rhs; rw [← List.take_append_drop i l]
  rw [totalL, totalL, List.map_append, List.sum_append]
  omega
theorem hexN_length (n : Nat) : 1 ≤ (hexN n).length ∧ (hexN n).length ≤ 4 := by
  unfold hexN hexJ
  rw [hexB_length]
  repeat' split
  all_goals omega
theorem piece_le (p : List Int) : (pieceI p).length ≤ 9 * p.length := by
  unfold pieceI
  split
  · simp
  · rename_i h
    have h1 := List.length_pos_iff.2 h
    have h2 := (hexN_length p.length).2
    simp only [List.length_append, numsU, List.length_map, List.length_cons, List.length_nil]
    omega
theorem pieces_le (l : List (List Int)) : (piecesI l).length ≤ 9 * totalL l := by
  induction l with
  | nil => simp [piecesI]
  | cons p l ih =>
    have h := piece_le p
    simp only [piecesI, totalL, List.flatMap_cons, List.length_append, List.map_cons, List.sum_cons] at ih ⊢
    omega
def chunk_Encode.f (l0 : List (List Int)) : Option (List Int × Int) := if 32768 < totalL l0 then some ([], 3) else some (piecesI l0 ++ [48, 13, 10, 13, 10], 0)
set_option maxHeartbeats 8000000 in
set_option maxRecDepth 100000 in
theorem chunk_Encode.calls (A0 : Option Addr) (c0 : Nat) (l0 : List (List Int)) (r1 : List Int) (r2 : Int) (w : World) (hLW : LW w) (hr0 : Kd.C (Kd.slice 5 (Kd.int .u8)) w A0 l0.length l0) (hc0 : l0.length ≤ c0) (h : chunk_Encode.f l0 = some (r1, r2)) :
    Calls Tryd.prog 10 #[.slice A0 l0.length c0] w fun e w' => ∃ v0_ : Value, e = .returned (.tuple #[v0_, .int .i64 r2]) ∧ Kd.R (Kd.int .u8) 5 w' w.heap.size (fun _ => True) v0_ r1 ∧ Below w.heap.size w w' := by
  have HLW := Aside0.mk hLW
  have HR0 := Aside0.mk hr0
  have HC0 := Aside0.mk hc0
  have H := Aside0.mk h
  have HLEN := Aside0.mk hr0.2.1
  clear hLW hr0 hc0 h
  go_enter Tryd.func10, Tryd.ntmps10
  go_wp2
  go_loopg [4, 12] (l0.length + 1) (fun kq v4 v12 w' => ∃ (i : Nat), v4 = .int .i64 ((totalL (l0.take i) : Nat) : Int) ∧ v12 = .int .i64 i ∧ Aside0 (i ≤ l0.length) ∧ Aside0 (i + kq = l0.length + 1) ∧ Aside0 (totalL (l0.take i) ≤ 32768) ∧ w' = w)
  case atStart => exact ⟨0, by simp [totalL], rfl, ⟨Nat.zero_le _⟩, ⟨Nat.zero_add _⟩, ⟨by simp [totalL]⟩, rfl⟩
  case round =>
    obtain ⟨i, rfl, rfl, HI, HKQ, HT, hwe⟩ := hrel
    have hwe2 := hwe.symm
    clear hwe
    subst hwe2
    have hi := HI.out
    obtain ⟨k1, rfl⟩ : ∃ m, gk = m + 1 := ⟨gk - 1, by have := HKQ.out; omega⟩
    by_cases hlt : i < l0.length
    · have c2b : decide ((i : Int) < (l0.length : Int)) = true := decide_eq_true (by omega)
      have p1 : 0 ≤ (i : Int) := by omega
      have q1 : (i : Int) < (l0.length : Int) := by omega
      obtain ⟨ad, A1, c1, rfl, hx, hl1, hi1⟩ := at_R HR0.out (i : Int) p1 q1
      rw [Int.toNat_natCast] at hx
      have ht := HT.out
      have hst := total_step l0 i hlt
      have hle := total_le l0 (i + 1)
      have hm := hi1.2.1
      generalize hp : rdR l0 (i : Int) = p at *
      generalize htt : totalL (l0.take i) = t at *
      obtain ⟨q, hq⟩ : ∃ q, t + q = 32768 := ⟨32768 - t, by omega⟩
      have w1 : wrap64 (32768 - (t : Int)) = (q : Int) := by unfold wrap64; omega
      have HWR := Aside0.mk (show wrap64 ((i : Int) + 1) = ((i + 1 : Nat) : Int) by have := HLEN.out; unfold wrap64; omega)
      by_cases hbig : q < p.length
      · have d0 : decide ((p.length : Int) > (q : Int)) = true := decide_eq_true (by omega)
        have d1 : decide (q < p.length) = true := decide_eq_true hbig
        have hr := H.out
        unfold chunk_Encode.f at hr
        rw [if_pos (by omega)] at hr
        simp only [Option.some.injEq, Prod.mk.injEq] at hr
        obtain ⟨rfl, rfl⟩ := hr
        go_wp2
        go_ret2
        exact ⟨_, rfl, Kd.R_nil _ _ _ _ _, Below.refl _ _⟩
      · have d0 : decide ((p.length : Int) > (q : Int)) = false := decide_eq_false (by omega)
        have d1 : decide (q < p.length) = false := decide_eq_false hbig
        have HT2 := Aside0.mk (show (t : Int) + (p.length : Int) = ((totalL (l0.take (i + 1)) : Nat) : Int) by omega)
        have HT3 := Aside0.mk (show totalL (l0.take (i + 1)) ≤ 32768 by omega)
        go_wp2
        go_roundg k1
        case rel => exact ⟨i + 1, congrArg (Value.int .i64) HT2.out, congrArg (Value.int .i64) HWR.out, ⟨hlt⟩, ⟨by have := HKQ.out; omega⟩, HT3, rfl⟩
        case measure => omega
    · obtain rfl : i = l0.length := by omega
      have c2b : decide (((l0.length : Nat) : Int) < (l0.length : Int)) = false := decide_eq_false (by omega)
      have ht := HT.out
      rw [List.take_length] at ht
      have hr := H.out
      unfold chunk_Encode.f at hr
      rw [if_neg (by omega)] at hr
      simp only [Option.some.injEq, Prod.mk.injEq] at hr
      obtain ⟨rfl, rfl⟩ := hr
      have HTT := Aside0.mk ht
      generalize htt0 : totalL (List.take l0.length l0) = tt0
      have HF := Aside0.mk (Lib.fresh_isBuffer 51 5 w)
      have HB2 := Aside0.mk (below_alloc (Below.refl w.heap.size w) (.cells #[.slice none 0 0, .int .i64 0, .int .i8 0] 51))
      clear ht
      go_wp2
      generalize hb0 : w.heap.size = b0 at *
      go_loopg [28] (l0.length + 1) (fun kq v28 w' => ∃ (i : Nat), v28 = .int .i64 i ∧ Aside0 (i ≤ l0.length) ∧ Aside0 (i + kq = l0.length + 1) ∧ Aside0 (Lib.IsBuffer 51 5 b0 b0 (encU (piecesI (l0.take i))) w') ∧ Aside0 (Below b0 w w') ∧ Aside0 (b0 ≤ w'.heap.size))
      case atStart => exact ⟨0, rfl, ⟨Nat.zero_le _⟩, ⟨Nat.zero_add _⟩, ⟨by rw [List.take_zero]; exact HF.out⟩, HB2, ⟨by simp; omega⟩⟩
      case round =>
        obtain ⟨i, rfl, HI, HKQ, HBUF, HB, HSZ⟩ := hrel
        have hi := HI.out
        obtain ⟨k1, rfl⟩ : ∃ m, gk = m + 1 := ⟨gk - 1, by have := HKQ.out; omega⟩
        by_cases hlt : i < l0.length
        · have c2b : decide ((i : Int) < (l0.length : Int)) = true := decide_eq_true (by omega)
          have p1 : 0 ≤ (i : Int) := by omega
          have q1 : (i : Int) < (l0.length : Int) := by omega
          obtain ⟨ad, A1, c1, rfl, hx, hl1, hi1⟩ := at_R HR0.out (i : Int) p1 q1
          have hlb := World.block_lt_of_cell? w _ hx
          rw [hb0] at hlb
          replace hx := (HB.out.cell hlb).trans hx
          rw [Int.toNat_natCast] at hx
          have hst := pieces_step l0 i hlt
          have hto := total_step l0 i hlt
          have hle := total_le l0 (i + 1)
          have hpl := pieces_le (l0.take i)
          have htt := HTT.out
          have HWR := Aside0.mk (show wrap64 ((i : Int) + 1) = ((i + 1 : Nat) : Int) by have := HLEN.out; unfold wrap64; omega)
          generalize hp : rdR l0 (i : Int) = p at *
          have hpm : p.length ≤ 32768 := by omega
          by_cases hz : p = []
          · subst hz
            have HST := Aside0.mk (show piecesI (l0.take (i + 1)) = piecesI (l0.take i) by rw [hst]; simp [pieceI])
            clear hst hto hle hpl htt hi1 hl1
            go_wp2
            go_roundg k1
            case rel => exact ⟨i + 1, congrArg (Value.int .i64) HWR.out, ⟨hlt⟩, ⟨by have := HKQ.out; omega⟩, ⟨by rw [HST.out]; exact HBUF.out⟩, HB, HSZ⟩
            case measure => omega
          · have hpos := List.length_pos_iff.2 hz
            have d0 : decide ((p.length : Int) > 0) = true := decide_eq_true (by omega)
            have d1 : decide (0 < p.length) = true := decide_eq_true hpos
            have hfi : strconv_FormatInt.f (p.length : Int) 16 = some ⟨(hexN p.length).toArray⟩ := by
              unfold strconv_FormatInt.f
              rw [if_pos ⟨rfl, by omega, by omega⟩, Int.toNat_natCast]
            have HFI := Aside0.mk hfi
            have hxl := hexN_length p.length
            have HSTEP := Aside0.mk (show piecesI (l0.take (i + 1)) = piecesI (l0.take i) ++ (numsU (hexN p.length) ++ [13, 10] ++ p ++ [13, 10]) by rw [hst]; unfold pieceI; rw [if_neg hz])
            have L1 : (encU (piecesI (l0.take i))).length ≤ 300000 := by rw [encU_length]; omega
            have HL1 := Aside0.mk L1
            have HPM := Aside0.mk hpm
            have HXL := Aside0.mk hxl.2
            clear L1 hfi hst hto hle hpl htt hxl
            obtain ⟨a, rfl, hcell⟩ : ∃ a, A1 = some a ∧ ∀ j v, (encU p)[j]? = some v → w.cell? (a.add j) = some v := by
              obtain ⟨a, e, hc⟩ := (Kd.reads_of_C (enc := Value.int .u8) (d := (0 : Int)) (h1 := fun _ => rfl) hi1).2.2 hpos
              refine ⟨a, e, fun j v hj => ?_⟩
              have hjl := (List.getElem?_eq_some_iff.1 hj).1
              rw [encU_length] at hjl
              rw [hc j hjl, ← hj]
              simp [encU, encs, List.getD_eq_getElem?_getD, hjl]
            have HCELL := Aside0.mk hcell
            have hab : a.block < b0 := by
              obtain ⟨v0, hv0⟩ : ∃ v0, (encU p)[0]? = some v0 := ⟨_, List.getElem?_eq_getElem (by rw [encU_length]; exact hpos)⟩
              have := World.block_lt_of_cell? w _ (hcell 0 v0 hv0)
              rw [hb0] at this
              exact this
            have HAB := Aside0.mk hab
            clear hcell hab hi1
            have s1 : ¬ (9223372036854775807 < (hexN p.length).length + 2) := by have := HXL.out; omega
            have s2 : ¬ (9223372036854775807 < (⟨(hexN p.length).toArray⟩ : ByteArray).size + 2) := by rw [size_mk]; exact s1
            go_wp2_with (first
              | (go_at_call 22; refine (strconv_FormatInt.calls (p.length : Int) 16 _ _ (HLW.out.below (hb0 ▸ HB.out)) HFI.out).mono ?_; rintro e w1 ⟨rfl, hb1⟩; have HB1 := Aside0.mk (below_then HB.out HSZ.out hb1); have HS1 := Aside0.mk (Nat.le_trans HSZ.out hb1.size); have HI1 := Aside0.mk (isBuffer_old HBUF.out hb1); clear hb1)
              | (go_at_call 21; refine (Tryd.Buffer_WriteString b0 b0 _ _ _ hbufB.out HS3.out (app_one (app_one (encU_one _) (byteCells_one _)) (encU_one _)) (by rw [List.length_append, List.length_append, Lib.byteCells_length, data_hex, List.length_append, encU_length p]; exact lim3 HL1.out HXL.out HPM.out)).mono ?_; rintro e w4 ⟨rfl, hbufC0, hbC⟩; have hbufC := Aside0.mk hbufC0; have HB4 := Aside0.mk (HB3.out.trans hbC); have HS4 := Aside0.mk (Nat.le_trans HS3.out hbC.size); clear hbufC0 hbC)
              | (go_at_call 23; (refine (Any.Buffer_Write Tryd.lays_LaysMn180 b0 b0 _ (encU p) a p.length _ _ hbufA.out HS2.out (app_one (encU_one _) (byteCells_one _)) (encU_length p) HAB.out (fun j v hj => (HB2b.out.cell (hb0 ▸ World.block_lt_of_cell? w _ (HCELL.out j v hj))).trans (HCELL.out j v hj)) (encU_one p) (by rw [List.length_append, Lib.byteCells_length, data_hex, List.length_append]; exact lim2 HL1.out HXL.out HPM.out)).mono ?_; rintro e w3 ⟨rfl, hbufB0, hbB⟩; have hbufB := Aside0.mk hbufB0; have HB3 := Aside0.mk (HB2b.out.trans hbB); have HS3 := Aside0.mk (Nat.le_trans HS2.out hbB.size); clear hbufB0 hbB))
              | (go_at_call 21; refine (Tryd.Buffer_WriteString b0 b0 _ _ _ HI1.out HS1.out (encU_one _) (by rw [ByteArray.size_append, size_mk]; exact lim1 HL1.out HXL.out)).mono ?_; rintro e w2 ⟨rfl, hbufA0, hbA⟩; have hbufA := Aside0.mk hbufA0; have HB2b := Aside0.mk (HB1.out.trans hbA); have HS2 := Aside0.mk (Nat.le_trans HS1.out hbA.size); clear hbufA0 hbA))
            go_roundg k1
            case rel =>
              refine ⟨i + 1, congrArg (Value.int .i64) HWR.out, ⟨hlt⟩, ⟨by have := HKQ.out; omega⟩, ⟨?_⟩, HB4, HS4⟩
              have e1 : encU (piecesI (l0.take (i + 1))) = encU (piecesI (l0.take i)) ++ Lib.byteCells (((⟨(hexN p.length).toArray⟩ : ByteArray) ++ (⟨#[13, 10]⟩ : ByteArray)).data.toList) ++ encU p ++ Lib.byteCells ((⟨#[13, 10]⟩ : ByteArray).data.toList) := by
                rw [HSTEP.out, encU_append, encU_append, encU_append, encU_append, encU_numsU, enc1310, data_hex, byteCells_append]
                simp only [List.append_assoc]
              rw [e1]
              exact hbufC.out
            case measure => omega
        · obtain rfl : i = l0.length := by omega
          have c2b : decide (((l0.length : Nat) : Int) < (l0.length : Int)) = false := decide_eq_false (by omega)
          rw [List.take_length] at HBUF
          have hpl := pieces_le l0
          have htt := HTT.out
          have L1 : (encU (piecesI l0)).length ≤ 300000 := by rw [encU_length]; omega
          have HL1 := Aside0.mk L1
          clear L1 hpl htt
          go_wp2_with (first | (go_at_call 21; refine (Tryd.Buffer_WriteString b0 b0 (encU (piecesI l0)) _ _ HBUF.out HSZ.out (encU_one _) (by have := HL1.out; exact Nat.le_trans (Nat.add_le_add_right this _) (by decide))).mono ?_; rintro e w9 ⟨rfl, hbuf9, hb9⟩) | (go_at_call 24; refine (Tryd.Buffer_Bytes b0 b0 _ _ hbuf9).mono ?_; rintro e w10 ⟨v, rfl, hown, n, rfl⟩))
          go_ret2
          refine ⟨v, rfl, ?_, ?_⟩
          · refine Kd.R_of_own (enc := fun z : Int => Value.int .u8 z) ?_ (fun _ _ => trivial)
            have e1 : encU (piecesI l0) ++ Lib.byteCells ((⟨#[48, 13, 10, 13, 10]⟩ : ByteArray).data.toList) = encs (fun z : Int => Value.int .u8 z) (piecesI l0 ++ [48, 13, 10, 13, 10]) := by
              show _ = encU _
              rw [encU_append]
              rfl
            have e2 : (encU (piecesI l0) ++ Lib.byteCells ((⟨#[48, 13, 10, 13, 10]⟩ : ByteArray).data.toList)).length = (piecesI l0 ++ [48, 13, 10, 13, 10]).length := by
              rw [List.length_append, List.length_append, encU_length]
              rfl
            have ho := hown
            rw [e2, e1] at ho
            rw [hb0]
            exact ho
          · rw [hb0]
            exact pw_below_drewN (HB.out.trans hb9) n
end Go.Proofs.YtgkcdnkkdhmjfaaDoor.E
