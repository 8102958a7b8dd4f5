/-
  DERIVED: THE SHELF's CONTRACTS AT THIS DUMP, IN PLAIN WORDS (tools/lay-plain.mjs out of 'YtipleegkonhfcaaGreatDoorShelf2.lean', which tools/lay-shelf.mjs wrote): THE SAME DECLARATIONS UNDER THE SAME NAMES: 'import', 'namespace', 'open', 'def', 'theorem' AND NOTHING ELSE: no command of the shelf's: FOR A HAND-IN. Each laying: the table of numbers ('.._ren') and one theorem, a field a fact of the dump's own or the kernel's comparison; each contract: ONE APPLICATION.
-/
import Derived.Shelf.Bytes.Bytes
import Derived.Shelf.Bytes.WriteString
import Derived.Test.YtipleegkonhfcaaGreatDoorKH1
import Derived.Test.YtipleegkonhfcaaGreatDoorKN1
namespace Go.Proofs
open Go.Shelf
def Tryz.laysM178_ren : Go.Shelf.Ren := ⟨fun | 178 => 95 | 251 => 113 | 252 => 114 | 181 => 132 | 184 => 133 | 290 => 134 | 324 => 147 | n => n, fun | 130 => 125 | 9 => 9 | 3 => 3 | 75 => 92 | 0 => 0 | 93 => 112 | 91 => 110 | 131 => 126 | 4 => 4 | 37 => 22 | 20 => 20 | 80 => 166 | 5 => 5 | n => n, fun | 14 => 1 | n => n⟩
theorem Tryz.laysM178 : Go.Proofs.LaysM.n178 Tryz.prog Tryz.laysM178_ren := {
  mixed := by kernel_rfl
  f178 := Tryz.func95.trans (congrArg some (by kernel_rfl))
  f181 := Tryz.func132.trans (congrArg some (by kernel_rfl))
  f184 := Tryz.func133.trans (congrArg some (by kernel_rfl))
  f251 := Tryz.func113.trans (congrArg some (by kernel_rfl))
  f252 := Tryz.func114.trans (congrArg some (by kernel_rfl))
  f290 := Tryz.func134.trans (congrArg some (by kernel_rfl))
  f324 := Tryz.func147.trans (congrArg some (by kernel_rfl))
  t0 := Tryz.underlying0
  a0 := Tryz.isAgg0
  z0 := Tryz.sizeOf0
  v0 := Tryz.zeroValue0
  t3 := Tryz.underlying3
  a3 := Tryz.isAgg3
  z3 := Tryz.sizeOf3
  v3 := Tryz.zeroValue3
  t4 := Tryz.underlying4
  a4 := Tryz.isAgg4
  z4 := Tryz.sizeOf4
  v4 := Tryz.zeroValue4
  t9 := Tryz.underlying9
  a9 := Tryz.isAgg9
  z9 := Tryz.sizeOf9
  v9 := Tryz.zeroValue9
  t20 := Tryz.underlying20
  a20 := Tryz.isAgg20
  z20 := Tryz.sizeOf20
  v20 := Tryz.zeroValue20
  t37 := Tryz.underlying22
  a37 := Tryz.isAgg22
  z37 := Tryz.sizeOf22
  v37 := Tryz.zeroValue22
  t75 := Tryz.underlying92
  a75 := Tryz.isAgg92
  z75 := Tryz.sizeOf92
  v75 := Tryz.zeroValue92
  t91 := Tryz.underlying110
  a91 := Tryz.isAgg110
  z91 := Tryz.sizeOf110
  v91 := Tryz.zeroValue110
  t93 := Tryz.underlying112
  a93 := Tryz.isAgg112
  z93 := Tryz.sizeOf112
  v93 := Tryz.zeroValue112
  t130 := Tryz.underlying125
  a130 := Tryz.isAgg125
  z130 := Tryz.sizeOf125
  v130 := Tryz.zeroValue125
  t131 := Tryz.underlying126
  a131 := Tryz.isAgg126
  z131 := Tryz.sizeOf126
  v131 := Tryz.zeroValue126
  g14 := by kernel_rfl
  t5 := Tryz.underlying5
  a5 := Tryz.isAgg5
  z5 := Tryz.sizeOf5
  v5 := Tryz.zeroValue5
  t80 := Tryz.underlying166
  a80 := Tryz.isAgg166
  z80 := Tryz.sizeOf166
  v80 := Tryz.zeroValue166
  i0 := by kernel_rfl
  i3 := by kernel_rfl
  i4 := by kernel_rfl
  i5 := by kernel_rfl
  i9 := by kernel_rfl
  i20 := by kernel_rfl
  i37 := by kernel_rfl
  i75 := by kernel_rfl
  i80 := by kernel_rfl
  i91 := by kernel_rfl
  i93 := by kernel_rfl
  i130 := by kernel_rfl
  i131 := by kernel_rfl
  m14 := by kernel_rfl }
open Go.RowKit in
/-- (*bytes.Buffer).WriteString: "WriteString appends the contents of s to the buffer, growing the buffer as needed. The return value n is the length of s; err is always nil." (LAID: no walk: one application.) -/
theorem Tryz.Buffer_WriteString (B b : Nat) (bs : List Value) (s : ByteArray) (w : World) (h : Lib.IsBuffer 112 5 B b bs w) (hBw : B ≤ w.heap.size) (h1 : ∀ v ∈ bs, v.oneCell' = true) (hlim : bs.length + s.size ≤ 140737488355328) :
    Calls Tryz.prog 95 #[.pointer (some ⟨b, 0, none⟩), .string s] w fun e w' => e = .returned (.tuple #[.int .i64 s.size, .nilIface]) ∧ Lib.IsBuffer 112 5 B b (bs ++ Lib.byteCells s.data.toList) w' ∧ Below B w w' := Any.Buffer_WriteString Tryz.laysM178 B b bs s w h hBw h1 hlim
def Tryz.laysM183_ren : Go.Shelf.Ren := ⟨fun | 183 => 96 | n => n, fun | 130 => 125 | 37 => 22 | 0 => 0 | 93 => 112 | 3 => 3 | 5 => 5 | 91 => 110 | n => n, fun | n => n⟩
theorem Tryz.laysM183 : Go.Proofs.LaysM.n183 Tryz.prog Tryz.laysM183_ren := {
  mixed := by kernel_rfl
  f183 := Tryz.func96.trans (congrArg some (by kernel_rfl))
  t0 := Tryz.underlying0
  a0 := Tryz.isAgg0
  z0 := Tryz.sizeOf0
  v0 := Tryz.zeroValue0
  t3 := Tryz.underlying3
  a3 := Tryz.isAgg3
  z3 := Tryz.sizeOf3
  v3 := Tryz.zeroValue3
  t37 := Tryz.underlying22
  a37 := Tryz.isAgg22
  z37 := Tryz.sizeOf22
  v37 := Tryz.zeroValue22
  t93 := Tryz.underlying112
  a93 := Tryz.isAgg112
  z93 := Tryz.sizeOf112
  v93 := Tryz.zeroValue112
  t130 := Tryz.underlying125
  a130 := Tryz.isAgg125
  z130 := Tryz.sizeOf125
  v130 := Tryz.zeroValue125
  t5 := Tryz.underlying5
  a5 := Tryz.isAgg5
  z5 := Tryz.sizeOf5
  v5 := Tryz.zeroValue5
  t91 := Tryz.underlying110
  a91 := Tryz.isAgg110
  z91 := Tryz.sizeOf110
  v91 := Tryz.zeroValue110
  i0 := by kernel_rfl
  i3 := by kernel_rfl
  i5 := by kernel_rfl
  i37 := by kernel_rfl
  i91 := by kernel_rfl
  i93 := by kernel_rfl
  i130 := by kernel_rfl }
open Go.RowKit in
/-- (*bytes.Buffer).Bytes: "Bytes returns a slice of length b.Len() holding the unread portion of the buffer. .. The slice aliases the buffer content at least until the next buffer modification": A SLICE THAT OWNS THE CELLS bs ('World.ownsRow': nil where nothing was ever written). The world is as it was but for the count of draws. (LAID: no walk: one application.) -/
theorem Tryz.Buffer_Bytes (B b : Nat) (bs : List Value) (w : World) (h : Lib.IsBuffer 112 5 B b bs w) :
    Calls Tryz.prog 96 #[.pointer (some ⟨b, 0, none⟩)] w fun e w' => ∃ v, e = .returned v ∧ w'.ownsRow B 5 1 v bs.length bs ∧ ∃ n, w' = w.drewN n := Any.Buffer_Bytes Tryz.laysM183 B b bs w h
end Go.Proofs
set_option linter.unusedVariables false
set_option linter.unusedSimpArgs false
namespace Go.Proofs.YtipleegkonhfcaaGreatDoor.E
open Go Go.RowKit Go.Shelf Go.Lib Go.Proofs.YtipleegkonhfcaaGreatDoorW.PrintWords Go.Proofs.YtipleegkonhfcaaGreatDoorW.PrintLast Go.Proofs.YtipleegkonhfcaaGreatDoorW.PrintMore Go.Proofs.YtipleegkonhfcaaGreatDoor.P Go.Proofs.YtipleegkonhfcaaGreatDoor.U Go.Proofs.YtipleegkonhfcaaGreatDoor.KH

theorem isBuffer_old {T e : TypeId} {B b : Nat} {bs : List Value} {w w' : World} (h : Lib.IsBuffer T e B b bs w) (hb : Below w.heap.size w w') : Lib.IsBuffer T e B b bs w' := by
  have hlt := h.lt
  obtain ⟨hB, v, lr, h1, h2, h3⟩ := h
  exact ⟨hB, v, lr, (hb.block b hlt).trans h1, pw_own_below h2 hb, h3⟩
theorem byteCells_append (a b : List UInt8) : Lib.byteCells (a ++ b) = Lib.byteCells a ++ Lib.byteCells b := by simp [Lib.byteCells]
theorem byteCells_one (l : List UInt8) : ∀ v ∈ Lib.byteCells l, v.oneCell' = true := by
  intro v hv
  obtain ⟨b, _, rfl⟩ := List.mem_map.1 hv
  rfl
theorem wrap_succ (i : Nat) (h : i < 9223372036854775807) : wrap64 ((i : Int) + 1) = ((i + 1 : Nat) : Int) := by unfold wrap64; omega
theorem room1 {a b x y n : Nat} (h : a + (x + 2 + y + 2) ≤ b) (h2 : b + 2 ≤ n) : a + (x + 2 + y + 2) ≤ n := by omega
def headB (h : S67) : List UInt8 := h.f0.data.toList ++ [58, 32] ++ h.f1.data.toList ++ [13, 10]
def headsB (l : List S67) : List UInt8 := l.flatMap headB
def numsU (l : List UInt8) : List Int := l.map fun b => (b.toNat : Int)
theorem encs_numsU (l : List UInt8) : encs (fun z : Int => Value.int .u8 z) (numsU l) = Lib.byteCells l := by
  simp [encs, numsU, Lib.byteCells]
theorem headsB_step (l : List S67) (i : Nat) (h : i < l.length) : headsB (l.take (i + 1)) = headsB (l.take i) ++ headB (rd_T67 l (i : Int)) := by
  have e : rd_T67 l (i : Int) = l[i] := by
    show l.getD (i : Int).toNat z67 = l[i]
    rw [Int.toNat_natCast, List.getD_eq_getElem?_getD, List.getElem?_eq_getElem h, Option.getD_some]
  rw [e, headsB, headsB, List.take_succ_eq_append_getElem h, List.flatMap_append]
  simp
theorem headsB_le (l : List S67) (i : Nat) (h : i < l.length) : (headsB (l.take i)).length + ((rd_T67 l (i : Int)).f0.size + 2 + (rd_T67 l (i : Int)).f1.size + 2) ≤ (headsB l).length := by
  have e := headsB_step l i h
  have hl : (headsB (l.take (i + 1))).length ≤ (headsB l).length := by
    conv => rhs; rw [← List.take_append_drop (i + 1) l]
    rw [headsB, headsB, List.flatMap_append, List.length_append]
    omega
  have hh : (headB (rd_T67 l (i : Int))).length = (rd_T67 l (i : Int)).f0.size + 2 + (rd_T67 l (i : Int)).f1.size + 2 := by
    unfold headB
    simp only [List.length_append, data_length]
    rfl
  rw [e, List.length_append, hh] at hl
  omega
def header_Print.f (k : Nat) (l0 : List S67) : Option (List Int × Int) := (header_Check.f k l0).bind fun e => if e = 0 then (if (headsB l0).length + 2 ≤ 140737488355328 then some (numsU (headsB l0 ++ [13, 10]), 0) else none) else some ([], e)
theorem header_Print.mono : ∀ a0 k, LeO (header_Print.f k a0) (header_Print.f (k + 1) a0) := by
  intro a0 k
  unfold header_Print.f
  exact LeO.bind (header_Check.mono a0 k) (fun _ => LeO.refl _)
set_option maxHeartbeats 8000000 in
set_option maxRecDepth 100000 in
theorem header_Print.calls (k : Nat) (A0 : Option Addr) (c0 : Nat) (l0 : List S67) (r1 : List Int) (r2 : Int) (w : World) (hLW : LW w) (hr0 : Kd.C k67 w A0 l0.length l0) (hc0 : l0.length ≤ c0) (h : header_Print.f k l0 = some (r1, r2)) :
    Calls Tryz.prog 63 #[.slice A0 l0.length c0] w fun e w' => ∃ v0_ : Value, e = .returned (.tuple #[v0_, .int .i64 r2]) ∧ Kd.R (Kd.int .u8) 5 w' w.heap.size (fun _ => True) v0_ r1 ∧ Below w.heap.size w w' := by
  obtain ⟨e, he, hr⟩ := Option.bind_eq_some_iff.mp h
  clear h
  have HE := Aside0.mk he
  have HLW := Aside0.mk hLW
  have HR0 := Aside0.mk hr0
  have HC0 := Aside0.mk hc0
  clear he hLW hr0 hc0
  by_cases c1 : e = 0
  · subst c1
    rw [if_pos rfl] at hr
    by_cases c2 : (headsB l0).length + 2 ≤ 140737488355328
    · rw [if_pos c2] at hr
      simp only [Option.some.injEq, Prod.mk.injEq] at hr
      obtain ⟨rfl, rfl⟩ := hr
      have C2 := Aside0.mk c2
      clear c2
      have hu0 := Tryz.underlying67
      go_enter Tryz.func63, Tryz.ntmps63
      go_wp2_with (go_at_call 67; refine (header_Check.calls k A0 c0 l0 0 _ HLW.out HR0.out HC0.out HE.out).mono ?_; rintro e w1 ⟨rfl, hb1⟩)
      have HB1 := Aside0.mk hb1
      clear hb1
      have HF := Aside0.mk (Lib.fresh_isBuffer 112 5 w1)
      have HB2 := Aside0.mk (below_alloc HB1.out (.cells #[.slice none 0 0, .int .i64 0, .int .i8 0] 112))
      generalize hb0 : w1.heap.size = b0 at *
      have HW0 := Aside0.mk (show w.heap.size ≤ b0 by rw [← hb0]; exact HB1.out.size)
      go_loopg [15] (l0.length + 1) (fun kq v15 w' => ∃ (i : Nat), v15 = .int .i64 i ∧ Aside0 (i ≤ l0.length) ∧ Aside0 (i + kq = l0.length + 1) ∧ Aside0 (Lib.IsBuffer 112 5 b0 b0 (Lib.byteCells (headsB (l0.take i))) w') ∧ Aside0 (Below w.heap.size w w') ∧ Aside0 (b0 ≤ w'.heap.size))
      case atStart => exact ⟨0, rfl, ⟨Nat.zero_le _⟩, ⟨Nat.zero_add _⟩, ⟨by rw [List.take_zero]; exact HF.out⟩, HB2, ⟨by simp; omega⟩⟩
      case round =>
        obtain ⟨i, rfl, HI, HKQ, hbuf, HB, hsz⟩ := hrel
        have hi := HI.out
        obtain ⟨k1, rfl⟩ : ∃ m, gk = m + 1 := ⟨gk - 1, by have := HKQ.out; omega⟩
        by_cases hlt : i < l0.length
        · have c2b : decide ((i : Int) < (l0.length : Int)) = true := decide_eq_true (by omega)
          have p1 : 0 ≤ (i : Int) := by omega
          have q1 : (i : Int) < (l0.length : Int) := by omega
          obtain ⟨ad, rfl, hx0, hx1⟩ := at_T67 HR0.out (i : Int) p1 q1
          replace hx0 := (HB.out.cell (World.block_lt_of_cell? w _ hx0)).trans hx0
          replace hx1 := (HB.out.cell (World.block_lt_of_cell? w _ hx1)).trans hx1
          rw [Int.toNat_natCast] at hx0 hx1
          have HBUF := hbuf
          have HSZ := hsz
          clear hbuf hsz
          have hle := headsB_le l0 i hlt
          have HLE := Aside0.mk hle
          have hc2 := C2.out
          have s1 : ¬ (9223372036854775807 < (rd_T67 l0 (i : Int)).f0.size + 2) := by omega
          have s2 : ¬ (9223372036854775807 < (rd_T67 l0 (i : Int)).f0.size + 2 + (rd_T67 l0 (i : Int)).f1.size) := by omega
          have s3 : ¬ (9223372036854775807 < (rd_T67 l0 (i : Int)).f0.size + 2 + (rd_T67 l0 (i : Int)).f1.size + 2) := by omega
          clear hle hc2
          go_wp2_with (first | ((with_reducible refine gate_dst (N := 7) rfl ?_); refine box_event ?hg (N := 7) ?hd (cs := #[.string (⟨#[]⟩ : ByteArray), .string (⟨#[]⟩ : ByteArray)]) (t := 67) ?hr ?_; (case hd => rfl); (case hg => rfl); (case hr => first | (go_simp; done) | (go_simp; rfl)); intro gb hg w7 hbox hb; have n1_ := Aside0.mk hbox; have n2_ := Aside0.mk hb; have n3_ := Aside0.mk (show wr.heap.size ≤ gb by rw [hg]; exact Nat.le_refl _); have BK := n1_; have HK := n2_; have HGE := n3_; clear n1_ n2_ n3_ hb hbox hg; have hcz0 : w7.cell? ⟨gb, 0, none⟩ = some (.string (⟨#[]⟩ : ByteArray)) := (blk_cell BK.out 0).trans rfl; have hcz1 : w7.cell? ⟨gb, 1, none⟩ = some (.string (⟨#[]⟩ : ByteArray)) := (blk_cell BK.out 1).trans rfl; have hfz0 := blk_frozen BK.out 0; have hfz1 := blk_frozen BK.out 1) | (go_at_call 95; refine (Tryz.Buffer_WriteString b0 b0 (Lib.byteCells (headsB (l0.take i))) _ _ (isBuffer_old HBUF.out ((HK.out.setCell (p := ⟨gb, 0, none⟩) HGE.out _).setCell (p := ⟨gb, 1, none⟩) HGE.out _)) (Nat.le_trans HSZ.out ((HK.out.setCell (p := ⟨gb, 0, none⟩) HGE.out _).setCell (p := ⟨gb, 1, none⟩) HGE.out _).size) (byteCells_one _) (by rw [Lib.byteCells_length]; have := HLE.out; have := C2.out; simp only [ByteArray.size_append]; exact room1 HLE.out C2.out)).mono ?_; rintro e w9 ⟨rfl, hbuf9, hb9⟩))
          have hmx : l0.length ≤ 9223372036854775807 := HR0.out.2.1
          have hwr : wrap64 ((i : Int) + 1) = ((i + 1 : Nat) : Int) := wrap_succ i (Nat.lt_of_lt_of_le hlt hmx)
          have HWR := Aside0.mk hwr
          clear hwr
          go_roundg k1
          case rel =>
            refine ⟨i + 1, congrArg (Value.int .i64) HWR.out, ⟨hlt⟩, ⟨by have := HKQ.out; omega⟩, ⟨?_⟩, ⟨(below_step HB.out ((HK.out.setCell (p := ⟨gb, 0, none⟩) HGE.out _).setCell (p := ⟨gb, 1, none⟩) HGE.out _)).trans (hb9.mono HW0.out)⟩, ⟨?_⟩⟩
            · rw [headsB_step l0 i hlt, byteCells_append]
              exact hbuf9
            · exact Nat.le_trans (Nat.le_trans HSZ.out ((HK.out.setCell (p := ⟨gb, 0, none⟩) HGE.out _).setCell (p := ⟨gb, 1, none⟩) HGE.out _).size) hb9.size
          case measure => omega
        · obtain rfl : i = l0.length := by omega
          have c2b : decide (((l0.length : Nat) : Int) < (l0.length : Int)) = false := decide_eq_false (by omega)
          have HBUF := hbuf
          have HSZ := hsz
          clear hbuf hsz
          rw [List.take_length] at HBUF
          go_wp2_with (first | (go_at_call 95; refine (Tryz.Buffer_WriteString b0 b0 (Lib.byteCells (headsB l0)) _ _ HBUF.out HSZ.out (byteCells_one _) (by rw [Lib.byteCells_length]; exact C2.out)).mono ?_; rintro e w9 ⟨rfl, hbuf9, hb9⟩) | (go_at_call 96; refine (Tryz.Buffer_Bytes b0 b0 _ _ hbuf9).mono ?_; rintro e w10 ⟨v, rfl, hown, n, rfl⟩))
          go_ret2
          refine ⟨v, rfl, ?_, ?_⟩
          · refine Kd.R_of_own (enc := fun z : Int => Value.int .u8 z) ?_ (fun _ _ => trivial)
            have e1 : Lib.byteCells (headsB l0) ++ Lib.byteCells [13, 10] = encs (fun z : Int => Value.int .u8 z) (numsU (headsB l0 ++ [13, 10])) := by rw [encs_numsU, byteCells_append]
            have e2 : (Lib.byteCells (headsB l0) ++ Lib.byteCells [13, 10]).length = (numsU (headsB l0 ++ [13, 10])).length := by simp [numsU, Lib.byteCells]
            have ho := hown
            rw [show Lib.byteCells ((⟨#[13, 10]⟩ : ByteArray).data.toList) = Lib.byteCells [13, 10] from rfl] at ho
            rw [e2, e1] at ho
            exact own_less ho HW0.out
          · exact pw_below_drewN (HB.out.trans (hb9.mono HW0.out)) n
    · rw [if_neg c2] at hr
      cases hr
  · rw [if_neg c1] at hr
    simp only [Option.some.injEq, Prod.mk.injEq] at hr
    obtain ⟨rfl, rfl⟩ := hr
    have d1 : (e == 0) = false := beq_eq_false_iff_ne.mpr c1
    go_enter Tryz.func63, Tryz.ntmps63
    go_wp2_with (go_at_call 67; refine (header_Check.calls k A0 c0 l0 e _ HLW.out HR0.out HC0.out HE.out).mono ?_; rintro e w1 ⟨rfl, hb1⟩)
    go_ret2
    exact ⟨_, rfl, Kd.R_nil _ _ _ _ _, hb1⟩
end Go.Proofs.YtipleegkonhfcaaGreatDoor.E
set_option linter.unusedVariables false
set_option linter.unusedSimpArgs false
namespace Go.Proofs.YtipleegkonhfcaaGreatDoor.E
open Go Go.RowKit Go.Shelf Go.Lib Go.Proofs.YtipleegkonhfcaaGreatDoorW.PrintWords Go.Proofs.YtipleegkonhfcaaGreatDoorW.PrintLast Go.Proofs.YtipleegkonhfcaaGreatDoorW.PrintMore Go.Proofs.YtipleegkonhfcaaGreatDoorV Go.Proofs.YtipleegkonhfcaaGreatDoor.KH Go.Proofs.YtipleegkonhfcaaGreatDoor.KN Go.Proofs.YtipleegkonhfcaaGreatDoor.U
/-- Three slices of bytes in a row. -/
theorem C_three {W : World} {g : Nat} {A1 A2 A3 : Option Addr} {c1 c2 c3 : Nat} {l1 l2 l3 : List Int} (h0 : W.cell? ⟨g, 0, none⟩ = some (.slice A1 l1.length c1)) (h1 : W.cell? ⟨g, 1, none⟩ = some (.slice A2 l2.length c2)) (h2 : W.cell? ⟨g, 2, none⟩ = some (.slice A3 l3.length c3))
    (r1 : Kd.C (Kd.int .u8) W A1 l1.length l1) (b1 : l1.length ≤ c1) (r2 : Kd.C (Kd.int .u8) W A2 l2.length l2) (b2 : l2.length ≤ c2) (r3 : Kd.C (Kd.int .u8) W A3 l3.length l3) (b3 : l3.length ≤ c3) :
    Kd.C (Kd.slice 5 (Kd.int .u8)) W (some ⟨g, 0, none⟩) [l1, l2, l3].length [l1, l2, l3] := by
  refine ⟨rfl, by simp, fun _ => ⟨_, rfl, fun j p hj => ?_⟩⟩
  have one : ∀ (A : Option Addr) (c : Nat) (l : List Int) (q : Nat), W.cell? ⟨g, q, none⟩ = some (.slice A l.length c) → Kd.C (Kd.int .u8) W A l.length l → l.length ≤ c → ∃ cs : List Value, cs.length = 1 ∧ (Kd.slice 5 (Kd.int .u8)).K W l cs ∧ ∀ i u, cs[i]? = some u → W.cell? ((⟨g, 0, none⟩ : Addr).add (q * 1 + i)) = some u := by
    intro A c l q hc hr hb
    refine ⟨[.slice A l.length c], rfl, ⟨A, c, rfl, hb, hr⟩, fun i u hu => ?_⟩
    cases i with
    | zero =>
      simp only [List.getElem?_cons_zero, Option.some.injEq] at hu
      subst hu
      rw [Nat.mul_one, Nat.add_zero, add_at0]
      exact hc
    | succ i => simp at hu
  match j, hj with
  | 0, hj => obtain rfl : l1 = p := by simpa using hj
             exact one A1 c1 l1 0 h0 r1 b1
  | 1, hj => obtain rfl : l2 = p := by simpa using hj
             exact one A2 c2 l2 1 h1 r2 b2
  | 2, hj => obtain rfl : l3 = p := by simpa using hj
             exact one A3 c3 l3 2 h2 r3 b3
  | j + 3, hj => simp at hj
def http_join.f (k : Nat) (a0 : ByteArray) (l1 : List S67) (l2 : List Int) : Option (List Int) := (header_Print.f k l1).bind fun h => if a0.size + 2 ≤ 140737488355328 then slices_Concat_byte_byte.f k [Go.Proofs.YtipleegkonhfcaaGreatDoorW.PrintWords.bytesOf (a0 ++ (⟨#[13, 10]⟩ : ByteArray)), h.1, l2] else none
theorem http_join.mono : ∀ a0 a1 a2 k, LeO (http_join.f k a0 a1 a2) (http_join.f (k + 1) a0 a1 a2) := by
  intro a0 a1 a2 k
  unfold http_join.f
  refine LeO.bind (header_Print.mono a1 k) (fun h => ?_)
  split
  · exact slices_Concat_byte_byte.mono _ k
  · exact LeO.refl _
set_option maxHeartbeats 4000000 in
set_option maxRecDepth 100000 in
theorem http_join.calls (k : Nat) (a0 : ByteArray) (A1 : Option Addr) (c1 : Nat) (l1 : List S67) (A2 : Option Addr) (c2 : Nat) (l2 r : List Int) (w : World) (hLW : LW w) (hr1 : Kd.C k67 w A1 l1.length l1) (hc1 : l1.length ≤ c1) (hr2 : Kd.C (Kd.int .u8) w A2 l2.length l2) (hc2 : l2.length ≤ c2) (h : http_join.f k a0 l1 l2 = some r) :
    Calls Tryz.prog 38 #[.string a0, .slice A1 l1.length c1, .slice A2 l2.length c2] w fun e w' => ∃ v0_ : Value, e = .returned v0_ ∧ Kd.R (Kd.int .u8) 5 w' w.heap.size (fun _ => True) v0_ r ∧ Below w.heap.size w w' := by
  obtain ⟨⟨hd, er⟩, he, hr⟩ := Option.bind_eq_some_iff.mp h
  clear h
  simp only at hr
  split at hr
  · rename_i hsz
    obtain ⟨yl, hyl⟩ : ∃ y : List Int, y = Go.Proofs.YtipleegkonhfcaaGreatDoorW.PrintWords.bytesOf (a0 ++ (⟨#[13, 10]⟩ : ByteArray)) := ⟨_, rfl⟩
    rw [← hyl] at hr
    have s1 : ¬ (9223372036854775807 < a0.size + 2) := by omega
    have hs2 : (a0 ++ (⟨#[13, 10]⟩ : ByteArray)).size ≤ 9223372036854775807 := by
      rw [ByteArray.size_append]
      show a0.size + 2 ≤ _
      omega
    have HS2 := Aside0.mk hs2
    have HYL := Aside0.mk hyl
    have HE := Aside0.mk he
    have HR := Aside0.mk hr
    have HLW := Aside0.mk hLW
    have HR1 := Aside0.mk hr1
    have HC1 := Aside0.mk hc1
    have HR2 := Aside0.mk hr2
    have HC2 := Aside0.mk hc2
    clear he hLW hr1 hc1 hr2 hc2 hsz hs2 hyl hr
    go_enter Tryz.func38, Tryz.ntmps38
    go_wp2_with (first
      | (go_at_call 63; refine (header_Print.calls k A1 c1 l1 hd er _ HLW.out HR1.out HC1.out HE.out).mono ?_; rintro e w1 ⟨v1, rfl, ho, hb⟩; have HB1 := Aside0.mk hb; obtain ⟨Ah, ch, eh⟩ := Kd.R_slice ho; subst eh; have HH1 := Aside0.mk (Kd.R_reads' ho).2.2; have HHC := Aside0.mk (Kd.R_reads' ho).2.1; clear ho hb)
      | ((with_reducible refine gate_dst (N := 16) rfl ?_); refine conv_str ?hg (N := 16) ?hd 9 22 5 (a0 ++ (⟨#[13, 10]⟩ : ByteArray)) Tryz.underlying9 Tryz.underlying22 Tryz.underlying5 HS2.out ?hr ?_; (case hd => rfl); (case hg => rfl); (case hr => first | rfl | (go_simp; done) | (go_simp; rfl)); intro Al cl w2 hl hcl hb; rw [← HYL.out] at hl hcl; rw [← HYL.out]; have HL2 := Aside0.mk hl; have HLC := Aside0.mk hcl; have HB2 := Aside0.mk (below_step HB1.out hb); have HH2 := Aside0.mk (Kd.C_below HH1.out hb); have HR22 := Aside0.mk (Kd.C_below HR2.out HB2.out); clear hl hcl hb)
      | (go_at_call 64; refine (slices_Concat_byte_byte.calls k _ _ [yl, hd, l2] r _ (LW.below HLW.out (below_alloc HB2.out _)) (C_three ((World.cell?_alloc_mark _ _ _ _ 0).trans rfl) ((World.cell?_alloc_mark _ _ _ _ 1).trans rfl) ((World.cell?_alloc_mark _ _ _ _ 2).trans rfl) (Kd.C_alloc HL2.out _) HLC.out (Kd.C_alloc HH2.out _) HHC.out (Kd.C_alloc HR22.out _) HC2.out) (Nat.le_refl _) HR.out).mono ?_; rintro e w3 ⟨v3, rfl, ho, hb⟩; have HO3 := Aside0.mk (Kd.R_lower ho (below_size (below_alloc HB2.out _))); have HB3 := Aside0.mk (below_step (below_alloc HB2.out _) hb); clear ho hb))
    go_ret
    exact ⟨_, rfl, HO3.out, HB3.out⟩
  · cases hr
end Go.Proofs.YtipleegkonhfcaaGreatDoor.E
