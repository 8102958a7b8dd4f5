/- Words of this session for the printed walks: a conversion of a text to bytes makes a row that is only read. -/
import Derived.Test.YtipleegkonhfcaaGreatDoorWMore
import Derived.Lib.SlBytesConst
namespace Go.Proofs.YtipleegkonhfcaaGreatDoorV
open Go.RowKit Go.Proofs.YtipleegkonhfcaaGreatDoorW.PrintWords Go.Proofs.YtipleegkonhfcaaGreatDoorW.PrintLast Go.Proofs.YtipleegkonhfcaaGreatDoorW.PrintMore

theorem isEmpty_bne (l : List UInt8) : l.isEmpty = !(l != []) := by cases l <;> rfl
theorem isEmpty_beq (l : List UInt8) : l.isEmpty = (l == []) := by cases l <;> rfl
theorem add_at0 (b j : Nat) : (⟨b, 0, none⟩ : Addr).add j = ⟨b, j, none⟩ := by unfold Addr.add; split <;> simp_all
/-- A row of bytes whose cells are known is read. -/
theorem C_bytes {w : World} {b : Nat} {xs : List Int} (hm : xs.length ≤ 9223372036854775807) (h : ∀ (j : Nat) p, xs[j]? = some p → w.cell? ⟨b, j, none⟩ = some (.int .u8 p)) : Kd.C (Kd.int .u8) w (some ⟨b, 0, none⟩) xs.length xs := by
  refine ⟨rfl, hm, fun _ => ⟨_, rfl, fun j p hp => ⟨[.int .u8 p], rfl, rfl, fun i u hu => ?_⟩⟩⟩
  cases i with
  | zero =>
    obtain rfl : Value.int .u8 p = u := by simpa using hu
    have e : j * (Kd.int .u8).sz + 0 = j := by show j * 1 + 0 = j; omega
    rw [e, add_at0]
    exact h j p hp
  | succ i => simp at hu
section
variable {P : Program} {ops : Array Oper} {rest : List Oper} {o : Oper} {a : Act} {Q : Exit → Act → World → Prop}
/-- '[]byte(s)'. -/
theorem conv_str {W : World} (hgd : o.guard = none) {N : Tmp} (_hd : o.dst = some N) (src dst e : TypeId) (s : ByteArray) (hs : P.underlying src = some .string) (hdst : P.underlying dst = some (.slice e)) (he : P.underlying e = some (.int .u8)) (hm : s.size ≤ 9223372036854775807)
    (hrun : (execOp a.eval o).run P W = ((convert src dst (.string s)).run P W).andThen (fun v w => .ok (.value v) w))
    (h : ∀ A c w1, Kd.C (Kd.int .u8) w1 A (bytesOf s).length (bytesOf s) → (bytesOf s).length ≤ c → Below W.heap.size W w1 → wpList P ops Q rest (a.put o.dst (.slice A (bytesOf s).length c)) w1) : wpList P ops Q (o :: rest) a W := by
  have hl : (bytesOf s).length = s.size := bytesOf_length s
  have hc := Lib.run_convert_string_bytes (P := P) W src dst e s hs hdst he
  rw [hc] at hrun
  refine Kd.event_run hgd hrun ?_
  rw [← hl]
  refine h _ _ _ (C_bytes (by rw [hl]; exact hm) fun j p hp => ?_) (by rw [hl]; exact grownCap_ge _ _ _ _) ⟨rfl, rfl, rfl, by rw [Lib.bytesWorld_size]; omega, fun k hk => Lib.bytesWorld_at_old W e s k hk⟩
  obtain ⟨hj, rfl⟩ := List.getElem?_eq_some_iff.1 hp
  have hj' : j < s.size := by rw [← hl]; exact hj
  rw [Lib.bytesWorld_cell W e s j hj']
  simp [bytesOf, List.getD, hj']
/-- '[]byte("..")': a literal's row, and its mark. -/
theorem conv_lit {o2 : Oper} {W : World} (hgd : o.guard = none) (hgd2 : o2.guard = none) {N : Tmp} (_hd : o.dst = some N) (T e : TypeId) (xs : List Int) (ht : P.underlying T = some (.slice e)) (he : P.underlying e = some (.int .u8)) (hm : xs.length ≤ 9223372036854775807)
    (hrun : (execOp a.eval o).run P W = .ok (.value (.slice (some ⟨W.heap.size, 0, none⟩) xs.length xs.length)) (W.alloc (.cells (nums .u8 xs).toArray e)))
    (hrun2 : ∀ W2, (execOp (a.put o.dst (.slice (some ⟨W.heap.size, 0, none⟩) xs.length xs.length)).eval o2).run P W2 = ((convert T T (.slice (some ⟨W.heap.size, 0, none⟩) xs.length xs.length)).run P W2).andThen (fun v w => .ok (.value v) w))
    (h : ∀ A c w1, Kd.C (Kd.int .u8) w1 A xs.length xs → xs.length ≤ c → Below W.heap.size W w1 → wpList P ops Q rest ((a.put o.dst (.slice A xs.length c)).put o2.dst (.slice A xs.length c)) w1) : wpList P ops Q (o :: o2 :: rest) a W := by
  refine Kd.event_run hgd hrun ?_
  have h2 := hrun2 (W.alloc (.cells (nums .u8 xs).toArray e))
  rw [Lib.run_convert_bytes_const W T e (nums .u8 xs).toArray xs.length xs.length ht he] at h2
  refine Kd.event_run hgd2 h2 ?_
  refine h _ _ _ (C_bytes hm fun j p hp => ?_) (Nat.le_refl _) (below_alloc (Below.refl _ _) _)
  rw [World.cell?_alloc_mark]
  simp [nums, hp]
end
end Go.Proofs.YtipleegkonhfcaaGreatDoorV
