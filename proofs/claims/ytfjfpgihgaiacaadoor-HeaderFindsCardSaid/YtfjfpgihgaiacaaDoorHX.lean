/- The contract of header.Without, by hand: the literal, and slices.IndexFunc over it. -/
import Derived.Test.YtfjfpgihgaiacaaDoorHW
set_option linter.unusedVariables false
set_option linter.unusedSimpArgs false
namespace Go.Proofs.YtfjfpgihgaiacaaDoor.E
open Go Go.RowKit Go.Shelf Go.Lib Go.Proofs.YtfjfpgihgaiacaaDoorW.PrintWords Go.Proofs.YtfjfpgihgaiacaaDoorW.PrintLast Go.Proofs.YtfjfpgihgaiacaaDoorW.PrintMore Go.Proofs.YtfjfpgihgaiacaaDoor.P

instance : Inhabited S39 := ⟨z39⟩
/-- The literal: are the header's name and some name alike? The names lie in a variable. -/
theorem outer_calls (Bn : Nat) (A1 : Option Addr) (c1 : Nat) (ns : List ByteArray) (h : S39) (w : World) (hLW : LW w) (hr : Kd.C Kd.string w A1 ns.length ns) (hc : ns.length ≤ c1) (hn : h.f0.size ≤ MB) (hns : ∀ x ∈ ns, x.size ≤ MB)
    (hv : w.cell? ⟨Bn, 0, none⟩ = some (.slice A1 ns.length c1)) :
    Calls Tryd.prog 36 #[.agg #[.string h.f0, .string h.f1], .pointer (some ⟨Bn, 0, none⟩)] w fun e w' => e = .returned (.bool (anyB h.f0 ns)) ∧ Below w.heap.size w w' := by
  have HC := Aside0.mk (fun (W : World) (B : Nat) (hLW : LW W) (hr : Kd.C Kd.string W A1 ns.length ns) (h0 : W.cell? ⟨B, 0, none⟩ = some (.string h.f0)) (h1 : W.cell? ⟨B, 1, none⟩ = some (.string h.f1)) => hasS_calls A1 c1 B ns h.f0 h.f1 W hLW hr hc hn hns h0 h1)
  have HLW := Aside0.mk hLW
  have HR := Aside0.mk hr
  have HV := Aside0.mk hv
  clear hLW hr hns hv
  go_enter Tryd.func36, Tryd.ntmps36
  go_wp2_with (first | ((with_reducible refine gate_dst (N := 2) rfl ?_); refine box_event ?hg (N := 2) ?hd (cs := #[.string h.f0, .string h.f1]) (t := 39) ?hr ?_; (case hd => rfl); (case hg => rfl); (case hr => first | (go_simp; done) | (go_simp; rfl)); intro gb hg w7 hbox hb; have hv7 := (hb.cell (World.block_lt_of_cell? w _ HV.out)).trans HV.out; have BK := Aside0.mk hbox; have HB := Aside0.mk hb; clear hbox hb hg) | (go_at_call 37; refine (HC.out _ gb (LW.below HLW.out HB.out) (Kd.C_below HR.out HB.out) (blk_cell BK.out 0) (blk_cell BK.out 1)).mono ?_; rintro e w1 ⟨rfl, hb1⟩))
  go_ret
  exact ⟨rfl, below_step HB.out hb1⟩
set_option maxHeartbeats 2000000 in
theorem idxH_calls (Bn : Nat) (A1 : Option Addr) (c1 : Nat) (ns : List ByteArray) (A0 : Option Addr) (c0 : Nat) (l : List S39) (w : World) (hLW : LW w) (hr : Kd.C Kd.string w A1 ns.length ns) (hc : ns.length ≤ c1) (hns : ∀ x ∈ ns, x.size ≤ MB)
    (hv : w.cell? ⟨Bn, 0, none⟩ = some (.slice A1 ns.length c1)) (hl : ∀ h ∈ l, h.f0.size ≤ MB) (hr0 : Kd.C k39 w A0 l.length l) :
    Calls Tryd.prog 57 #[.slice A0 l.length c0, .func (.func 36) #[] #[.pointer (some ⟨Bn, 0, none⟩)]] w
      fun e w' => e = .returned (.int .i64 (Lib.idxBy (fun _ y => anyB y.f0 ns) l default)) ∧ Below w.heap.size w w' := by
  have eg : ∀ args W, (callFunc 36 args).run Tryd.prog W = .ok (.enter 36 args) W := enters_of Tryd.func36 (by kernel_rfl) rfl
  have HB0 := Aside0.mk (World.block_lt_of_cell? w _ hv)
  have HLW := Aside0.mk hLW
  have HR := Aside0.mk hr
  have HR0 := Aside0.mk hr0
  have HV := Aside0.mk hv
  have HNS := Aside0.mk hns
  have HL := Aside0.mk hl
  have hmx : l.length ≤ 9223372036854775807 := hr0.2.1
  have hu39 := Tryd.underlying39
  clear hLW hr hr0 hv hns hl
  go_enter Tryd.func57, Tryd.ntmps57
  go_wp2
  go_loopg [5, 8] l.length (fun gg _ s8 wr => ∃ kk : Nat, kk ≤ l.length ∧ l.length - kk ≤ gg ∧ s8 = .int .i64 kk ∧ Aside0 (Below w.heap.size w wr) ∧ Aside0 (∀ j, j < kk → anyB (l[j]!).f0 ns = false))
  case atStart => exact ⟨0, Nat.zero_le _, by omega, rfl, ⟨Below.refl _ w⟩, ⟨fun j hj => absurd hj (Nat.not_lt_zero _)⟩⟩
  case round =>
    obtain ⟨kk, hkk, hg, rfl, BW, A⟩ := hrel
    by_cases hlt : kk < l.length
    · have hltz : (kk : Int) < (l.length : Int) := by omega
      have p1 : 0 ≤ (kk : Int) := by omega
      obtain ⟨ad, rfl, hx0, hx1⟩ := at_T39 HR0.out (kk : Int) p1 hltz
      replace hx0 := (BW.out.cell (World.block_lt_of_cell? w _ hx0)).trans hx0
      replace hx1 := (BW.out.cell (World.block_lt_of_cell? w _ hx1)).trans hx1
      rw [Int.toNat_natCast] at hx0 hx1
      have hy : rd_T39 l (kk : Int) = l[kk]! := by
        show l.getD (kk : Int).toNat z39 = _
        rw [Int.toNat_natCast, List.getD_eq_getElem?_getD, List.getElem?_eq_getElem hlt, Option.getD_some, getElem!_pos l kk hlt]
      have hmem : l[kk]! ∈ l := by rw [getElem!_pos l kk hlt]; exact List.getElem_mem hlt
      rw [hy] at hx0 hx1
      have hcall := outer_calls Bn A1 c1 ns l[kk]! wr (LW.below HLW.out BW.out) (Kd.C_below HR.out BW.out) hc (HL.out _ hmem) HNS.out ((BW.out.cell (p := ⟨Bn, 0, none⟩) HB0.out).trans HV.out)
      clear hy hmem
      generalize hyy : l[kk]! = y at hx0 hx1 hcall
      have HY := Aside0.mk hyy
      clear hyy
      cases hq : anyB y.f0 ns with
      | true =>
        rw [hq] at hcall
        go_wp2_with (go_at_fn 36; refine hcall.mono ?_; rintro e w' ⟨rfl, hb'⟩)
        go_ret
        refine ⟨?_, below_step BW.out hb'⟩
        rw [show l = l.take l.length from (List.take_length ..).symm, Lib.idxBy_hit (fun _ y => anyB y.f0 ns) l l.length kk default hlt (Nat.le_refl _) (by show anyB (l[kk]!).f0 ns = true; rw [HY.out]; exact hq) A.out]
        rfl
      | false =>
        rw [hq] at hcall
        go_wp2_with (go_at_fn 36; refine hcall.mono ?_; rintro e w' ⟨rfl, hb'⟩)
        go_roundg (l.length - (kk + 1))
        case measure => omega
        case rel =>
          refine ⟨kk + 1, by omega, by omega, by go_num, ⟨below_step BW.out hb'⟩, ⟨fun j hj => ?_⟩⟩
          by_cases e : j = kk
          · subst e
            rw [HY.out]; exact hq
          · exact A.out j (by omega)
    · have hltz : ¬ (kk : Int) < (l.length : Int) := by omega
      have : kk = l.length := by omega
      subst this
      go_wp2
      go_ret
      refine ⟨?_, BW.out⟩
      have := Lib.idxBy_miss (fun _ y => anyB y.f0 ns) l l.length default A.out
      rw [List.take_length] at this
      rw [this]
      rfl
end Go.Proofs.YtfjfpgihgaiacaaDoor.E
