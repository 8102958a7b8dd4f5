/- The contract of header.Without, by hand: slices.Clone, slices.DeleteFunc over a closure, slices.ContainsFunc over a closure within. -/
import Derived.Test.YtfjfpgihgaiacaaDoorP3
import Derived.Lib.SliceRun
import Derived.LoopTactic
import Derived.Lib.SlBy
set_option linter.unusedVariables false
set_option linter.unusedSimpArgs false
namespace Go.Proofs.YtfjfpgihgaiacaaDoor.E
open Go Go.RowKit Go.Shelf Go.Lib Go.Proofs.YtfjfpgihgaiacaaDoorW.PrintWords Go.Proofs.YtfjfpgihgaiacaaDoorW.PrintLast Go.Proofs.YtfjfpgihgaiacaaDoorW.PrintMore Go.Proofs.YtfjfpgihgaiacaaDoor.P

abbrev MB : Nat := 140737488355328
/-- Names that are alike. -/
def sameB (a b : ByteArray) : Bool := (lowerOf a).toList == (lowerOf b).toList
theorem same_calls (a b : ByteArray) (w : World) (hLW : LW w) (ha : a.size ≤ MB) (hb : b.size ≤ MB) :
    Calls Tryd.prog 33 #[.string a, .string b] w fun e w' => e = .returned (.bool (sameB a b)) ∧ Below w.heap.size w w' := by
  refine header_same.calls a b _ w hLW ?_
  unfold header_same.f text_Lower.f
  rw [if_pos ha, if_pos hb]
  rfl
/-- The literal within: is a name alike to the header's, which lies in a variable of its own? -/
theorem inner_calls (B : Nat) (n v x : ByteArray) (w : World) (hLW : LW w) (hn : n.size ≤ MB) (hx : x.size ≤ MB)
    (h0 : w.cell? ⟨B, 0, none⟩ = some (.string n)) (h1 : w.cell? ⟨B, 1, none⟩ = some (.string v)) :
    Calls Tryd.prog 38 #[.string x, .pointer (some ⟨B, 0, none⟩)] w fun e w' => e = .returned (.bool (sameB n x)) ∧ Below w.heap.size w w' := by
  have HS := Aside0.mk (fun (W : World) (hW : LW W) => same_calls n x W hW hn hx)
  have HLW := Aside0.mk hLW
  clear hLW
  go_enter Tryd.func38, Tryd.ntmps38
  go_wp2_with (go_at_call 33; refine (HS.out _ HLW.out).mono ?_; rintro e w1 ⟨rfl, hb1⟩)
  go_ret
  exact ⟨rfl, hb1⟩
set_option maxHeartbeats 2000000 in
theorem idxS_calls (A1 : Option Addr) (c1 B : Nat) (ns : List ByteArray) (n v : ByteArray) (w : World) (hLW : LW w) (hr : Kd.C Kd.string w A1 ns.length ns) (hc : ns.length ≤ c1) (hn : n.size ≤ MB) (hns : ∀ x ∈ ns, x.size ≤ MB)
    (h0 : w.cell? ⟨B, 0, none⟩ = some (.string n)) (h1 : w.cell? ⟨B, 1, none⟩ = some (.string v)) :
    Calls Tryd.prog 58 #[.slice A1 ns.length c1, .func (.func 38) #[] #[.pointer (some ⟨B, 0, none⟩)]] w
      fun e w' => e = .returned (.int .i64 (Lib.idxBy (fun _ y => sameB n y) ns default)) ∧ Below w.heap.size w w' := by
  have eg : ∀ args W, (callFunc 38 args).run Tryd.prog W = .ok (.enter 38 args) W := enters_of Tryd.func38 (by kernel_rfl) rfl
  have HB0 := Aside0.mk (World.block_lt_of_cell? w _ h0)
  have HLW := Aside0.mk hLW
  have HR := Aside0.mk hr
  have HC0 := Aside0.mk h0
  have HC1 := Aside0.mk h1
  have HNS := Aside0.mk hns
  have hmx : ns.length ≤ 9223372036854775807 := hr.2.1
  clear hLW hr h0 h1 hns
  go_enter Tryd.func58, Tryd.ntmps58
  go_wp2
  go_loopg [5, 8] ns.length (fun gg _ s8 wr => ∃ kk : Nat, kk ≤ ns.length ∧ ns.length - kk ≤ gg ∧ s8 = .int .i64 kk ∧ Aside0 (Below w.heap.size w wr) ∧ Aside0 (∀ j, j < kk → sameB n ns[j]! = false))
  case atStart => exact ⟨0, Nat.zero_le _, by omega, rfl, ⟨Below.refl _ w⟩, ⟨fun j hj => absurd hj (Nat.not_lt_zero _)⟩⟩
  case round =>
    obtain ⟨kk, hkk, hg, rfl, BW, A⟩ := hrel
    by_cases hlt : kk < ns.length
    · have hltz : (kk : Int) < (ns.length : Int) := by omega
      have p1 : 0 ≤ (kk : Int) := by omega
      obtain ⟨ad, rfl, hx0⟩ := Kd.at_string HR.out (kk : Int) p1 hltz
      replace hx0 := (BW.out.cell (World.block_lt_of_cell? w _ hx0)).trans hx0
      rw [Int.toNat_natCast] at hx0
      have hy : rdOf ByteArray.empty ns (kk : Int) = ns[kk]! := by
        show ns.getD (kk : Int).toNat ByteArray.empty = _
        rw [Int.toNat_natCast, List.getD_eq_getElem?_getD, List.getElem?_eq_getElem hlt, Option.getD_some, getElem!_pos ns kk hlt]
      have hmem : ns[kk]! ∈ ns := by rw [getElem!_pos ns kk hlt]; exact List.getElem_mem hlt
      rw [hy] at hx0
      have hcall := inner_calls B n v ns[kk]! wr (LW.below HLW.out BW.out) hn (HNS.out _ hmem) ((BW.out.cell (p := ⟨B, 0, none⟩) HB0.out).trans HC0.out) ((BW.out.cell (p := ⟨B, 1, none⟩) HB0.out).trans HC1.out)
      clear hy hmem
      generalize hyy : ns[kk]! = y at hx0 hcall
      have HY := Aside0.mk hyy
      clear hyy
      cases hq : sameB n y with
      | true =>
        rw [hq] at hcall
        go_wp2_with (go_at_fn 38; refine hcall.mono ?_; rintro e w' ⟨rfl, hb'⟩)
        go_ret
        refine ⟨?_, below_step BW.out hb'⟩
        rw [show ns = ns.take ns.length from (List.take_length ..).symm, Lib.idxBy_hit (fun _ y => sameB n y) ns ns.length kk default hlt (Nat.le_refl _) (by show sameB n ns[kk]! = true; rw [HY.out]; exact hq) A.out]
        rfl
      | false =>
        rw [hq] at hcall
        go_wp2_with (go_at_fn 38; refine hcall.mono ?_; rintro e w' ⟨rfl, hb'⟩)
        go_roundg (ns.length - (kk + 1))
        case measure => omega
        case rel =>
          refine ⟨kk + 1, by omega, by omega, by go_num, ⟨below_step BW.out hb'⟩, ⟨fun j hj => ?_⟩⟩
          by_cases e : j = kk
          · subst e
            rw [HY.out]; exact hq
          · exact A.out j (by omega)
    · have hltz : ¬ (kk : Int) < (ns.length : Int) := by omega
      have : kk = ns.length := by omega
      subst this
      go_wp2
      go_ret
      refine ⟨?_, BW.out⟩
      have := Lib.idxBy_miss (fun _ y => sameB n y) ns ns.length default A.out
      rw [List.take_length] at this
      rw [this]
      rfl
def anyB (n : ByteArray) (ns : List ByteArray) : Bool := ns.any (sameB n)
theorem hasS_calls (A1 : Option Addr) (c1 B : Nat) (ns : List ByteArray) (n v : ByteArray) (w : World) (hLW : LW w) (hr : Kd.C Kd.string w A1 ns.length ns) (hc : ns.length ≤ c1) (hn : n.size ≤ MB) (hns : ∀ x ∈ ns, x.size ≤ MB)
    (h0 : w.cell? ⟨B, 0, none⟩ = some (.string n)) (h1 : w.cell? ⟨B, 1, none⟩ = some (.string v)) :
    Calls Tryd.prog 37 #[.slice A1 ns.length c1, .func (.func 38) #[] #[.pointer (some ⟨B, 0, none⟩)]] w
      fun e w' => e = .returned (.bool (anyB n ns)) ∧ Below w.heap.size w w' := by
  have e1 : anyB n ns = decide (0 ≤ Lib.idxBy (fun _ y => sameB n y) ns default) := (Lib.idxBy_nonneg_iff (fun _ y => sameB n y) ns default).symm
  rw [e1]
  have HC := Aside0.mk (idxS_calls A1 c1 B ns n v w hLW hr hc hn hns h0 h1)
  clear hLW hr hns h0 h1
  go_enter Tryd.func37, Tryd.ntmps37
  go_wp2_with (go_at_call 58; refine HC.out.mono ?_; rintro e w' ⟨rfl, hb'⟩)
  go_ret
  exact ⟨rfl, hb'⟩
end Go.Proofs.YtfjfpgihgaiacaaDoor.E
