/- The contract of cidr.Allow, by hand: slices.ContainsFunc over nets. -/
import Derived.Test.YtdopafhppaalfaaGreatDoorM3
set_option linter.unusedVariables false
set_option linter.unusedSimpArgs false
namespace Go.Proofs.YtdopafhppaalfaaGreatDoor.E
open Go Go.RowKit Go.Shelf Go.Lib Go.Proofs.YtdopafhppaalfaaGreatDoorW.PrintWords Go.Proofs.YtdopafhppaalfaaGreatDoorW.PrintLast Go.Proofs.YtdopafhppaalfaaGreatDoorW.PrintMore Go.Proofs.YtdopafhppaalfaaGreatDoorV Go.Proofs.YtdopafhppaalfaaGreatDoor.P Go.Proofs.YtdopafhppaalfaaGreatDoor.G

set_option maxHeartbeats 8000000 in
set_option maxRecDepth 100000 in
theorem idxN_calls (g : FuncId) (lb : Array Value) (eg : ∀ args W, (callFunc g args).run Tryz.prog W = .ok (.enter g args) W) (p : S26 → Bool) (A0 : Option Addr) (c0 : Nat) (l : List S26) (w : World) (hr0 : Kd.C k26 w A0 l.length l)
    (hp : ∀ W x, x ∈ l → Below w.heap.size w W → Calls Tryz.prog g (#[.agg (encN x).toArray] ++ lb) W fun e w' => e = .returned (.bool (p x)) ∧ Below W.heap.size W w') :
    Calls Tryz.prog 56 #[.slice A0 l.length c0, .func (.func g) #[] lb] w
      fun e w' => e = .returned (.int .i64 (Lib.idxBy (fun _ y => p y) l default)) ∧ Below w.heap.size w w' := by
  have HR0 := Aside0.mk hr0
  have HP := Aside0.mk hp
  have hmx : l.length ≤ 9223372036854775807 := hr0.2.1
  have hu34 := Tryz.underlying26
  clear hr0 hp
  go_enter Tryz.func56, Tryz.ntmps56
  go_wp2
  go_loopg [5, 8] l.length (fun gg _ s8 wr => ∃ kk : Nat, kk ≤ l.length ∧ l.length - kk ≤ gg ∧ s8 = .int .i64 kk ∧ Aside0 (Below w.heap.size w wr) ∧ Aside0 (∀ j, j < kk → p l[j]! = false))
  case atStart => exact ⟨0, Nat.zero_le _, by omega, rfl, ⟨Below.refl _ w⟩, ⟨fun j hj => absurd hj (Nat.not_lt_zero _)⟩⟩
  case round =>
    obtain ⟨kk, hkk, hg, rfl, BW, A⟩ := hrel
    by_cases hlt : kk < l.length
    · have hltz : (kk : Int) < (l.length : Int) := by omega
      have p1 : 0 ≤ (kk : Int) := by omega
      obtain ⟨ad, rfl, hx0, hx1, hx2, hx3, hx4, hx5, hx6, hx7, hx8, hx9, hx10, hx11, hx12, hx13, hx14, hx15, hx16, hx17⟩ := at_T26 HR0.out (kk : Int) p1 hltz
      replace hx0 := (BW.out.cell (World.block_lt_of_cell? w _ hx0)).trans hx0
      replace hx1 := (BW.out.cell (World.block_lt_of_cell? w _ hx1)).trans hx1
      replace hx2 := (BW.out.cell (World.block_lt_of_cell? w _ hx2)).trans hx2
      replace hx3 := (BW.out.cell (World.block_lt_of_cell? w _ hx3)).trans hx3
      replace hx4 := (BW.out.cell (World.block_lt_of_cell? w _ hx4)).trans hx4
      replace hx5 := (BW.out.cell (World.block_lt_of_cell? w _ hx5)).trans hx5
      replace hx6 := (BW.out.cell (World.block_lt_of_cell? w _ hx6)).trans hx6
      replace hx7 := (BW.out.cell (World.block_lt_of_cell? w _ hx7)).trans hx7
      replace hx8 := (BW.out.cell (World.block_lt_of_cell? w _ hx8)).trans hx8
      replace hx9 := (BW.out.cell (World.block_lt_of_cell? w _ hx9)).trans hx9
      replace hx10 := (BW.out.cell (World.block_lt_of_cell? w _ hx10)).trans hx10
      replace hx11 := (BW.out.cell (World.block_lt_of_cell? w _ hx11)).trans hx11
      replace hx12 := (BW.out.cell (World.block_lt_of_cell? w _ hx12)).trans hx12
      replace hx13 := (BW.out.cell (World.block_lt_of_cell? w _ hx13)).trans hx13
      replace hx14 := (BW.out.cell (World.block_lt_of_cell? w _ hx14)).trans hx14
      replace hx15 := (BW.out.cell (World.block_lt_of_cell? w _ hx15)).trans hx15
      replace hx16 := (BW.out.cell (World.block_lt_of_cell? w _ hx16)).trans hx16
      replace hx17 := (BW.out.cell (World.block_lt_of_cell? w _ hx17)).trans hx17
      rw [Int.toNat_natCast] at hx0 hx1 hx2 hx3 hx4 hx5 hx6 hx7 hx8 hx9 hx10 hx11 hx12 hx13 hx14 hx15 hx16 hx17
      have hy : rd_T26 l (kk : Int) = l[kk]! := by
        show l.getD (kk : Int).toNat z26 = _
        rw [Int.toNat_natCast, List.getD_eq_getElem?_getD, List.getElem?_eq_getElem hlt, Option.getD_some, getElem!_pos l kk hlt]
      have hmem : l[kk]! ∈ l := by rw [getElem!_pos l kk hlt]; exact List.getElem_mem hlt
      rw [hy] at hx0 hx1 hx2 hx3 hx4 hx5 hx6 hx7 hx8 hx9 hx10 hx11 hx12 hx13 hx14 hx15 hx16 hx17
      have hcall := HP.out wr l[kk]! hmem BW.out
      clear hy hmem
      generalize hyy : l[kk]! = y at hx0 hx1 hx2 hx3 hx4 hx5 hx6 hx7 hx8 hx9 hx10 hx11 hx12 hx13 hx14 hx15 hx16 hx17 hcall
      have HY := Aside0.mk hyy
      clear hyy
      cases hq : p y with
      | true =>
        rw [hq] at hcall
        go_wp2_with (go_at_fn g; refine hcall.mono ?_; rintro e w' ⟨rfl, hb'⟩)
        go_ret
        refine ⟨?_, below_step BW.out hb'⟩
        rw [show l = l.take l.length from (List.take_length ..).symm, Lib.idxBy_hit (fun _ y => p y) l l.length kk default hlt (Nat.le_refl _) (by show p l[kk]! = true; rw [HY.out]; exact hq) A.out]
        rfl
      | false =>
        rw [hq] at hcall
        go_wp2_with (go_at_fn g; refine hcall.mono ?_; rintro e w' ⟨rfl, hb'⟩)
        go_roundg (l.length - (kk + 1))
        case measure => omega
        case rel =>
          refine ⟨kk + 1, by omega, by omega, by go_num, ⟨below_step BW.out hb'⟩, ⟨fun j hj => ?_⟩⟩
          by_cases e : j = kk
          · subst e
            rw [HY.out]; exact hq
          · exact A.out j (by omega)
    · have hltz : ¬ (kk : Int) < (l.length : Int) := by omega
      have : kk = l.length := by omega
      subst this
      go_wp2
      go_ret
      refine ⟨?_, BW.out⟩
      have := Lib.idxBy_miss (fun _ y => p y) l l.length default A.out
      rw [List.take_length] at this
      rw [this]
      rfl
theorem hasN_calls (g : FuncId) (lb : Array Value) (eg : ∀ args W, (callFunc g args).run Tryz.prog W = .ok (.enter g args) W) (p : S26 → Bool) (A0 : Option Addr) (c0 : Nat) (l : List S26) (w : World) (hr0 : Kd.C k26 w A0 l.length l)
    (hp : ∀ W x, x ∈ l → Below w.heap.size w W → Calls Tryz.prog g (#[.agg (encN x).toArray] ++ lb) W fun e w' => e = .returned (.bool (p x)) ∧ Below W.heap.size W w') :
    Calls Tryz.prog 36 #[.slice A0 l.length c0, .func (.func g) #[] lb] w
      fun e w' => e = .returned (.bool (l.any p)) ∧ Below w.heap.size w w' := by
  have e1 : l.any p = decide (0 ≤ Lib.idxBy (fun _ y => p y) l default) := (Lib.idxBy_nonneg_iff (fun _ y => p y) l default).symm
  rw [e1]
  have HC := Aside0.mk (idxN_calls g lb eg p A0 c0 l w hr0 hp)
  clear hr0 hp
  go_enter Tryz.func36, Tryz.ntmps36
  go_wp2_with (go_at_call 56; refine HC.out.mono ?_; rintro e w' ⟨rfl, hb'⟩)
  go_ret
  exact ⟨rfl, hb'⟩
end Go.Proofs.YtdopafhppaalfaaGreatDoor.E
