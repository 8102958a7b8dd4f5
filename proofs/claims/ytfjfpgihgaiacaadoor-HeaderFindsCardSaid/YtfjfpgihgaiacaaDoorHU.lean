/- The contract of header.Without, by hand. -/
import Derived.Test.YtfjfpgihgaiacaaDoorHV
set_option linter.unusedVariables false
set_option linter.unusedSimpArgs false
namespace Go.Proofs.YtfjfpgihgaiacaaDoor.E
open Go Go.RowKit Go.Shelf Go.Lib Go.Proofs.YtfjfpgihgaiacaaDoorW.PrintWords Go.Proofs.YtfjfpgihgaiacaaDoorW.PrintLast Go.Proofs.YtfjfpgihgaiacaaDoorW.PrintMore Go.Proofs.YtfjfpgihgaiacaaDoor.P

/-- slices.DeleteFunc over a row of the call's own, or none. -/
theorem del_own (Bn : Nat) (A1 : Option Addr) (c1 : Nat) (ns : List ByteArray) (base : Nat) (v : Value) (l : List S39) (w : World) (hLW : LW w) (hr : Kd.C Kd.string w A1 ns.length ns) (hc : ns.length ≤ c1) (hns : ∀ x ∈ ns, x.size ≤ MB)
    (hv : w.cell? ⟨Bn, 0, none⟩ = some (.slice A1 ns.length c1)) (hl : ∀ h ∈ l, h.f0.size ≤ MB) (ho : Kd.R k39 39 w base (fun _ => True) v l)
    (hBn : Bn < base) (hbs : base ≤ w.heap.size) (hLB : ∀ W, Below base w W → LW W ∧ Kd.C Kd.string W A1 ns.length ns) :
    Calls Tryd.prog 34 #[v, .func (.func 36) #[] #[.pointer (some ⟨Bn, 0, none⟩)]] w
      fun e w' => ∃ v0_ : Value, e = .returned v0_ ∧ Kd.R k39 39 w' base (fun _ => True) v0_ (l.filter fun x => !anyB x.f0 ns) ∧ Below base w w' := by
  obtain ⟨A, c, ev, hle, hC⟩ := Kd.R_reads ho
  obtain ⟨_, inner, how, hrp⟩ := ho
  have hin : inner = enc2 l := reps_enc2 (fun x cs h => k39_openM h) l inner hrp
  subst hin
  obtain ⟨hlen, ⟨rfl, hn⟩ | ⟨g, cap, cur, rfl, hg, hh, h1, h2, h3, h4⟩⟩ := how
  · have hln : l = [] := List.length_eq_zero_iff.1 hn
    subst hln
    have HIF := Aside0.mk (idxH_calls Bn A1 c1 ns none 0 [] w hLW hr hc hns hv hl ⟨rfl, by simp, fun h => absurd h (by simp)⟩)
    clear hLW hr hns hv hl hC hLB hrp hlen hn ev hle
    go_enter Tryd.func34, Tryd.ntmps34
    go_wp2_with (go_at_call 57; refine HIF.out.mono ?_; rintro e w1 ⟨rfl, hb1⟩)
    go_ret
    exact ⟨_, rfl, Kd.R_nil _ _ _ _ _, hb1.mono hbs⟩
  · injection ev with e1 e2 e3
    subst e1
    rw [show k39.sz = 2 from rfl] at h3 h4
    have hcur : cur = (enc2 l ++ cur.toList.drop (l.length * 2)).toArray := by
      apply Array.ext'
      rw [List.toList_toArray, ← h4, List.take_append_drop]
    have hmax : cap ≤ 9223372036854775807 := by unfold maxLen at h2; omega
    rw [hcur] at hh
    refine (del_calls Bn A1 c1 ns g cap l (cur.toList.drop (l.length * 2)) w hLW hr hc hns hv hl hC hh h1 hmax base hg (Nat.lt_of_lt_of_le hBn hg) (fun W hW => hLB W (hW.mono hg))).mono ?_
    rintro e w' ⟨rfl, ⟨cur2, c1', c2, c3⟩, hb⟩
    have hfl : (l.filter fun x => !anyB x.f0 ns).length ≤ l.length := List.length_filter_le _ _
    refine ⟨_, rfl, ⟨fun _ _ => trivial, enc2 (l.filter fun x => !anyB x.f0 ns), ⟨enc2_len _, Or.inr ⟨g, cap, _, rfl, hg, c3, Nat.le_trans hfl h1, h2, ?_, ?_⟩⟩, enc2_reps (fun x => k39_mkM _ _ _ _) _⟩, hb.mono hg⟩
    · have e5 : cur.size = (enc2 l ++ cur.toList.drop (l.length * 2)).length := by rw [← List.size_toArray, ← hcur]
      rw [List.length_append, enc2_len] at e5
      rw [List.size_toArray, List.length_append, enc2_len, c1', ← e5, h3]; rfl
    · rw [List.toList_toArray]
      show (enc2 cur2 ++ _).take ((l.filter fun x => !anyB x.f0 ns).length * 2) = _
      rw [enc2_take _ _ _ (by omega), c2]
def header_Without.f (l0 : List S39) (l1 : List ByteArray) : Option (List S39) := if (∀ h ∈ l0, h.f0.size ≤ MB) ∧ (∀ x ∈ l1, x.size ≤ MB) ∧ l0.length ≤ 1000000 then some (l0.filter fun x => !anyB x.f0 l1) else none
set_option maxHeartbeats 1000000 in
theorem header_Without.calls (A0 : Option Addr) (c0 : Nat) (l0 : List S39) (A1 : Option Addr) (c1 : Nat) (l1 : List ByteArray) (r : List S39) (w : World) (hLW : LW w) (hr0 : Kd.C k39 w A0 l0.length l0) (hc0 : l0.length ≤ c0) (hr1 : Kd.C Kd.string w A1 l1.length l1) (hc1 : l1.length ≤ c1) (h : header_Without.f l0 l1 = some r) :
    Calls Tryd.prog 18 #[.slice A0 l0.length c0, .slice A1 l1.length c1] w fun e w' => ∃ v0_ : Value, e = .returned v0_ ∧ Kd.R k39 39 w' w.heap.size (fun _ => True) v0_ r ∧ Below w.heap.size w w' := by
  unfold header_Without.f at h
  split at h
  · rename_i hh
    obtain ⟨hl, hns, hn⟩ := hh
    obtain rfl := Option.some.inj h
    clear h
    have HLW := Aside0.mk hLW
    have HR0 := Aside0.mk hr0
    have HR1 := Aside0.mk hr1
    have HL := Aside0.mk hl
    have HNS := Aside0.mk hns
    clear hLW hr0 hr1 hl hns
    go_enter Tryd.func18, Tryd.ntmps18
    go_wp2_with (first | ((with_reducible refine gate_dst (N := 3) rfl ?_); refine box_event ?hg (N := 3) ?hd (cs := #[.slice A1 l1.length c1]) (t := 30) ?hr ?_; (case hd => rfl); (case hg => rfl); (case hr => first | (go_simp; done) | (go_simp; rfl)); intro gb hg w7 hbox hb; have HGE := Aside0.mk (show w.heap.size ≤ gb by rw [hg]; exact Nat.le_refl _); have BK7 := Aside0.mk hbox; have HB7 := Aside0.mk hb; have HLT := Aside0.mk (blk_lt hbox); clear hbox hb hg) | (go_at_call 35; refine (clone_calls A0 c0 l0 _ (Kd.C_below HR0.out HB7.out) hn).mono ?_; rintro e w8 ⟨v8, rfl, ho8, hb8⟩; have HO8 := Aside0.mk ho8; have HB8 := Aside0.mk hb8; have HALL := Aside0.mk (fun (W : World) (hW : Below w7.heap.size w8 W) => HB7.out.trans ((HB8.out.mono HB7.out.size).trans (hW.mono HB7.out.size))); clear ho8 hb8) | (go_at_call 34; refine (del_own gb A1 c1 l1 w7.heap.size v8 l0 w8 (LW.below (LW.below HLW.out HB7.out) HB8.out) (Kd.C_below (Kd.C_below HR1.out HB7.out) HB8.out) hc1 HNS.out ((HB8.out.cell (p := ⟨gb, 0, none⟩) HLT.out).trans ((blk_cell BK7.out 0).trans rfl)) HL.out HO8.out HLT.out HB8.out.size (fun W hW => ⟨LW.below HLW.out (HALL.out W hW), Kd.C_below HR1.out (HALL.out W hW)⟩)).mono ?_; rintro e w9 ⟨v9, rfl, ho9, hb9⟩))
    go_ret
    exact ⟨_, rfl, Kd.R_lower ho9 HB7.out.size, HALL.out _ hb9⟩
  · cases h
end Go.Proofs.YtfjfpgihgaiacaaDoor.E
