/- The contract of cidr.Allow, by hand: its literals, and slices.ContainsFunc over them. -/
import Derived.Test.YtdopafhppaalfaaGreatDoorG4
import Derived.Lib.SlBy
import Derived.LoopTactic
set_option linter.unusedVariables false
set_option linter.unusedSimpArgs false
namespace Go.Proofs.YtdopafhppaalfaaGreatDoor.E
open Go Go.RowKit Go.Shelf Go.Lib Go.Proofs.YtdopafhppaalfaaGreatDoorW.PrintWords Go.Proofs.YtdopafhppaalfaaGreatDoorW.PrintLast Go.Proofs.YtdopafhppaalfaaGreatDoorW.PrintMore Go.Proofs.YtdopafhppaalfaaGreatDoorV Go.Proofs.YtdopafhppaalfaaGreatDoor.P Go.Proofs.YtdopafhppaalfaaGreatDoor.G

instance : Inhabited S26 := ⟨z26⟩
/-- An address' cells, and a net's. -/
def encS (x : S24) : List Value := [.bool x.f0, .int .u8 x.f1.f0, .int .u8 x.f1.f1, .int .u8 x.f1.f2, .int .u8 x.f1.f3, .int .u8 x.f1.f4, .int .u8 x.f1.f5, .int .u8 x.f1.f6, .int .u8 x.f1.f7, .int .u8 x.f1.f8, .int .u8 x.f1.f9, .int .u8 x.f1.f10, .int .u8 x.f1.f11, .int .u8 x.f1.f12, .int .u8 x.f1.f13, .int .u8 x.f1.f14, .int .u8 x.f1.f15]
def encN (x : S26) : List Value := [.bool x.f0.f0, .int .u8 x.f0.f1.f0, .int .u8 x.f0.f1.f1, .int .u8 x.f0.f1.f2, .int .u8 x.f0.f1.f3, .int .u8 x.f0.f1.f4, .int .u8 x.f0.f1.f5, .int .u8 x.f0.f1.f6, .int .u8 x.f0.f1.f7, .int .u8 x.f0.f1.f8, .int .u8 x.f0.f1.f9, .int .u8 x.f0.f1.f10, .int .u8 x.f0.f1.f11, .int .u8 x.f0.f1.f12, .int .u8 x.f0.f1.f13, .int .u8 x.f0.f1.f14, .int .u8 x.f0.f1.f15, .int .i64 x.f1]
def chkO (x : S26) : Option Int := cidr_Check.f x.f0.f0 x.f0.f1.f0 x.f0.f1.f1 x.f0.f1.f2 x.f0.f1.f3 x.f0.f1.f4 x.f0.f1.f5 x.f0.f1.f6 x.f0.f1.f7 x.f0.f1.f8 x.f0.f1.f9 x.f0.f1.f10 x.f0.f1.f11 x.f0.f1.f12 x.f0.f1.f13 x.f0.f1.f14 x.f0.f1.f15 x.f1
def hasO (x : S26) (a : S24) : Option Bool := cidr_Has.f x.f0.f0 x.f0.f1.f0 x.f0.f1.f1 x.f0.f1.f2 x.f0.f1.f3 x.f0.f1.f4 x.f0.f1.f5 x.f0.f1.f6 x.f0.f1.f7 x.f0.f1.f8 x.f0.f1.f9 x.f0.f1.f10 x.f0.f1.f11 x.f0.f1.f12 x.f0.f1.f13 x.f0.f1.f14 x.f0.f1.f15 x.f1 a.f0 a.f1.f0 a.f1.f1 a.f1.f2 a.f1.f3 a.f1.f4 a.f1.f5 a.f1.f6 a.f1.f7 a.f1.f8 a.f1.f9 a.f1.f10 a.f1.f11 a.f1.f12 a.f1.f13 a.f1.f14 a.f1.f15
theorem chk_calls (x : S26) (r : Int) (w : World) (hLW : LW w) (h : chkO x = some r) : Calls Tryz.prog 6 #[.agg (encN x).toArray] w fun e w' => e = .returned (.int .i64 r) ∧ Below w.heap.size w w' :=
  cidr_Check.calls _ _ _ _ _ _ _ _ _ _ _ _ _ _ _ _ _ _ r w hLW h
theorem has_calls (x : S26) (a : S24) (r : Bool) (w : World) (hLW : LW w) (h : hasO x a = some r) : Calls Tryz.prog 40 #[.agg (encN x).toArray, .agg (encS a).toArray] w fun e w' => e = .returned (.bool r) ∧ Below w.heap.size w w' :=
  cidr_Has.calls _ _ _ _ _ _ _ _ _ _ _ _ _ _ _ _ _ _ _ _ _ _ _ _ _ _ _ _ _ _ _ _ _ _ _ r w hLW h
theorem infoN' : (Tryz.prog.info? 26).map (·.size) = some 18 := by kernel_rfl
theorem infoA' : (Tryz.prog.info? 24).map (·.size) = some 17 := by kernel_rfl
/-- The first literal: may a net not be? -/
theorem lit1_calls (x : S26) (r : Int) (w : World) (hLW : LW w) (h : chkO x = some r) : Calls Tryz.prog 37 #[.agg (encN x).toArray] w fun e w' => e = .returned (.bool (r != 0)) ∧ Below w.heap.size w w' := by
  have HC := Aside0.mk (fun (W : World) (hW : LW W) => chk_calls x r W hW h)
  have HLW := Aside0.mk hLW
  clear hLW h
  go_enter Tryz.func37, Tryz.ntmps37
  go_wp2_with (first | ((with_reducible refine gate_dst (N := 1) rfl ?_); refine box_event ?hg (N := 1) ?hd (cs := (encN x).toArray) (t := 26) ?hr ?_; (case hd => rfl); (case hg => rfl); (case hr => first | (go_simp; done) | (go_simp; rfl)); intro gb hg w7 hbox hb; have BN := Aside0.mk hbox; have HB7 := Aside0.mk hb; clear hbox hb hg) | ((with_reducible refine gate_dst (N := 3) rfl ?_); refine load_box ?hg 26 (.tmp 1) rfl BN.out [] (encN x) [] (by simp) 0 rfl rfl Tryz.underlying26 rfl (by exact infoN') ?_; (case hg => rfl)) | (go_at_call 6; refine (HC.out _ (LW.below HLW.out HB7.out)).mono ?_; rintro e w1 ⟨rfl, hb1⟩))
  go_ret
  exact ⟨rfl, below_step HB7.out hb1⟩
/-- The second literal: has a net the address, which lies in a variable? -/
theorem lit2_calls (B : Nat) (x : S26) (a : S24) (r : Bool) (w : World) (hLW : LW w) (h : hasO x a = some r) (hb : w.heap[B]? = some (.cells (encS a).toArray 24 (0, 0))) :
    Calls Tryz.prog 39 #[.agg (encN x).toArray, .pointer (some ⟨B, 0, none⟩)] w fun e w' => e = .returned (.bool r) ∧ Below w.heap.size w w' := by
  have HC := Aside0.mk (fun (W : World) (hW : LW W) => has_calls x a r W hW h)
  have HLW := Aside0.mk hLW
  have BK := Aside0.mk hb
  clear hLW h hb
  go_enter Tryz.func39, Tryz.ntmps39
  go_wp2_with (first | ((with_reducible refine gate_dst (N := 2) rfl ?_); refine box_event ?hg (N := 2) ?hd (cs := (encN x).toArray) (t := 26) ?hr ?_; (case hd => rfl); (case hg => rfl); (case hr => first | (go_simp; done) | (go_simp; rfl)); intro gb hg w7 hbox hb; have BN := Aside0.mk hbox; have HB7 := Aside0.mk hb; have BA := Aside0.mk (blk_below BK.out hb); clear hbox hb hg) | ((with_reducible refine gate_dst (N := 4) rfl ?_); refine load_box ?hg 26 (.tmp 2) rfl BN.out [] (encN x) [] (by simp) 0 rfl rfl Tryz.underlying26 rfl (by exact infoN') ?_; (case hg => rfl)) | ((with_reducible refine gate_dst (N := 5) rfl ?_); refine load_box ?hg 24 (.tmp 1) rfl BA.out [] (encS a) [] (by simp) 0 rfl rfl Tryz.underlying24 rfl (by exact infoA') ?_; (case hg => rfl)) | (go_at_call 40; refine (HC.out _ (LW.below HLW.out HB7.out)).mono ?_; rintro e w1 ⟨rfl, hb1⟩))
  go_ret
  exact ⟨rfl, below_step HB7.out hb1⟩
end Go.Proofs.YtdopafhppaalfaaGreatDoor.E
