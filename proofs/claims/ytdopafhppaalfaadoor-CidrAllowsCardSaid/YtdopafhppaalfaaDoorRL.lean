/- An element of a row of structs, loaded as a whole. -/
import Derived.Test.YtdopafhppaalfaaDoorG0
import Derived.Test.YtdopafhppaalfaaDoorAR
set_option linter.unusedVariables false
namespace Go.Proofs.YtdopafhppaalfaaDoor.G
open Go Go.RowKit Go.Lib Go.Proofs.YtdopafhppaalfaaDoorW.PrintWords Go.Proofs.YtdopafhppaalfaaDoorW.PrintLast Go.Proofs.YtdopafhppaalfaaDoorW.PrintMore Go.Proofs.YtdopafhppaalfaaDoorV
theorem add_two (ad : Addr) (m j : Nat) : (ad.add m).add j = ad.add (m + j) := by
 unfold Addr.add
 by_cases hm : m = 0
 ·subst hm; simp
 ·by_cases hj : j = 0
  ·subst hj; simp [hm]
  ·simp [hm, hj, Nat.add_assoc]
theorem run_load_at {P : Program} (w : World) (ad : Addr) (ty : TypeId) (cs : List Value) (d : TypeDesc) (hc : ∀ j v, cs[j]? = some v → w.cell? (ad.add j) = some v)
  (hu : P.underlying ty = some d) (hd : d.isRow = true) (hi : (P.info? ty).map (·.size) = some cs.length) : (Instr.loadAt ty (.pointer (some ad))).run P w = .ok (.agg cs.toArray) w := by
 have hl : (loadCells ad cs.length).run P w = .ok cs.toArray w := run_loadCells_list (P := P) w ad cs hc
 have hv : (loadVar ty ad).run P w = .ok (.agg cs.toArray) w := by
  cases hq : P.info? ty with
  | none => simp [hq] at hi
  | some i =>
   have hs : i.size = cs.length := by simpa [hq] using hi
   have hagg : (isAgg ty).run P w = .ok true w := by
    unfold isAgg
    rw [Sem.run_bind, run_underlying hu w]
    cases d <;> simp_all
   simp [loadVar, Sem.run_bind, hagg, sizeOf, typeInfo, hq, hs, hl]
 simp only [Instr.loadAt, Instr.sureAddr, Sem.run_bind, Sem.run_pure, Result.andThen_ok, hv]
theorem row_T34 {w : World} {ad : Addr} {n : Nat} {xs : List S34} (h : Kd.C k34 w (some ad) n xs) (i : Int) (h0 : (0 ≤ i) = True) (h1 : (i < n) = True) : (Instr.loadAt 34 (.pointer (some (ad.add (i.toNat * 18))))).run Tryd.prog w = .ok (.agg #[.bool (rd_T34 xs i).f0.f0, .int .u8 (rd_T34 xs i).f0.f1.f0, .int .u8 (rd_T34 xs i).f0.f1.f1, .int .u8 (rd_T34 xs i).f0.f1.f2, .int .u8 (rd_T34 xs i).f0.f1.f3, .int .u8 (rd_T34 xs i).f0.f1.f4, .int .u8 (rd_T34 xs i).f0.f1.f5, .int .u8 (rd_T34 xs i).f0.f1.f6, .int .u8 (rd_T34 xs i).f0.f1.f7, .int .u8 (rd_T34 xs i).f0.f1.f8, .int .u8 (rd_T34 xs i).f0.f1.f9, .int .u8 (rd_T34 xs i).f0.f1.f10, .int .u8 (rd_T34 xs i).f0.f1.f11, .int .u8 (rd_T34 xs i).f0.f1.f12, .int .u8 (rd_T34 xs i).f0.f1.f13, .int .u8 (rd_T34 xs i).f0.f1.f14, .int .u8 (rd_T34 xs i).f0.f1.f15, .int .i64 (rd_T34 xs i).f1]) w := by
 obtain ⟨a2, c, e, _, hK, hc0⟩ := Kd.C_get h z34 i (of_eq_true h0) (of_eq_true h1)
 cases e
 have hc : ∀ j u, c[j]? = some u → w.cell? (ad.add (i.toNat * 18 + j)) = some u := hc0
 obtain rfl := k34_open hK
 exact run_load_at w _ 34 _ _ (fun j v hj => by rw [add_two]; exact hc j v hj) Tryd.underlying34 rfl (by kernel_rfl)
end Go.Proofs.YtdopafhppaalfaaDoor.G
