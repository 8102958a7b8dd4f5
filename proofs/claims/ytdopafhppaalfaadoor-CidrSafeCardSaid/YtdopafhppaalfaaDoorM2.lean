/- The contract of cidr.first, field by field. -/
import Derived.Test.YtdopafhppaalfaaDoorM1
set_option linter.unusedVariables false
namespace Go.Proofs.YtdopafhppaalfaaDoor.E
open Go Go.RowKit Go.Shelf Go.Lib Go.Proofs.YtdopafhppaalfaaDoorW.PrintWords Go.Proofs.YtdopafhppaalfaaDoorW.PrintLast Go.Proofs.YtdopafhppaalfaaDoorW.PrintMore Go.Proofs.YtdopafhppaalfaaDoorV Go.Proofs.YtdopafhppaalfaaDoor.P

def cidr_first.f (a0_0 : Bool) (a0_1 : Int) (a0_2 : Int) (a0_3 : Int) (a0_4 : Int) (a0_5 : Int) (a0_6 : Int) (a0_7 : Int) (a0_8 : Int) (a0_9 : Int) (a0_10 : Int) (a0_11 : Int) (a0_12 : Int) (a0_13 : Int) (a0_14 : Int) (a0_15 : Int) (a0_16 : Int) (a1 : Int) : Option (Bool × Int × Int × Int × Int × Int × Int × Int × Int × Int × Int × Int × Int × Int × Int × Int × Int) := if 0 ≤ a1 ∧ a1 ≤ 128 then some (a0_0, cutB (frI a0_0 + a1) 0 a0_1, cutB (frI a0_0 + a1) 1 a0_2, cutB (frI a0_0 + a1) 2 a0_3, cutB (frI a0_0 + a1) 3 a0_4, cutB (frI a0_0 + a1) 4 a0_5, cutB (frI a0_0 + a1) 5 a0_6, cutB (frI a0_0 + a1) 6 a0_7, cutB (frI a0_0 + a1) 7 a0_8, cutB (frI a0_0 + a1) 8 a0_9, cutB (frI a0_0 + a1) 9 a0_10, cutB (frI a0_0 + a1) 10 a0_11, cutB (frI a0_0 + a1) 11 a0_12, cutB (frI a0_0 + a1) 12 a0_13, cutB (frI a0_0 + a1) 13 a0_14, cutB (frI a0_0 + a1) 14 a0_15, cutB (frI a0_0 + a1) 15 a0_16) else none
theorem cidr_first.calls (a0_0 : Bool) (a0_1 : Int) (a0_2 : Int) (a0_3 : Int) (a0_4 : Int) (a0_5 : Int) (a0_6 : Int) (a0_7 : Int) (a0_8 : Int) (a0_9 : Int) (a0_10 : Int) (a0_11 : Int) (a0_12 : Int) (a0_13 : Int) (a0_14 : Int) (a0_15 : Int) (a0_16 : Int) (a1 : Int) (r1 : Bool) (r2 : Int) (r3 : Int) (r4 : Int) (r5 : Int) (r6 : Int) (r7 : Int) (r8 : Int) (r9 : Int) (r10 : Int) (r11 : Int) (r12 : Int) (r13 : Int) (r14 : Int) (r15 : Int) (r16 : Int) (r17 : Int) (w : World) (hLW : LW w) (h : cidr_first.f a0_0 a0_1 a0_2 a0_3 a0_4 a0_5 a0_6 a0_7 a0_8 a0_9 a0_10 a0_11 a0_12 a0_13 a0_14 a0_15 a0_16 a1 = some (r1, r2, r3, r4, r5, r6, r7, r8, r9, r10, r11, r12, r13, r14, r15, r16, r17)) :
  Calls Tryd.prog 32 #[.agg #[.bool a0_0, .int .u8 a0_1, .int .u8 a0_2, .int .u8 a0_3, .int .u8 a0_4, .int .u8 a0_5, .int .u8 a0_6, .int .u8 a0_7, .int .u8 a0_8, .int .u8 a0_9, .int .u8 a0_10, .int .u8 a0_11, .int .u8 a0_12, .int .u8 a0_13, .int .u8 a0_14, .int .u8 a0_15, .int .u8 a0_16], .int .i64 a1] w fun e w' => e = .returned (.agg #[.bool r1, .int .u8 r2, .int .u8 r3, .int .u8 r4, .int .u8 r5, .int .u8 r6, .int .u8 r7, .int .u8 r8, .int .u8 r9, .int .u8 r10, .int .u8 r11, .int .u8 r12, .int .u8 r13, .int .u8 r14, .int .u8 r15, .int .u8 r16, .int .u8 r17]) ∧ Below w.heap.size w w' := by
 unfold cidr_first.f at h
 split at h
 ·rename_i hn
  simp only [Option.some.injEq, Prod.mk.injEq] at h
  obtain ⟨rfl, rfl, rfl, rfl, rfl, rfl, rfl, rfl, rfl, rfl, rfl, rfl, rfl, rfl, rfl, rfl, rfl⟩ := h
  exact first_calls a0_0 [a0_1, a0_2, a0_3, a0_4, a0_5, a0_6, a0_7, a0_8, a0_9, a0_10, a0_11, a0_12, a0_13, a0_14, a0_15, a0_16] rfl a1 hn.1 hn.2 w hLW
 ·cases h
end Go.Proofs.YtdopafhppaalfaaDoor.E
