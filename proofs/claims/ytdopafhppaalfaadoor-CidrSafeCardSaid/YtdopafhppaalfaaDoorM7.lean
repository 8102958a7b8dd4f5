/- The contract of cidr.Allow, field by field. -/
import Derived.Test.YtdopafhppaalfaaDoorM6
set_option linter.unusedVariables false
namespace Go.Proofs.YtdopafhppaalfaaDoor.E
open Go Go.RowKit Go.Shelf Go.Lib Go.Proofs.YtdopafhppaalfaaDoorW.PrintWords Go.Proofs.YtdopafhppaalfaaDoorW.PrintLast Go.Proofs.YtdopafhppaalfaaDoorW.PrintMore Go.Proofs.YtdopafhppaalfaaDoorV Go.Proofs.YtdopafhppaalfaaDoor.P Go.Proofs.YtdopafhppaalfaaDoor.G

theorem cidr_Allow.calls (k : Nat) (a0_0 : Bool) (a0_1 : Int) (a0_2 : Int) (a0_3 : Int) (a0_4 : Int) (a0_5 : Int) (a0_6 : Int) (a0_7 : Int) (a0_8 : Int) (a0_9 : Int) (a0_10 : Int) (a0_11 : Int) (a0_12 : Int) (a0_13 : Int) (a0_14 : Int) (a0_15 : Int) (a0_16 : Int) (A1 : Option Addr) (c1 : Nat) (l1 : List S34) (r : Int) (w : World) (hLW : LW w) (hr1 : Kd.C k34 w A1 l1.length l1) (hc1 : l1.length ≤ c1) (h : cidr_Allow.f k a0_0 a0_1 a0_2 a0_3 a0_4 a0_5 a0_6 a0_7 a0_8 a0_9 a0_10 a0_11 a0_12 a0_13 a0_14 a0_15 a0_16 l1 = some r) :
  Calls Tryd.prog 7 #[.agg #[.bool a0_0, .int .u8 a0_1, .int .u8 a0_2, .int .u8 a0_3, .int .u8 a0_4, .int .u8 a0_5, .int .u8 a0_6, .int .u8 a0_7, .int .u8 a0_8, .int .u8 a0_9, .int .u8 a0_10, .int .u8 a0_11, .int .u8 a0_12, .int .u8 a0_13, .int .u8 a0_14, .int .u8 a0_15, .int .u8 a0_16], .slice A1 l1.length c1] w fun e w' => e = .returned (.int .i64 r) ∧ Below w.heap.size w w' :=
 allow_calls k ⟨a0_0, ⟨a0_1, a0_2, a0_3, a0_4, a0_5, a0_6, a0_7, a0_8, a0_9, a0_10, a0_11, a0_12, a0_13, a0_14, a0_15, a0_16⟩⟩ A1 c1 l1 r w hLW hr1 h
end Go.Proofs.YtdopafhppaalfaaDoor.E
