/- Written by a program of this session (wip/gen/mkrow.py). Lean checks it. -/
import Derived.Test.YtdopafhppaalfaaGreatDoorRows
import Derived.Test.YtdopafhppaalfaaGreatDoorE
import Derived.Lib.LaidIn
import Derived.Lib.LaidU8T
import Derived.ChangeSame
import Derived.ChangeVars
import Derived.JoinedOf
import Derived.RowKit
import Derived.Handed
import Derived.OpenShut
import Derived.ChangeArms
import Derived.Shelf.Vars
namespace Go.Proofs.YtdopafhppaalfaaGreatDoor.R
open Go.ChangeShapes Go.WideShapes Go.RowKit Go.Proofs.YtdopafhppaalfaaGreatDoor.E Go.Lib
/-- The wrap of a row that lists variables, the world's shape kept. -/
theorem handed_and {H : Type} {enc : TypeId × Value → H} {a : Assume} {C : Checked} {os : Os} {f : FuncId} {fn : Func} {s : ChangeSpec} {conds : List PathCond} {apart fresh handsOn again : Bool} {X : World → Array Value → Prop}
    (hX : ∀ (w w' : World) (args : Array Value), w.heap = w'.heap → X w args → X w' args)
    (own : ownKnob C.prog.godebug = none) (started : os.Started) (noInit : C.prog.inits.idxOf? f = none) (hfn : C.prog.funcs[f]? = some fn)
    (witness : ∃ (w : World) (tape : Tape) (i : Input), w.os = os ∧ (w.forCall tape i).Shaped C.prog ∧ i.vars = [] ∧ Input.okWide C.prog (w.forCall tape i) .any w.heap.size f i ∧
      ((s.pre enc C.prog fn conds apart (w.forCall tape i).memory i.args ∧ X (w.forCall tape i).memory i.args) ∧ sizedMet enc C.prog fn (OpenSpec.ofChange s) apart (w.forCall tape i).memory i.args) ∧ a.holds C.prog (lone (Frame.enter C.prog f i.args .normal) [] (w.forCall tape i)))
    (contract : ∀ (W : World) (base : Nat) (args : Array Value) (ds gs : List (DataW H)) (before : List MemPlace),
      (∀ (j : Nat) t v, fn.params[j]? = some t → args[j]? = some v → Value.okWide C.prog W .any base t v) →
      DataW.Whole enc C.prog fn.params.toList s.vars apart W args.toList ds gs before →
      conds.all (PathCond.test C.prog ⟨fn.params.toList, ds, s.plain.varTypes C.prog, gs⟩) = true →
      (DataW.weightsEach C.prog (fn.params.toList ++ s.plain.varTypes C.prog) (ds ++ gs)).all (· ≤ reachBytes) = true → X W args → W.ShapedOpen C.prog →
      a.holds C.prog (lone (Frame.enter C.prog f args .normal) [] W) →
      Calls C.prog f args W fun e W' => ∃ v, e = .returned v ∧ s.post enc C.prog fn apart fresh handsOn again W args v W') :
    ReturnsInHanded a C os f .any (fun w args => (s.pre enc C.prog fn conds apart w args ∧ X w args) ∧ sizedMet enc C.prog fn (OpenSpec.ofChange s) apart w args) (s.post enc C.prog fn apart fresh handsOn again) := by
  refine returnsInHanded_of_calls own started noInit witness ?_
  intro w tape i _ hsh _ hok hpre hholds
  obtain ⟨_, _, _, fn', hfn', _, _, _, _, hval⟩ := hok
  have e : fn' = fn := Option.some.inj (hfn'.symm.trans hfn)
  subst e
  obtain ⟨⟨⟨ds, gs, before, hw, hc⟩, hx⟩, hz⟩ := hpre
  have hw' := DataW.Whole.of_heap (w' := w.forCall tape i) (by rfl) hw
  refine (contract (w.forCall tape i) w.heap.size i.args ds gs before hval hw' hc (hz.weights hw) (hX _ _ _ (by rfl) hx) hsh hholds).mono fun e W' ⟨v, he, hp⟩ => ?_
  subst he
  exact ChangeSpec.post_blind hp
set_option maxRecDepth 20000
theorem list16 {α : Type} {l : List α} (h : l.length = 16) : ∃ c1 c2 c3 c4 c5 c6 c7 c8 c9 c10 c11 c12 c13 c14 c15 c16, l = [c1, c2, c3, c4, c5, c6, c7, c8, c9, c10, c11, c12, c13, c14, c15, c16] := by
  match l, h with
  | [c1, c2, c3, c4, c5, c6, c7, c8, c9, c10, c11, c12, c13, c14, c15, c16], _ => exact ⟨c1, c2, c3, c4, c5, c6, c7, c8, c9, c10, c11, c12, c13, c14, c15, c16, rfl⟩
section
variable {H : Type} {enc : TypeId × Value → H} {w : World} {base : Nat} {spare : Nat → Bool} {held : Bool}
theorem cb : Go.Proofs.Tryz.prog.cellsOf 4 = 1 := by kernel_rfl
theorem ca : Go.Proofs.Tryz.prog.cellsOf 22 = 16 := by kernel_rfl
theorem ce : Go.Proofs.Tryz.prog.cellsOf 5 = 1 := by kernel_rfl
theorem ct : Go.Proofs.Tryz.prog.cellsOf 24 = 17 := by kernel_rfl
end
theorem array18 {α : Type} {cs : Array α} (h : cs.size = 18) : ∃ c0 c1 c2 c3 c4 c5 c6 c7 c8 c9 c10 c11 c12 c13 c14 c15 c16 c17, cs = #[c0, c1, c2, c3, c4, c5, c6, c7, c8, c9, c10, c11, c12, c13, c14, c15, c16, c17] := by
  obtain ⟨l⟩ := cs
  match l, h with
  | [c0, c1, c2, c3, c4, c5, c6, c7, c8, c9, c10, c11, c12, c13, c14, c15, c16, c17], _ => exact ⟨c0, c1, c2, c3, c4, c5, c6, c7, c8, c9, c10, c11, c12, c13, c14, c15, c16, c17, rfl⟩
section
variable {H : Type} {enc : TypeId × Value → H} {w : World} {base : Nat} {spare : Nat → Bool} {held : Bool}
theorem cn : Go.Proofs.Tryz.prog.cellsOf 26 = 18 := by kernel_rfl
theorem ci : Go.Proofs.Tryz.prog.cellsOf 3 = 1 := by kernel_rfl
theorem open_addrL {fuel : Nat} {c0 c1 c2 c3 c4 c5 c6 c7 c8 c9 c10 c11 c12 c13 c14 c15 c16 : Value} {y : DataW H × List MemPlace} (hf : DataW.trod enc Go.Proofs.Tryz.prog w base spare held fuel 24 [c0, c1, c2, c3, c4, c5, c6, c7, c8, c9, c10, c11, c12, c13, c14, c15, c16] = some y) :
    ∃ (b : Bool) (x1 x2 x3 x4 x5 x6 x7 x8 x9 x10 x11 x12 x13 x14 x15 x16 : Int), c0 = .bool b ∧ c1 = .int .u8 x1 ∧ c2 = .int .u8 x2 ∧ c3 = .int .u8 x3 ∧ c4 = .int .u8 x4 ∧ c5 = .int .u8 x5 ∧ c6 = .int .u8 x6 ∧ c7 = .int .u8 x7 ∧ c8 = .int .u8 x8 ∧ c9 = .int .u8 x9 ∧ c10 = .int .u8 x10 ∧ c11 = .int .u8 x11 ∧ c12 = .int .u8 x12 ∧ c13 = .int .u8 x13 ∧ c14 = .int .u8 x14 ∧ c15 = .int .u8 x15 ∧ c16 = .int .u8 x16 ∧ y = (.agg [.lit (.bool b), .agg [.lit (.int .u8 x1), .lit (.int .u8 x2), .lit (.int .u8 x3), .lit (.int .u8 x4), .lit (.int .u8 x5), .lit (.int .u8 x6), .lit (.int .u8 x7), .lit (.int .u8 x8), .lit (.int .u8 x9), .lit (.int .u8 x10), .lit (.int .u8 x11), .lit (.int .u8 x12), .lit (.int .u8 x13), .lit (.int .u8 x14), .lit (.int .u8 x15), .lit (.int .u8 x16)]], []) ∧ (Lit.int .u8 x1).wf = true ∧ (Lit.int .u8 x2).wf = true ∧ (Lit.int .u8 x3).wf = true ∧ (Lit.int .u8 x4).wf = true ∧ (Lit.int .u8 x5).wf = true ∧ (Lit.int .u8 x6).wf = true ∧ (Lit.int .u8 x7).wf = true ∧ (Lit.int .u8 x8).wf = true ∧ (Lit.int .u8 x9).wf = true ∧ (Lit.int .u8 x10).wf = true ∧ (Lit.int .u8 x11).wf = true ∧ (Lit.int .u8 x12).wf = true ∧ (Lit.int .u8 x13).wf = true ∧ (Lit.int .u8 x14).wf = true ∧ (Lit.int .u8 x15).wf = true ∧ (Lit.int .u8 x16).wf = true := by
  obtain ⟨y0, y1, n, hx, _, h0, h1⟩ := trod_struct2 Go.Proofs.Tryz.underlying24 hf
  have g0 : DataW.trod enc Go.Proofs.Tryz.prog w base spare held n 4 [c0] = some y0 := by simpa [Value.cells, cb] using h0
  have g1 : DataW.trod enc Go.Proofs.Tryz.prog w base spare held n 22 [c1, c2, c3, c4, c5, c6, c7, c8, c9, c10, c11, c12, c13, c14, c15, c16] = some y1 := by simpa [Value.cells, ca] using h1
  obtain ⟨b, e0, rfl⟩ := DataW.trod_bool Go.Proofs.Tryz.underlying4 g0
  obtain ⟨xs, m, _, rfl, _, hl, hel⟩ := DataW.trod_array Go.Proofs.Tryz.underlying22 g1
  obtain ⟨z1, z2, z3, z4, z5, z6, z7, z8, z9, z10, z11, z12, z13, z14, z15, z16, rfl⟩ := list16 hl
  have k1 : DataW.trod enc Go.Proofs.Tryz.prog w base spare held m 5 [c1] = some z1 := by simpa [ce] using hel 0 (by decide)
  obtain ⟨x1, e1, rfl, w1⟩ := DataW.trod_int Go.Proofs.Tryz.underlying5 k1
  have k2 : DataW.trod enc Go.Proofs.Tryz.prog w base spare held m 5 [c2] = some z2 := by simpa [ce] using hel 1 (by decide)
  obtain ⟨x2, e2, rfl, w2⟩ := DataW.trod_int Go.Proofs.Tryz.underlying5 k2
  have k3 : DataW.trod enc Go.Proofs.Tryz.prog w base spare held m 5 [c3] = some z3 := by simpa [ce] using hel 2 (by decide)
  obtain ⟨x3, e3, rfl, w3⟩ := DataW.trod_int Go.Proofs.Tryz.underlying5 k3
  have k4 : DataW.trod enc Go.Proofs.Tryz.prog w base spare held m 5 [c4] = some z4 := by simpa [ce] using hel 3 (by decide)
  obtain ⟨x4, e4, rfl, w4⟩ := DataW.trod_int Go.Proofs.Tryz.underlying5 k4
  have k5 : DataW.trod enc Go.Proofs.Tryz.prog w base spare held m 5 [c5] = some z5 := by simpa [ce] using hel 4 (by decide)
  obtain ⟨x5, e5, rfl, w5⟩ := DataW.trod_int Go.Proofs.Tryz.underlying5 k5
  have k6 : DataW.trod enc Go.Proofs.Tryz.prog w base spare held m 5 [c6] = some z6 := by simpa [ce] using hel 5 (by decide)
  obtain ⟨x6, e6, rfl, w6⟩ := DataW.trod_int Go.Proofs.Tryz.underlying5 k6
  have k7 : DataW.trod enc Go.Proofs.Tryz.prog w base spare held m 5 [c7] = some z7 := by simpa [ce] using hel 6 (by decide)
  obtain ⟨x7, e7, rfl, w7⟩ := DataW.trod_int Go.Proofs.Tryz.underlying5 k7
  have k8 : DataW.trod enc Go.Proofs.Tryz.prog w base spare held m 5 [c8] = some z8 := by simpa [ce] using hel 7 (by decide)
  obtain ⟨x8, e8, rfl, w8⟩ := DataW.trod_int Go.Proofs.Tryz.underlying5 k8
  have k9 : DataW.trod enc Go.Proofs.Tryz.prog w base spare held m 5 [c9] = some z9 := by simpa [ce] using hel 8 (by decide)
  obtain ⟨x9, e9, rfl, w9⟩ := DataW.trod_int Go.Proofs.Tryz.underlying5 k9
  have k10 : DataW.trod enc Go.Proofs.Tryz.prog w base spare held m 5 [c10] = some z10 := by simpa [ce] using hel 9 (by decide)
  obtain ⟨x10, e10, rfl, w10⟩ := DataW.trod_int Go.Proofs.Tryz.underlying5 k10
  have k11 : DataW.trod enc Go.Proofs.Tryz.prog w base spare held m 5 [c11] = some z11 := by simpa [ce] using hel 10 (by decide)
  obtain ⟨x11, e11, rfl, w11⟩ := DataW.trod_int Go.Proofs.Tryz.underlying5 k11
  have k12 : DataW.trod enc Go.Proofs.Tryz.prog w base spare held m 5 [c12] = some z12 := by simpa [ce] using hel 11 (by decide)
  obtain ⟨x12, e12, rfl, w12⟩ := DataW.trod_int Go.Proofs.Tryz.underlying5 k12
  have k13 : DataW.trod enc Go.Proofs.Tryz.prog w base spare held m 5 [c13] = some z13 := by simpa [ce] using hel 12 (by decide)
  obtain ⟨x13, e13, rfl, w13⟩ := DataW.trod_int Go.Proofs.Tryz.underlying5 k13
  have k14 : DataW.trod enc Go.Proofs.Tryz.prog w base spare held m 5 [c14] = some z14 := by simpa [ce] using hel 13 (by decide)
  obtain ⟨x14, e14, rfl, w14⟩ := DataW.trod_int Go.Proofs.Tryz.underlying5 k14
  have k15 : DataW.trod enc Go.Proofs.Tryz.prog w base spare held m 5 [c15] = some z15 := by simpa [ce] using hel 14 (by decide)
  obtain ⟨x15, e15, rfl, w15⟩ := DataW.trod_int Go.Proofs.Tryz.underlying5 k15
  have k16 : DataW.trod enc Go.Proofs.Tryz.prog w base spare held m 5 [c16] = some z16 := by simpa [ce] using hel 15 (by decide)
  obtain ⟨x16, e16, rfl, w16⟩ := DataW.trod_int Go.Proofs.Tryz.underlying5 k16
  simp at e0 e1 e2 e3 e4 e5 e6 e7 e8 e9 e10 e11 e12 e13 e14 e15 e16
  exact ⟨b, x1, x2, x3, x4, x5, x6, x7, x8, x9, x10, x11, x12, x13, x14, x15, x16, e0, e1, e2, e3, e4, e5, e6, e7, e8, e9, e10, e11, e12, e13, e14, e15, e16, by simpa using hx, w1, w2, w3, w4, w5, w6, w7, w8, w9, w10, w11, w12, w13, w14, w15, w16⟩
theorem open_net {r : Reach} {b0 : Nat} {v : Value} {d : DataW H} {ps : List MemPlace} (hv : Value.okWide Go.Proofs.Tryz.prog w r b0 26 v) (h : DataW.Trod enc Go.Proofs.Tryz.prog w base spare held 26 v d ps) :
    ∃ (b : Bool) (x1 x2 x3 x4 x5 x6 x7 x8 x9 x10 x11 x12 x13 x14 x15 x16 x17 : Int), v = .agg #[.bool b, .int .u8 x1, .int .u8 x2, .int .u8 x3, .int .u8 x4, .int .u8 x5, .int .u8 x6, .int .u8 x7, .int .u8 x8, .int .u8 x9, .int .u8 x10, .int .u8 x11, .int .u8 x12, .int .u8 x13, .int .u8 x14, .int .u8 x15, .int .u8 x16, .int .i64 x17] ∧ d = .agg [.agg [.lit (.bool b), .agg [.lit (.int .u8 x1), .lit (.int .u8 x2), .lit (.int .u8 x3), .lit (.int .u8 x4), .lit (.int .u8 x5), .lit (.int .u8 x6), .lit (.int .u8 x7), .lit (.int .u8 x8), .lit (.int .u8 x9), .lit (.int .u8 x10), .lit (.int .u8 x11), .lit (.int .u8 x12), .lit (.int .u8 x13), .lit (.int .u8 x14), .lit (.int .u8 x15), .lit (.int .u8 x16)]], .lit (.int .i64 x17)] ∧ ps = [] ∧ (Lit.int .u8 x1).wf = true ∧ (Lit.int .u8 x2).wf = true ∧ (Lit.int .u8 x3).wf = true ∧ (Lit.int .u8 x4).wf = true ∧ (Lit.int .u8 x5).wf = true ∧ (Lit.int .u8 x6).wf = true ∧ (Lit.int .u8 x7).wf = true ∧ (Lit.int .u8 x8).wf = true ∧ (Lit.int .u8 x9).wf = true ∧ (Lit.int .u8 x10).wf = true ∧ (Lit.int .u8 x11).wf = true ∧ (Lit.int .u8 x12).wf = true ∧ (Lit.int .u8 x13).wf = true ∧ (Lit.int .u8 x14).wf = true ∧ (Lit.int .u8 x15).wf = true ∧ (Lit.int .u8 x16).wf = true ∧ (Lit.int .i64 x17).wf = true := by
  obtain ⟨cs, rfl, hsz⟩ := okWide_struct Go.Proofs.Tryz.underlying26 hv
  obtain ⟨c0, c1, c2, c3, c4, c5, c6, c7, c8, c9, c10, c11, c12, c13, c14, c15, c16, c17, rfl⟩ := array18 (hsz.trans cn)
  obtain ⟨fuel, hf⟩ := h
  obtain ⟨y0, y1, n, hx, _, h0, h1⟩ := trod_struct2 Go.Proofs.Tryz.underlying26 hf
  have g0 : DataW.trod enc Go.Proofs.Tryz.prog w base spare held n 24 [c0, c1, c2, c3, c4, c5, c6, c7, c8, c9, c10, c11, c12, c13, c14, c15, c16] = some y0 := by simpa [Value.cells, ct] using h0
  have g1 : DataW.trod enc Go.Proofs.Tryz.prog w base spare held n 3 [c17] = some y1 := by simpa [Value.cells, ci] using h1
  obtain ⟨b, x1, x2, x3, x4, x5, x6, x7, x8, x9, x10, x11, x12, x13, x14, x15, x16, e0, e1, e2, e3, e4, e5, e6, e7, e8, e9, e10, e11, e12, e13, e14, e15, e16, rfl, w1, w2, w3, w4, w5, w6, w7, w8, w9, w10, w11, w12, w13, w14, w15, w16⟩ := open_addrL g0
  obtain ⟨x17, e17, rfl, w17⟩ := DataW.trod_int Go.Proofs.Tryz.underlying3 g1
  simp at e17
  subst e0 e1 e2 e3 e4 e5 e6 e7 e8 e9 e10 e11 e12 e13 e14 e15 e16 e17
  simp at hx
  obtain ⟨rfl, rfl⟩ := hx
  exact ⟨b, x1, x2, x3, x4, x5, x6, x7, x8, x9, x10, x11, x12, x13, x14, x15, x16, x17, rfl, rfl, rfl, w1, w2, w3, w4, w5, w6, w7, w8, w9, w10, w11, w12, w13, w14, w15, w16, w17⟩
theorem shut_net {b : Bool} {x1 x2 x3 x4 x5 x6 x7 x8 x9 x10 x11 x12 x13 x14 x15 x16 x17 : Int} (w1 : (Lit.int .u8 x1).wf = true) (w2 : (Lit.int .u8 x2).wf = true) (w3 : (Lit.int .u8 x3).wf = true) (w4 : (Lit.int .u8 x4).wf = true) (w5 : (Lit.int .u8 x5).wf = true) (w6 : (Lit.int .u8 x6).wf = true) (w7 : (Lit.int .u8 x7).wf = true) (w8 : (Lit.int .u8 x8).wf = true) (w9 : (Lit.int .u8 x9).wf = true) (w10 : (Lit.int .u8 x10).wf = true) (w11 : (Lit.int .u8 x11).wf = true) (w12 : (Lit.int .u8 x12).wf = true) (w13 : (Lit.int .u8 x13).wf = true) (w14 : (Lit.int .u8 x14).wf = true) (w15 : (Lit.int .u8 x15).wf = true) (w16 : (Lit.int .u8 x16).wf = true) (w17 : (Lit.int .i64 x17).wf = true) : DataW.Trod enc Go.Proofs.Tryz.prog w base spare held 26 (.agg #[.bool b, .int .u8 x1, .int .u8 x2, .int .u8 x3, .int .u8 x4, .int .u8 x5, .int .u8 x6, .int .u8 x7, .int .u8 x8, .int .u8 x9, .int .u8 x10, .int .u8 x11, .int .u8 x12, .int .u8 x13, .int .u8 x14, .int .u8 x15, .int .u8 x16, .int .i64 x17]) (.agg [.agg [.lit (.bool b), .agg [.lit (.int .u8 x1), .lit (.int .u8 x2), .lit (.int .u8 x3), .lit (.int .u8 x4), .lit (.int .u8 x5), .lit (.int .u8 x6), .lit (.int .u8 x7), .lit (.int .u8 x8), .lit (.int .u8 x9), .lit (.int .u8 x10), .lit (.int .u8 x11), .lit (.int .u8 x12), .lit (.int .u8 x13), .lit (.int .u8 x14), .lit (.int .u8 x15), .lit (.int .u8 x16)]], .lit (.int .i64 x17)]) [] :=
  ⟨4, by simp [DataW.trod, Value.cells, Go.Proofs.Tryz.underlying26, Go.Proofs.Tryz.underlying3, Go.Proofs.Tryz.underlying24, Go.Proofs.Tryz.underlying4, Go.Proofs.Tryz.underlying22, Go.Proofs.Tryz.underlying5, cn, ci, cb, ca, ce, ct, w1, w2, w3, w4, w5, w6, w7, w8, w9, w10, w11, w12, w13, w14, w15, w16, w17, show List.range 16 = [0, 1, 2, 3, 4, 5, 6, 7, 8, 9, 10, 11, 12, 13, 14, 15] from rfl]⟩
end
theorem own : ownKnob Go.Proofs.Tryz.prog.godebug = none := by kernel_rfl
def listed : List (String × DataW Unit) := [("math/bits.deBruijn32tab", Rows.laid_math_bits_deBruijn32tab), ("math/bits.deBruijn64tab", Rows.laid_math_bits_deBruijn64tab), ("internal/strconv.uint64pow10", Rows.laid_internal_strconv_uint64pow10), ("unicode/utf8.acceptRanges", Rows.laid_unicode_utf8_acceptRanges), ("strconv.ErrRange", Rows.laid_strconv_ErrRange), ("strconv.ErrSyntax", Rows.laid_strconv_ErrSyntax), ("unicode/utf8.first", Rows.laid_unicode_utf8_first)]
noncomputable def laidWorld (os : Os) : World :=
  let w0 := World.holding Go.Proofs.Tryz.prog os ⟨#[], #[], []⟩
  let put (h : Array Obj) (g : Nat) (cs : Array Value) : Array Obj := h.modify g fun
    | .cells _ t frozen => .cells cs t frozen
    | o => o
  let h1 := put w0.heap 4 #[.int .u8 0, .int .u8 1, .int .u8 28, .int .u8 2, .int .u8 29, .int .u8 14, .int .u8 24, .int .u8 3, .int .u8 30, .int .u8 22, .int .u8 20, .int .u8 15, .int .u8 25, .int .u8 17, .int .u8 4, .int .u8 8, .int .u8 31, .int .u8 27, .int .u8 13, .int .u8 23, .int .u8 21, .int .u8 19, .int .u8 16, .int .u8 7, .int .u8 26, .int .u8 12, .int .u8 18, .int .u8 6, .int .u8 11, .int .u8 5, .int .u8 10, .int .u8 9]
  let h2 := put h1 5 #[.int .u8 0, .int .u8 1, .int .u8 56, .int .u8 2, .int .u8 57, .int .u8 49, .int .u8 28, .int .u8 3, .int .u8 61, .int .u8 58, .int .u8 42, .int .u8 50, .int .u8 38, .int .u8 29, .int .u8 17, .int .u8 4, .int .u8 62, .int .u8 47, .int .u8 59, .int .u8 36, .int .u8 45, .int .u8 43, .int .u8 51, .int .u8 22, .int .u8 53, .int .u8 39, .int .u8 33, .int .u8 30, .int .u8 24, .int .u8 18, .int .u8 12, .int .u8 5, .int .u8 63, .int .u8 55, .int .u8 48, .int .u8 27, .int .u8 60, .int .u8 41, .int .u8 37, .int .u8 16, .int .u8 46, .int .u8 35, .int .u8 44, .int .u8 21, .int .u8 52, .int .u8 32, .int .u8 23, .int .u8 11, .int .u8 54, .int .u8 26, .int .u8 40, .int .u8 15, .int .u8 34, .int .u8 20, .int .u8 31, .int .u8 10, .int .u8 25, .int .u8 14, .int .u8 19, .int .u8 9, .int .u8 13, .int .u8 8, .int .u8 7, .int .u8 6]
  let h3 := put h2 3 #[.int .u64 1, .int .u64 10, .int .u64 100, .int .u64 1000, .int .u64 10000, .int .u64 100000, .int .u64 1000000, .int .u64 10000000, .int .u64 100000000, .int .u64 1000000000, .int .u64 10000000000, .int .u64 100000000000, .int .u64 1000000000000, .int .u64 10000000000000, .int .u64 100000000000000, .int .u64 1000000000000000, .int .u64 10000000000000000, .int .u64 100000000000000000, .int .u64 1000000000000000000, .int .u64 10000000000000000000]
  let h4 := put h3 7 ((List.range 16).flatMap fun i => [Value.int .u8 (Lib.accLo i), Value.int .u8 (Lib.accHi i)]).toArray
  let h5 := put h4 2 #[.iface 136 (.pointer (some ⟨13, 0, none⟩))]
  let h6 := put h5 1 #[.iface 136 (.pointer (some ⟨14, 0, none⟩))]
  let h7 := put h6 6 (Lib.firstTab.map fun z => Value.int .u8 z).toArray
  { w0 with heap := ((h7.push (.cells #[.string ⟨#[118, 97, 108, 117, 101, 32, 111, 117, 116, 32, 111, 102, 32, 114, 97, 110, 103, 101]⟩] 138 (0, 0))).push (.cells #[.string ⟨#[105, 110, 118, 97, 108, 105, 100, 32, 115, 121, 110, 116, 97, 120]⟩] 138 (0, 0))) }
theorem laid_met (os : Os) (args : Array Value) : laidMet Go.Proofs.Tryz.prog listed ((laidWorld os).forCall (fun _ _ => 0) ⟨#[], args, []⟩).memory :=
  (LaidIn.of_run (l := listed) [4, 5, 3, 7, 2, 1, 6, 13, 14] 8 (by kernel_rfl) (by kernel_rfl) (by kernel_rfl) (by kernel_rfl)).met
theorem first_eq : Rows.laid_unicode_utf8_first = Lib.firstData := by kernel_rfl
theorem accept_eq : Rows.laid_unicode_utf8_acceptRanges = Lib.acceptData := by kernel_rfl
def ren : Go.Shelf.Ren := ⟨fun n => n, fun | 5 => 5 | 119 => 145 | 138 => 147 | 139 => 148 | n => n, fun | 3 => 6 | 4 => 7 | n => n⟩
theorem u8types : U8Types Go.Proofs.Tryz.prog ren := ⟨by kernel_rfl, by kernel_rfl, by kernel_rfl, by kernel_rfl⟩
theorem tab64 : (Rows.laid_math_bits_deBruijn64tab : DataW Unit) = tabData .u8 [0, 1, 56, 2, 57, 49, 28, 3, 61, 58, 42, 50, 38, 29, 17, 4, 62, 47, 59, 36, 45, 43, 51, 22, 53, 39, 33, 30, 24, 18, 12, 5, 63, 55, 48, 27, 60, 41, 37, 16, 46, 35, 44, 21, 52, 32, 23, 11, 54, 26, 40, 15, 34, 20, 31, 10, 25, 14, 19, 9, 13, 8, 7, 6] := by kernel_rfl
theorem bits64 {W : World} (hL : laidMet Go.Proofs.Tryz.prog listed W) : W.cell? ⟨5, 15, none⟩ = some (.int .u8 4) := by
  have hV := Lib.laidMet.reads hL (.tail _ (.head _))
  rw [tab64] at hV
  obtain ⟨g, t, cs, fuel, p, hg, hty, hvar, hd⟩ := hV
  obtain rfl := Option.some.inj ((show Go.Proofs.Tryz.prog.globalNamed "math/bits.deBruijn64tab" = some 5 by kernel_rfl).symm.trans hg)
  obtain rfl := Option.some.inj ((show (Go.Proofs.Tryz.prog.globals[5]?).map (·.type) = some 144 by kernel_rfl).symm.trans hty)
  have hcs := cells_of_tab Go.Proofs.Tryz.underlying144 Go.Proofs.Tryz.underlying5 (by kernel_rfl) (by kernel_rfl) hd
  have := World.var?_cell hg hvar 15
  rw [this, ← Array.getElem?_toList, hcs]
  rfl
theorem tabpow : (Rows.laid_internal_strconv_uint64pow10 : DataW Unit) = tabData .u64 Lib.pow10Tab := by kernel_rfl
theorem pow10 {W : World} (hL : laidMet Go.Proofs.Tryz.prog listed W) : Lib.TabIs Go.Proofs.Tryz.prog W "internal/strconv.uint64pow10" .u64 Lib.pow10Tab := by
  have hV := Lib.laidMet.reads hL (.tail _ (.tail _ (.head _)))
  rw [tabpow] at hV
  obtain ⟨g, t, cs, fuel, p, hg, hty, hvar, hd⟩ := hV
  obtain rfl := Option.some.inj ((show Go.Proofs.Tryz.prog.globalNamed "internal/strconv.uint64pow10" = some 3 by kernel_rfl).symm.trans hg)
  obtain rfl := Option.some.inj ((show (Go.Proofs.Tryz.prog.globals[3]?).map (·.type) = some 125 by kernel_rfl).symm.trans hty)
  have hcs := cells_of_tab Go.Proofs.Tryz.underlying125 Go.Proofs.Tryz.underlying68 (by kernel_rfl) (by kernel_rfl) hd
  unfold Lib.TabIs
  rw [hvar, ← hcs]
theorem lw_of_laid {W : World} (hL : laidMet Go.Proofs.Tryz.prog listed W) (hsh : W.ShapedOpen Go.Proofs.Tryz.prog) : LW W :=
  ⟨⟨⟨utf8Tabs_of_readsT u8types ⟨by kernel_rfl, by kernel_rfl, by kernel_rfl, by kernel_rfl, by kernel_rfl, by kernel_rfl, by kernel_rfl⟩ (first_eq ▸ Lib.laidMet.reads hL (.tail _ (.tail _ (.tail _ (.tail _ (.tail _ (.tail _ (.head _)))))))) (accept_eq ▸ Lib.laidMet.reads hL (.tail _ (.tail _ (.tail _ (.head _))))), cell_of_shapedOpen_int hsh (g := 0) (t := 3) (zero := #[.int .i64 0]) (of_decide_eq_true (by kernel_rfl)) (by kernel_rfl) (by kernel_rfl) (by kernel_rfl) (by kernel_rfl) (by kernel_rfl)⟩, bits64 hL⟩, pow10 hL⟩
theorem laidH_iff {W : World} : laidMetH Go.Proofs.Tryz.prog listed W ↔ laidMet Go.Proofs.Tryz.prog listed W := by
  have e : (listed.filter fun x => x.2.handleName?.isSome) = [] := by kernel_rfl
  unfold laidMetH
  rw [e]
end Go.Proofs.YtdopafhppaalfaaGreatDoor.R
