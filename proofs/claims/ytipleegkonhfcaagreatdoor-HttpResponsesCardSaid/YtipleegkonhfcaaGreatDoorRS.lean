/- Written by a program of this session (wip/gen/mkrow.py). Lean checks it. -/
import Derived.Test.YtipleegkonhfcaaGreatDoorRows
import Derived.Lib.LaidIn
import Derived.Lib.LaidU8T
import Derived.Deep.SlicePairs
import Derived.Test.YtipleegkonhfcaaGreatDoorSN
namespace Go.Proofs.YtipleegkonhfcaaGreatDoor.R
open Go.ChangeShapes Go.WideShapes Go.RowKit Go.Proofs.YtipleegkonhfcaaGreatDoor.E Go.Lib
/-- The wrap of a row that lists variables, the world's shape kept. -/
theorem handed_and {H : Type} {enc : TypeId × Value → H} {a : Assume} {C : Checked} {os : Os} {f : FuncId} {fn : Func} {s : ChangeSpec} {conds : List PathCond} {apart fresh handsOn again : Bool} {X : World → Array Value → Prop}
    (hX : ∀ (w w' : World) (args : Array Value), w.heap = w'.heap → X w args → X w' args)
    (own : ownKnob C.prog.godebug = none) (started : os.Started) (noInit : C.prog.inits.idxOf? f = none) (hfn : C.prog.funcs[f]? = some fn)
    (witness : ∃ (w : World) (tape : Tape) (i : Input), w.os = os ∧ (w.forCall tape i).Shaped C.prog ∧ i.vars = [] ∧ Input.okWide C.prog (w.forCall tape i) .any w.heap.size f i ∧
      ((s.pre enc C.prog fn conds apart (w.forCall tape i).memory i.args ∧ X (w.forCall tape i).memory i.args) ∧ sizedMet enc C.prog fn (OpenSpec.ofChange s) apart (w.forCall tape i).memory i.args) ∧ a.holds C.prog (lone (Frame.enter C.prog f i.args .normal) [] (w.forCall tape i)))
    (contract : ∀ (W : World) (base : Nat) (args : Array Value) (ds gs : List (DataW H)) (before : List MemPlace),
      (∀ (j : Nat) t v, fn.params[j]? = some t → args[j]? = some v → Value.okWide C.prog W .any base t v) →
      DataW.Whole enc C.prog fn.params.toList s.vars apart W args.toList ds gs before →
      conds.all (PathCond.test C.prog ⟨fn.params.toList, ds, s.plain.varTypes C.prog, gs⟩) = true →
      (DataW.weightsEach C.prog (fn.params.toList ++ s.plain.varTypes C.prog) (ds ++ gs)).all (· ≤ reachBytes) = true → X W args → W.ShapedOpen C.prog →
      a.holds C.prog (lone (Frame.enter C.prog f args .normal) [] W) →
      Calls C.prog f args W fun e W' => ∃ v, e = .returned v ∧ s.post enc C.prog fn apart fresh handsOn again W args v W') :
    ReturnsInHanded a C os f .any (fun w args => (s.pre enc C.prog fn conds apart w args ∧ X w args) ∧ sizedMet enc C.prog fn (OpenSpec.ofChange s) apart w args) (s.post enc C.prog fn apart fresh handsOn again) := by
  refine returnsInHanded_of_calls own started noInit witness ?_
  intro w tape i _ hsh _ hok hpre hholds
  obtain ⟨_, _, _, fn', hfn', _, _, _, _, hval⟩ := hok
  have e : fn' = fn := Option.some.inj (hfn'.symm.trans hfn)
  subst e
  obtain ⟨⟨⟨ds, gs, before, hw, hc⟩, hx⟩, hz⟩ := hpre
  have hw' := DataW.Whole.of_heap (w' := w.forCall tape i) (by rfl) hw
  refine (contract (w.forCall tape i) w.heap.size i.args ds gs before hval hw' hc (hz.weights hw) (hX _ _ _ (by rfl) hx) hsh hholds).mono fun e W' ⟨v, he, hp⟩ => ?_
  subst he
  exact ChangeSpec.post_blind hp
def IsRow (k : IntKind) (w : World) (a : Option Addr) (len cap : Nat) (zs : List Int) : Prop :=
  (a = none ∧ len = 0 ∧ cap = 0 ∧ zs = []) ∨
  ∃ x, a = some x ∧ len ≤ cap ∧ cap ≤ maxLen ∧ zs.length = cap ∧ (∀ i, i < zs.length → w.cell? (x.add i) = some (.int k (zs.getD i 0))) ∧ ∀ n ∈ zs, (Lit.int k n).wf = true
theorem range_u8 {l : List Int} (h : ∀ x ∈ l, (Lit.int .u8 x).wf = true) : ∀ n ∈ l, 0 ≤ n ∧ n < 256 := fun n hn => by
  have := h n hn
  simp [Lit.wf, IntKind.min, IntKind.max, IntKind.signed, IntKind.bits] at this
  omega
theorem laidOut : laidOutB Go.Proofs.Tryz.prog = true := by kernel_rfl
theorem own : ownKnob Go.Proofs.Tryz.prog.godebug = none := by kernel_rfl
def listed : List (String × DataW Unit) := [("math/bits.deBruijn32tab", Rows.laid_math_bits_deBruijn32tab), ("math/bits.deBruijn64tab", Rows.laid_math_bits_deBruijn64tab), ("internal/strconv.uint64pow10", Rows.laid_internal_strconv_uint64pow10), ("unicode/utf8.acceptRanges", Rows.laid_unicode_utf8_acceptRanges), ("strconv.ErrRange", Rows.laid_strconv_ErrRange), ("strconv.ErrSyntax", Rows.laid_strconv_ErrSyntax), ("bytes.ErrTooLarge", Rows.laid_bytes_ErrTooLarge), ("unicode/utf8.first", Rows.laid_unicode_utf8_first)]
noncomputable def laidWorld (os : Os) : World :=
  let w0 := World.holding Go.Proofs.Tryz.prog os ⟨#[], #[], []⟩
  let put (h : Array Obj) (g : Nat) (cs : Array Value) : Array Obj := h.modify g fun
    | .cells _ t frozen => .cells cs t frozen
    | o => o
  let h1 := put w0.heap 7 #[.int .u8 0, .int .u8 1, .int .u8 28, .int .u8 2, .int .u8 29, .int .u8 14, .int .u8 24, .int .u8 3, .int .u8 30, .int .u8 22, .int .u8 20, .int .u8 15, .int .u8 25, .int .u8 17, .int .u8 4, .int .u8 8, .int .u8 31, .int .u8 27, .int .u8 13, .int .u8 23, .int .u8 21, .int .u8 19, .int .u8 16, .int .u8 7, .int .u8 26, .int .u8 12, .int .u8 18, .int .u8 6, .int .u8 11, .int .u8 5, .int .u8 10, .int .u8 9]
  let h2 := put h1 8 #[.int .u8 0, .int .u8 1, .int .u8 56, .int .u8 2, .int .u8 57, .int .u8 49, .int .u8 28, .int .u8 3, .int .u8 61, .int .u8 58, .int .u8 42, .int .u8 50, .int .u8 38, .int .u8 29, .int .u8 17, .int .u8 4, .int .u8 62, .int .u8 47, .int .u8 59, .int .u8 36, .int .u8 45, .int .u8 43, .int .u8 51, .int .u8 22, .int .u8 53, .int .u8 39, .int .u8 33, .int .u8 30, .int .u8 24, .int .u8 18, .int .u8 12, .int .u8 5, .int .u8 63, .int .u8 55, .int .u8 48, .int .u8 27, .int .u8 60, .int .u8 41, .int .u8 37, .int .u8 16, .int .u8 46, .int .u8 35, .int .u8 44, .int .u8 21, .int .u8 52, .int .u8 32, .int .u8 23, .int .u8 11, .int .u8 54, .int .u8 26, .int .u8 40, .int .u8 15, .int .u8 34, .int .u8 20, .int .u8 31, .int .u8 10, .int .u8 25, .int .u8 14, .int .u8 19, .int .u8 9, .int .u8 13, .int .u8 8, .int .u8 7, .int .u8 6]
  let h3 := put h2 2 #[.int .u64 1, .int .u64 10, .int .u64 100, .int .u64 1000, .int .u64 10000, .int .u64 100000, .int .u64 1000000, .int .u64 10000000, .int .u64 100000000, .int .u64 1000000000, .int .u64 10000000000, .int .u64 100000000000, .int .u64 1000000000000, .int .u64 10000000000000, .int .u64 100000000000000, .int .u64 1000000000000000, .int .u64 10000000000000000, .int .u64 100000000000000000, .int .u64 1000000000000000000, .int .u64 10000000000000000000]
  let h4 := put h3 6 ((List.range 16).flatMap fun i => [Value.int .u8 (Lib.accLo i), Value.int .u8 (Lib.accHi i)]).toArray
  let h5 := put h4 4 #[.iface 161 (.pointer (some ⟨15, 0, none⟩))]
  let h6 := put h5 3 #[.iface 161 (.pointer (some ⟨16, 0, none⟩))]
  let h7 := put h6 1 #[.iface 161 (.pointer (some ⟨14, 0, none⟩))]
  let h8 := put h7 5 (Lib.firstTab.map fun z => Value.int .u8 z).toArray
  { w0 with heap := (((h8.push (.cells #[.string ⟨#[98, 121, 116, 101, 115, 46, 66, 117, 102, 102, 101, 114, 58, 32, 116, 111, 111, 32, 108, 97, 114, 103, 101]⟩] 163 (0, 0))).push (.cells #[.string ⟨#[118, 97, 108, 117, 101, 32, 111, 117, 116, 32, 111, 102, 32, 114, 97, 110, 103, 101]⟩] 163 (0, 0))).push (.cells #[.string ⟨#[105, 110, 118, 97, 108, 105, 100, 32, 115, 121, 110, 116, 97, 120]⟩] 163 (0, 0))) }
theorem laid_met (os : Os) (args : Array Value) : laidMet Go.Proofs.Tryz.prog listed ((laidWorld os).forCall (fun _ _ => 0) ⟨#[], args, []⟩).memory :=
  (LaidIn.of_run (l := listed) [7, 8, 2, 6, 4, 3, 1, 5, 14, 15, 16] 8 (by kernel_rfl) (by kernel_rfl) (by kernel_rfl) (by kernel_rfl)).met
theorem first_eq : Rows.laid_unicode_utf8_first = Lib.firstData := by kernel_rfl
theorem accept_eq : Rows.laid_unicode_utf8_acceptRanges = Lib.acceptData := by kernel_rfl
def ren : Go.Shelf.Ren := ⟨fun n => n, fun | 5 => 5 | 119 => 151 | 138 => 153 | 139 => 154 | n => n, fun | 3 => 5 | 4 => 6 | n => n⟩
theorem u8types : U8Types Go.Proofs.Tryz.prog ren := ⟨by kernel_rfl, by kernel_rfl, by kernel_rfl, by kernel_rfl⟩
theorem tabpow : (Rows.laid_internal_strconv_uint64pow10 : DataW Unit) = tabData .u64 Lib.pow10Tab := by kernel_rfl
theorem pow10 {W : World} (hL : laidMet Go.Proofs.Tryz.prog listed W) : Lib.TabIs Go.Proofs.Tryz.prog W "internal/strconv.uint64pow10" .u64 Lib.pow10Tab := by
  have hV := Lib.laidMet.reads hL (.tail _ (.tail _ (.head _)))
  rw [tabpow] at hV
  obtain ⟨g, t, cs, fuel, p, hg, hty, hvar, hd⟩ := hV
  obtain rfl := Option.some.inj ((show Go.Proofs.Tryz.prog.globalNamed "internal/strconv.uint64pow10" = some 2 by kernel_rfl).symm.trans hg)
  obtain rfl := Option.some.inj ((show (Go.Proofs.Tryz.prog.globals[2]?).map (·.type) = some 144 by kernel_rfl).symm.trans hty)
  have hcs := cells_of_tab Go.Proofs.Tryz.underlying144 Go.Proofs.Tryz.underlying122 (by kernel_rfl) (by kernel_rfl) hd
  unfold Lib.TabIs
  rw [hvar, ← hcs]
theorem lw_of_laid {W : World} (hL : laidMet Go.Proofs.Tryz.prog listed W) (hsh : W.ShapedOpen Go.Proofs.Tryz.prog) : LW W :=
  ⟨⟨utf8Tabs_of_readsT u8types ⟨by kernel_rfl, by kernel_rfl, by kernel_rfl, by kernel_rfl, by kernel_rfl, by kernel_rfl, by kernel_rfl⟩ (first_eq ▸ Lib.laidMet.reads hL (.tail _ (.tail _ (.tail _ (.tail _ (.tail _ (.tail _ (.tail _ (.head _))))))))) (accept_eq ▸ Lib.laidMet.reads hL (.tail _ (.tail _ (.tail _ (.head _))))), cell_of_shapedOpen_int hsh (g := 0) (t := 3) (zero := #[.int .i64 0]) (of_decide_eq_true (by kernel_rfl)) (by kernel_rfl) (by kernel_rfl) (by kernel_rfl) (by kernel_rfl) (by kernel_rfl)⟩, pow10 hL⟩
theorem laidH_iff {W : World} : laidMetH Go.Proofs.Tryz.prog listed W ↔ laidMet Go.Proofs.Tryz.prog listed W := by
  have e : (listed.filter fun x => x.2.handleName?.isSome) = [] := by kernel_rfl
  unfold laidMetH
  rw [e]
end Go.Proofs.YtipleegkonhfcaaGreatDoor.R
set_option linter.unusedSimpArgs false
set_option linter.unusedVariables false
set_option maxRecDepth 100000
namespace Go.Proofs.YtipleegkonhfcaaGreatDoor.R
open Go Go.RowKit Go.ChangeShapes Go.WideShapes Go.Proofs.YtipleegkonhfcaaGreatDoorW.PrintWords Go.Proofs.YtipleegkonhfcaaGreatDoorB Go.Proofs.YtipleegkonhfcaaGreatDoor.P Go.Proofs.YtipleegkonhfcaaGreatDoor.U Go.Proofs.YtipleegkonhfcaaGreatDoor.Q

theorem weightsAll_mem {H : Type} {P : Program} {e : TypeId} : ∀ {ds : List (DataW H)} {d : DataW H}, d ∈ ds → ∀ n ∈ d.weights P e, n ∈ DataW.weightsAll P e ds
  | [], d, h, n, hn => by simp at h
  | a :: r, d, h, n, hn => by
    rw [DataW.weightsAll, List.mem_append]
    rcases List.mem_cons.1 h with rfl | h
    · exact .inl hn
    · exact .inr (weightsAll_mem h n hn)
theorem open_headsF {H : Type} {enc : TypeId × Value → H} {W : World} {v : Value} {x : DataW H × List MemPlace} {fuel : Nat}
    (hf : DataW.trod enc Tryz.prog W 0 (fun _ => true) true fuel 24 [v] = some x) (hbd : ∀ n ∈ x.1.weights Tryz.prog 24, n ≤ reachBytes) :
    ∃ (a : Option Addr) (c : Nat) (l : List S67), v = .slice a l.length c ∧ Kd.C k67 W a l.length l ∧ l.length ≤ c ∧ Fits l := by
  rcases Go.Deep.open_slice_pairs Tryz.underlying24 Tryz.underlying67 (by kernel_rfl) rfl rfl (by kernel_rfl) (by kernel_rfl) hf with ⟨hcs, _⟩ | ⟨ad, ln, cp, m, n, V0, V1, D0, D1, P0, P1, hcs, _, hl, hm, hmm, hx, hcell⟩
  · simp at hcs
    subst hcs
    exact ⟨none, 0, [], rfl, ⟨rfl, by simp, fun h0 => absurd h0 (by simp)⟩, Nat.le_refl _, fun x hx => by simp at hx⟩
  · simp at hcs
    subst hcs
    have hmc : m = cp := by simpa using hmm
    have hx' := hx
    subst hmc
    have each : ∀ i, i < m → ∃ q : ByteArray × ByteArray, V0 i = .string q.1 ∧ V1 i = .string q.2 ∧ D0 i = .lit (.string q.1.data.toList) ∧ D1 i = .lit (.string q.2.data.toList) := fun i hi => by
      obtain ⟨_, _, h0, h1⟩ := hcell i hi
      obtain ⟨s0, e0, f0, _⟩ := DataW.trod_string Tryz.underlying9 h0
      obtain ⟨s1, e1, f1, _⟩ := DataW.trod_string Tryz.underlying9 h1
      simp only [List.cons.injEq, and_true] at e0 e1
      simp only [Prod.mk.injEq] at f0 f1
      exact ⟨(s0, s1), e0, e1, f0.1, f1.1⟩
    obtain ⟨q, hq⟩ := Go.Deep.choose_lt each
    refine ⟨some ad, m, (List.range ln).map fun i => ⟨(q i).1, (q i).2⟩, by simp, ⟨by simp, by simp; unfold maxLen at hm; omega, fun _ => ⟨ad, rfl, fun i y hi => ?_⟩⟩, by simpa using hl, fun y hy => ?_⟩
    · rw [List.getElem?_map] at hi
      obtain ⟨i', hi', rfl⟩ := Option.map_eq_some_iff.1 hi
      obtain ⟨hlt, rfl⟩ := List.getElem?_eq_some_iff.1 hi'
      rw [List.length_range] at hlt
      rw [List.getElem_range]
      obtain ⟨g0, g1, _, _⟩ := hcell i (by omega)
      obtain ⟨e0, e1, _, _⟩ := hq i (by omega)
      refine ⟨_, rfl, k67_mk _ _, fun k u hu => ?_⟩
      match k, hu with
      | 0, hu =>
        obtain rfl : Value.string (q i).1 = u := by simpa using hu
        rw [← e0]; exact g0
      | 1, hu =>
        obtain rfl : Value.string (q i).2 = u := by simpa using hu
        rw [← e1]; exact g1
    · obtain ⟨i, hi, rfl⟩ := List.mem_map.1 hy
      have hlt : i < ln := List.mem_range.1 hi
      obtain ⟨_, _, f0, f1⟩ := hq i (by omega)
      have hd' := congrArg Prod.fst hx'
      have hag : (DataW.agg [D0 i, D1 i] : DataW H).weights Tryz.prog 67 = [(q i).1.data.toList.length, (q i).2.data.toList.length] := by
        rw [f0, f1]
        unfold DataW.weights
        rw [Tryz.underlying67]
        rfl
      have key : ∀ nn ∈ [(q i).1.data.toList.length, (q i).2.data.toList.length], nn ≤ reachBytes := fun nn hnn => by
        refine hbd nn ?_
        rw [hd']
        unfold DataW.weights
        rw [Tryz.underlying24]
        exact List.mem_cons_of_mem _ (List.mem_append_left _ (weightsAll_mem (List.mem_map.2 ⟨i, List.mem_range.2 hlt, rfl⟩) nn (by rw [hag]; exact hnn)))
      have k0 := key _ (List.mem_cons_self ..)
      have k1 := key _ (List.mem_cons_of_mem _ (List.mem_cons_self ..))
      unfold reachBytes at k0 k1
      rw [data_length] at k0 k1
      exact ⟨Nat.le_trans k0 (by decide), Nat.le_trans k1 (by decide)⟩
theorem open_bytesF {H : Type} {enc : TypeId × Value → H} {W : World} {v : Value} {x : DataW H × List MemPlace} {fuel : Nat} (hf : DataW.trod enc Tryz.prog W 0 (fun _ => true) true fuel 22 [v] = some x) :
    ∃ (a : Option Addr) (c : Nat) (l : List Int), v = .slice a l.length c ∧ Kd.C (Kd.int .u8) W a l.length l ∧ l.length ≤ c ∧ ∀ n ∈ l, 0 ≤ n ∧ n < 256 := by
  rcases open_ints Tryz.underlying22 Tryz.underlying5 (by kernel_rfl) hf with ⟨hcs, _⟩ | ⟨y, l, c, zs, hcs, _, hl, hm, hz, _, hcell, hwz⟩
  · simp at hcs
    subst hcs
    exact ⟨none, 0, [], rfl, ⟨rfl, by simp, fun h0 => absurd h0 (by simp)⟩, Nat.le_refl _, fun x hx => by simp at hx⟩
  · simp at hcs
    subst hcs
    obtain ⟨l1, e1, hr1, hm1, hw1, hc1⟩ := ReadsInt.ofRowC (k := .u8) (w := W) (a := some y) (len := l) (cap := c) (zs := zs) (.inr ⟨_, rfl, hl, hm, by simpa using hz, hcell, hwz⟩)
    subst e1
    exact ⟨some y, c, l1, rfl, Kd.C_of_reads (d := (0 : Int)) (h1 := fun _ => rfl) hr1, hc1, range_u8 hw1⟩
theorem array4 {α : Type} {cs : Array α} (h : cs.size = 4) : ∃ c0 c1 c2 c3, cs = #[c0, c1, c2, c3] := by
  obtain ⟨l⟩ := cs
  match l, h with
  | [c0, c1, c2, c3], _ => exact ⟨c0, c1, c2, c3, rfl⟩
theorem list4 {α : Type} {l : List α} (h : l.length = 4) : ∃ c0 c1 c2 c3, l = [c0, c1, c2, c3] := by
  match l, h with
  | [c0, c1, c2, c3], _ => exact ⟨c0, c1, c2, c3, rfl⟩
theorem cells1s : Tryz.prog.cellsOf 9 = 1 := by kernel_rfl
theorem cells1h : Tryz.prog.cellsOf 24 = 1 := by kernel_rfl
theorem cells1b : Tryz.prog.cellsOf 22 = 1 := by kernel_rfl
end Go.Proofs.YtipleegkonhfcaaGreatDoor.R
set_option linter.unusedSimpArgs false
set_option linter.unusedVariables false
set_option maxRecDepth 100000
namespace Go.Proofs.YtipleegkonhfcaaGreatDoor.R
open Go Go.RowKit Go.ChangeShapes Go.WideShapes Go.Proofs.YtipleegkonhfcaaGreatDoorW.PrintWords Go.Proofs.YtipleegkonhfcaaGreatDoorB Go.Proofs.YtipleegkonhfcaaGreatDoor.P Go.Proofs.YtipleegkonhfcaaGreatDoor.U Go.Proofs.YtipleegkonhfcaaGreatDoor.Q

theorem cells1i : Tryz.prog.cellsOf 3 = 1 := by kernel_rfl
theorem cells4s : Tryz.prog.cellsOf 41 = 4 := by kernel_rfl
theorem open_resp {H : Type} {enc : TypeId × Value → H} {W : World} {v : Value} {d : DataW H} {p : List MemPlace} {r : Reach} {b0 : Nat} (hv : Value.okWide Tryz.prog W r b0 41 v)
    (h : DataW.Trod enc Tryz.prog W 0 (fun _ => true) true 41 v d p) {ts : List TypeId} {ds : List (DataW H)} {j : Nat}
    (hsz : (DataW.weightsEach Tryz.prog ts ds).all (· ≤ reachBytes) = true) (ht : ts[j]? = some 41) (hd : ds[j]? = some d) :
    ∃ (s0 : Int) (s1 : ByteArray) (A2 : Option Addr) (c2 : Nat) (l2 : List S67) (A3 : Option Addr) (c3 : Nat) (l3 : List Int), v = .agg #[.int .i64 s0, .string s1, .slice A2 l2.length c2, .slice A3 l3.length c3] ∧ Kd.C k67 W A2 l2.length l2 ∧ l2.length ≤ c2 ∧ Fits l2 ∧ Kd.C (Kd.int .u8) W A3 l3.length l3 ∧ l3.length ≤ c3 ∧ ∀ n ∈ l3, 0 ≤ n ∧ n < 256 := by
  obtain ⟨cs, rfl, hcs⟩ := okWide_struct Tryz.underlying41 hv
  obtain ⟨e0, e1, e2, e3, rfl⟩ := array4 (hcs.trans cells4s)
  obtain ⟨fuel, hf⟩ := h
  obtain ⟨xs, n, _, hx, _, hl, hel⟩ := DataW.trod_struct Tryz.underlying41 hf
  obtain ⟨x0, x1, x2, x3, rfl⟩ := list4 hl
  have g0 : DataW.trod enc Tryz.prog W 0 (fun _ => true) true n 3 [e0] = some x0 := by simpa [Value.cells, cells1i] using hel 0 _ rfl
  have g1 : DataW.trod enc Tryz.prog W 0 (fun _ => true) true n 9 [e1] = some x1 := by simpa [Value.cells, cells1s] using hel 1 _ rfl
  have g2 : DataW.trod enc Tryz.prog W 0 (fun _ => true) true n 24 [e2] = some x2 := by simpa [Value.cells, cells1h] using hel 2 _ rfl
  have g3 : DataW.trod enc Tryz.prog W 0 (fun _ => true) true n 22 [e3] = some x3 := by simpa [Value.cells, cells1b] using hel 3 _ rfl
  obtain ⟨s0, q0, _, _⟩ := DataW.trod_int Tryz.underlying3 g0
  obtain ⟨s1, q1, _, _⟩ := DataW.trod_string Tryz.underlying9 g1
  simp only [List.cons.injEq, and_true] at q0 q1
  subst q0 q1
  have hdd : d = .agg [x0.1, x1.1, x2.1, x3.1] := congrArg Prod.fst hx
  have hbd : ∀ nn ∈ x2.1.weights Tryz.prog 24, nn ≤ reachBytes := by
    intro nn hnn
    have hmem : nn ∈ d.weights Tryz.prog 41 := by
      rw [hdd]
      unfold DataW.weights
      rw [Tryz.underlying41]
      exact DataW.weights_mem_each (ts := [3, 9, 24, 22]) (ds := [x0.1, x1.1, x2.1, x3.1]) (j := 2) rfl rfl nn hnn
    have := List.all_eq_true.1 hsz nn (DataW.weights_mem_each ht hd nn hmem)
    simpa using this
  obtain ⟨A2, c2, l2, rfl, a1, a2, a3⟩ := open_headsF g2 hbd
  obtain ⟨A3, c3, l3, rfl, b1, b2, b3⟩ := open_bytesF g3
  exact ⟨s0, s1, A2, c2, l2, A3, c3, l3, rfl, a1, a2, a3, b1, b2, b3⟩
end Go.Proofs.YtipleegkonhfcaaGreatDoor.R
