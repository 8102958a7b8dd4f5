/- A slice of slices of bytes that came in, opened: its pieces, and how long they may be. -/
import Derived.Test.YtgkcdnkkdhmjfaaDoorD7
import Derived.Deep.Slices
import Derived.ChangeSlices
import Derived.SizedLaws
import Derived.ChangeArms
set_option linter.unusedSimpArgs false
set_option linter.unusedVariables false
namespace Go.Proofs.YtgkcdnkkdhmjfaaDoor.Q
open Go Go.RowKit Go.ChangeShapes Go.WideShapes Go.Proofs.YtgkcdnkkdhmjfaaDoorW.PrintWords Go.Proofs.YtgkcdnkkdhmjfaaDoorB Go.Proofs.YtgkcdnkkdhmjfaaDoor.E Go.Proofs.YtgkcdnkkdhmjfaaDoor.P

theorem weightsAll_mem {H : Type} {P : Program} {e : TypeId} : ∀ {ds : List (DataW H)} {d : DataW H}, d ∈ ds → ∀ n ∈ d.weights P e, n ∈ DataW.weightsAll P e ds
  | [], d, h, n, hn => by simp at h
  | a :: r, d, h, n, hn => by
    rw [DataW.weightsAll, List.mem_append]
    rcases List.mem_cons.1 h with rfl | h
    · exact .inl hn
    · exact .inr (weightsAll_mem h n hn)
def FitsP (l : List (List Int)) : Prop := l.length ≤ 140737488351232 ∧ ∀ p ∈ l, p.length ≤ 140737488351232 ∧ ∀ n ∈ p, (Lit.int .u8 n).wf = true
set_option maxRecDepth 100000 in
theorem open_pieces {H : Type} {enc : TypeId × Value → H} {W : World} {a : Option Addr} {len cap : Nat} {d : DataW H} {p : List MemPlace}
    (h : DataW.Trod enc Tryd.prog W 0 (fun _ => true) true 28 (.slice a len cap) d p) {ts : List TypeId} {ds : List (DataW H)} {j : Nat}
    (hsz : (DataW.weightsEach Tryd.prog ts ds).all (· ≤ reachBytes) = true) (ht : ts[j]? = some 28) (hd : ds[j]? = some d) :
    ∃ l : List (List Int), len = l.length ∧ Kd.C (Kd.slice 5 (Kd.int .u8)) W a l.length l ∧ l.length ≤ cap ∧ FitsP l := by
  obtain ⟨fuel, hf⟩ := h
  rcases Go.Deep.open_slice1 Tryd.underlying28 (by kernel_rfl) hf with ⟨hcs, _⟩ | ⟨ad, ln, cp, m, n, V, D, Pl, hcs, _, hl, hm, hmm, hx, hcell⟩
  · simp [Value.cells] at hcs
    obtain ⟨rfl, rfl, rfl⟩ := hcs
    exact ⟨[], rfl, ⟨rfl, by simp, fun h0 => absurd h0 (by simp)⟩, Nat.le_refl _, by simp, fun x hx => by simp at hx⟩
  · simp [Value.cells] at hcs
    obtain ⟨rfl, rfl, rfl⟩ := hcs
    have hmc : m = cap := by simpa using hmm
    have hx' := hx
    subst hmc
    have each : ∀ i, i < m → ∃ q : List Int × Option Addr × Nat, V i = .slice q.2.1 q.1.length q.2.2 ∧ q.1.length ≤ q.2.2 ∧ (Kd.int .u8).C W q.2.1 q.1.length q.1 ∧ (∀ n ∈ q.1, (Lit.int .u8 n).wf = true) ∧ (q.1 = [] ∨ ∃ c, c ∈ (D i).weights Tryd.prog 22 ∧ q.1.length ≤ c) := fun i hi => by
      obtain ⟨_, h0⟩ := hcell i hi
      rcases open_ints Tryd.underlying22 Tryd.underlying5 (by kernel_rfl) h0 with ⟨hcs, _⟩ | ⟨x, l, c, zs, hcs, _, hl2, hm2, hz, hxd, hce, hwz⟩
      · have e : V i = .slice none 0 0 := by simpa using hcs
        exact ⟨([], none, 0), e, Nat.le_refl _, ⟨rfl, by simp, fun h0 => absurd h0 (by simp)⟩, by simp, Or.inl rfl⟩
      · have e : V i = .slice (some x) l c := by simpa using hcs
        have hzc : zs.length = c := by simpa using hz
        obtain ⟨l1, rfl, hr1, hm1, hw1, hc1⟩ := ReadsInt.ofRowC (k := .u8) (w := W) (a := some x) (len := l) (cap := c) (zs := zs) (.inr ⟨_, rfl, hl2, hm2, hzc, hce, hwz⟩)
        refine ⟨(l1, some x, c), e, hc1, Kd.C_of_reads (d := (0 : Int)) (h1 := fun _ => rfl) hr1, hw1, Or.inr ⟨c, ?_, hc1⟩⟩
        have hd1 : D i = .slice (lits .u8 (zs.take l1.length)) (lits .u8 (zs.drop l1.length)) := (Prod.mk.inj hxd).1
        rw [hd1]
        unfold DataW.weights
        rw [Tryd.underlying22]
        have hb : Tryd.prog.bytesOf 5 = 1 := by kernel_rfl
        dsimp only
        rw [hb]
        refine List.mem_cons.2 (Or.inl ?_)
        simp [lits]
        omega
    obtain ⟨q, hq⟩ := Go.Deep.choose_lt each
    obtain ⟨hd', _⟩ := Prod.mk.inj hx'
    have key : ∀ nn ∈ d.weights Tryd.prog 28, nn ≤ reachBytes := fun nn hnn => by
      have := List.all_eq_true.1 hsz nn (DataW.weights_mem_each ht hd nn hnn)
      simpa using this
    have hb24 : Tryd.prog.bytesOf 22 = 24 := by kernel_rfl
    have hwd : d.weights Tryd.prog 28 = (((List.range len).map D).length + ((List.range (m - len)).map fun j => D (len + j)).length) * 24 :: (DataW.weightsAll Tryd.prog 22 ((List.range len).map D) ++ DataW.weightsAll Tryd.prog 22 ((List.range (m - len)).map fun j => D (len + j))) := by
      rw [hd']
      conv => lhs; unfold DataW.weights
      rw [Tryd.underlying28]
      dsimp only
      rw [hb24]
    have k0 := key _ (by rw [hwd]; exact List.mem_cons_self ..)
    simp only [List.length_map, List.length_range] at k0
    have hr : reachBytes = 140737488351232 := rfl
    refine ⟨(List.range len).map fun i => (q i).1, by simp, ⟨by simp, by simp; unfold maxLen at hm; omega, fun _ => ⟨ad, rfl, fun i x hi => ?_⟩⟩, by simpa using hl, by simp; omega, fun x hx => ?_⟩
    · rw [List.getElem?_map] at hi
      obtain ⟨i', hi', rfl⟩ := Option.map_eq_some_iff.1 hi
      obtain ⟨hlt, rfl⟩ := List.getElem?_eq_some_iff.1 hi'
      rw [List.length_range] at hlt
      rw [List.getElem_range]
      obtain ⟨g0, _⟩ := hcell i (by omega)
      obtain ⟨e0, e1, e2, _⟩ := hq i (by omega)
      refine ⟨_, rfl, ⟨_, _, rfl, e1, e2⟩, fun k u hu => ?_⟩
      match k, hu with
      | 0, hu =>
        obtain rfl : Value.slice (q i).2.1 (q i).1.length (q i).2.2 = u := by simpa using hu
        rw [← e0]
        show W.cell? (ad.add (i * 1 + 0)) = _
        rw [Nat.mul_one, Nat.add_zero]
        exact g0
    · obtain ⟨i, hi, rfl⟩ := List.mem_map.1 hx
      have hlt : i < len := List.mem_range.1 hi
      obtain ⟨_, _, _, e3, e4⟩ := hq i (by omega)
      refine ⟨?_, e3⟩
      rcases e4 with e4 | ⟨c, e4, e5⟩
      · rw [e4]; simp
      · have := key c (by
          rw [hwd]
          exact List.mem_cons_of_mem _ (List.mem_append_left _ (weightsAll_mem (List.mem_map.2 ⟨i, List.mem_range.2 hlt, rfl⟩) c e4)))
        omega
theorem ints_u8 {l : List Int} (h : ∀ x ∈ l, (Lit.int .u8 x).wf = true) : ∀ n ∈ l, 0 ≤ n ∧ n < 256 := fun n hn => by
  have := h n hn
  simp [Lit.wf, IntKind.min, IntKind.max, IntKind.signed, IntKind.bits] at this
  omega
theorem nums_pieces (l : List (List Int)) (h : FitsP l) : ∃ L : List (List UInt8), l = L.map nums ∧ L.length ≤ 140737488351232 ∧ ∀ p ∈ L, p.length ≤ 140737488351232 := by
  refine ⟨l.map Lib.bytesOf, ?_, by rw [List.length_map]; exact h.1, ?_⟩
  · rw [List.map_map]
    conv => lhs; rw [← List.map_id l]
    exact List.map_congr_left fun p hp => (nums_of (ints_u8 (h.2 p hp).2)).symm
  · intro p hp
    obtain ⟨q, hq, rfl⟩ := List.mem_map.1 hp
    have e := congrArg List.length (nums_of (ints_u8 (h.2 q hq).2))
    rw [nums_length] at e
    rw [e]
    exact (h.2 q hq).1
theorem ChunkEncodes_row (l : List (List Int)) (hf : FitsP l) (more : List Int) (hm : ∀ n ∈ more, 0 ≤ n ∧ n < 256) : ∃ k, lanternlaw10_ChunkEncodes.f k l more = some true := by
  obtain ⟨L, rfl, h1, h2⟩ := nums_pieces l hf
  obtain ⟨bs, rfl⟩ : ∃ bs, more = nums bs := ⟨Lib.bytesOf more, (nums_of hm).symm⟩
  exact ChunkEncodes_plain L bs (by omega) (fun p hp => by have := h2 p hp; omega)
end Go.Proofs.YtgkcdnkkdhmjfaaDoor.Q
