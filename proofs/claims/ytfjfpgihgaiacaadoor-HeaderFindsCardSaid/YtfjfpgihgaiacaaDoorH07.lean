/- A slice of headers that came in, opened. (Put together by wip/gen/pick.py.) -/
import Derived.Test.YtfjfpgihgaiacaaDoorH06
import Derived.Deep.SlicePairs
import Derived.SizedLaws
import Derived.ChangeArms
set_option linter.unusedSimpArgs false
set_option linter.unusedVariables false
set_option maxRecDepth 10000
namespace Go.Proofs.YtfjfpgihgaiacaaDoor.Q
open Go Go.RowKit Go.ChangeShapes Go.WideShapes Go.Proofs.YtfjfpgihgaiacaaDoorW.PrintWords Go.Proofs.YtfjfpgihgaiacaaDoorB Go.Proofs.YtfjfpgihgaiacaaDoor.P

theorem weightsAll_mem {H : Type} {P : Program} {e : TypeId} : ∀ {ds : List (DataW H)} {d : DataW H}, d ∈ ds → ∀ n ∈ d.weights P e, n ∈ DataW.weightsAll P e ds
  | [], d, h, n, hn => by simp at h
  | a :: r, d, h, n, hn => by
    rw [DataW.weightsAll, List.mem_append]
    rcases List.mem_cons.1 h with rfl | h
    · exact .inl hn
    · exact .inr (weightsAll_mem h n hn)
set_option maxRecDepth 100000 in
theorem open_heads {H : Type} {enc : TypeId × Value → H} {W : World} {a : Option Addr} {len cap : Nat} {d : DataW H} {p : List MemPlace}
    (h : DataW.Trod enc Tryd.prog W 0 (fun _ => true) true 24 (.slice a len cap) d p) {ts : List TypeId} {ds : List (DataW H)} {j : Nat}
    (hsz : (DataW.weightsEach Tryd.prog ts ds).all (· ≤ reachBytes) = true) (ht : ts[j]? = some 24) (hd : ds[j]? = some d) :
    ∃ l : List S39, len = l.length ∧ Kd.C k39 W a l.length l ∧ l.length ≤ cap ∧ Fits l := by
  obtain ⟨fuel, hf⟩ := h
  rcases Go.Deep.open_slice_pairs Tryd.underlying24 Tryd.underlying39 (by kernel_rfl) rfl rfl (by kernel_rfl) (by kernel_rfl) hf with ⟨hcs, _⟩ | ⟨ad, ln, cp, m, n, V0, V1, D0, D1, P0, P1, hcs, _, hl, hm, hmm, hx, hcell⟩
  · simp [Value.cells] at hcs
    obtain ⟨rfl, rfl, rfl⟩ := hcs
    exact ⟨[], rfl, ⟨rfl, by simp, fun h0 => absurd h0 (by simp)⟩, Nat.le_refl _, fun x hx => by simp at hx⟩
  · simp [Value.cells] at hcs
    obtain ⟨rfl, rfl, rfl⟩ := hcs
    have hmc : m = cap := by simpa using hmm
    have hx' := hx
    subst hmc
    have each : ∀ i, i < m → ∃ q : ByteArray × ByteArray, V0 i = .string q.1 ∧ V1 i = .string q.2 ∧ D0 i = .lit (.string q.1.data.toList) ∧ D1 i = .lit (.string q.2.data.toList) := fun i hi => by
      obtain ⟨_, _, h0, h1⟩ := hcell i hi
      obtain ⟨s0, e0, f0, _⟩ := DataW.trod_string Tryd.underlying9 h0
      obtain ⟨s1, e1, f1, _⟩ := DataW.trod_string Tryd.underlying9 h1
      simp only [List.cons.injEq, and_true] at e0 e1
      simp only [Prod.mk.injEq] at f0 f1
      exact ⟨(s0, s1), e0, e1, f0.1, f1.1⟩
    obtain ⟨q, hq⟩ := Go.Deep.choose_lt each
    refine ⟨(List.range len).map fun i => ⟨(q i).1, (q i).2⟩, by simp, ⟨by simp, by simp; unfold maxLen at hm; omega, fun _ => ⟨ad, rfl, fun i x hi => ?_⟩⟩, by simpa using hl, fun x hx => ?_⟩
    · rw [List.getElem?_map] at hi
      obtain ⟨i', hi', rfl⟩ := Option.map_eq_some_iff.1 hi
      obtain ⟨hlt, rfl⟩ := List.getElem?_eq_some_iff.1 hi'
      rw [List.length_range] at hlt
      rw [List.getElem_range]
      obtain ⟨g0, g1, _, _⟩ := hcell i (by omega)
      obtain ⟨e0, e1, _, _⟩ := hq i (by omega)
      refine ⟨_, rfl, k39_mk _ _, fun k u hu => ?_⟩
      match k, hu with
      | 0, hu =>
        obtain rfl : Value.string (q i).1 = u := by simpa using hu
        rw [← e0]; exact g0
      | 1, hu =>
        obtain rfl : Value.string (q i).2 = u := by simpa using hu
        rw [← e1]; exact g1
    · obtain ⟨i, hi, rfl⟩ := List.mem_map.1 hx
      have hlt : i < len := List.mem_range.1 hi
      obtain ⟨_, _, f0, f1⟩ := hq i (by omega)
      obtain ⟨hd', _⟩ := Prod.mk.inj hx'
      have hag : (DataW.agg [D0 i, D1 i] : DataW H).weights Tryd.prog 39 = [(q i).1.data.toList.length, (q i).2.data.toList.length] := by
        rw [f0, f1]
        unfold DataW.weights
        rw [Tryd.underlying39]
        rfl
      have key : ∀ nn ∈ [(q i).1.data.toList.length, (q i).2.data.toList.length], nn ≤ reachBytes := fun nn hnn => by
        have hmem : nn ∈ d.weights Tryd.prog 24 := by
          rw [hd']
          unfold DataW.weights
          rw [Tryd.underlying24]
          exact List.mem_cons_of_mem _ (List.mem_append_left _ (weightsAll_mem (List.mem_map.2 ⟨i, List.mem_range.2 hlt, rfl⟩) nn (by rw [hag]; exact hnn)))
        have := List.all_eq_true.1 hsz nn (DataW.weights_mem_each ht hd nn hmem)
        simpa using this
      have k0 := key _ (List.mem_cons_self ..)
      have k1 := key _ (List.mem_cons_of_mem _ (List.mem_cons_self ..))
      unfold reachBytes at k0 k1
      rw [data_length] at k0 k1
      exact ⟨Nat.le_trans k0 (by decide), Nat.le_trans k1 (by decide)⟩
end Go.Proofs.YtfjfpgihgaiacaaDoor.Q
