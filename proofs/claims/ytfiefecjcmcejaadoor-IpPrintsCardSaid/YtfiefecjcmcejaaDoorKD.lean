/- The law IpPrints, plainly: groups are read back: their parts. -/
import Derived.Test.YtfiefecjcmcejaaDoorKC
set_option linter.unusedSimpArgs false
set_option linter.unusedVariables false
set_option maxRecDepth 10000
namespace Go.Proofs.YtfiefecjcmcejaaDoor.Q
open Go Go.RowKit Go.Lib Go.Proofs.YtfiefecjcmcejaaDoorW.PrintWords Go.Proofs.YtfiefecjcmcejaaDoorW.PrintMore Go.Proofs.YtfiefecjcmcejaaDoorB Go.Proofs.YtfiefecjcmcejaaDoor.E Go.Proofs.YtfiefecjcmcejaaDoorV Go.Proofs.YtfiefecjcmcejaaDoor.P

theorem join_cons (c : UInt8) (x y : List UInt8) (u : List (List UInt8)) : Lib.join (x :: y :: u) [c] = x ++ c :: Lib.join (y :: u) [c] := by simp [Lib.join, List.intercalate, List.intersperse]
theorem join_single (c : UInt8) (x : List UInt8) : Lib.join [x] [c] = x := by simp [Lib.join, List.intercalate, List.intersperse]
theorem splitS_join (c : UInt8) : ∀ (l : List (List UInt8)), l ≠ [] → (∀ x ∈ l, ∀ b ∈ x, b ≠ c) → splitS c (Lib.join l [c]) = l
  | [x], _, h => by rw [join_single, splitS_word c x (h x (by simp))]
  | x :: y :: u, _, h => by rw [join_cons, splitS_dot c _ x (h x (by simp)), splitS_join c (y :: u) (by simp) fun z hz => h z (by simp [hz])]
theorem dc_no58 : ∀ d : Fin 16, dc d.val ≠ 58 := by decide
theorem digL_no (base n : Nat) (hb : 2 ≤ base ∧ base ≤ 16) : ∀ b ∈ digL base n, b ≠ 58 ∧ b ≠ 46 := by
  intro b hb'
  obtain ⟨d, hd, rfl⟩ := digL_mem base hb n b hb'
  exact ⟨dc_no58 ⟨d, hd⟩, (dc_facts ⟨d, hd⟩).2.1⟩
theorem hexT_split (ns : List Nat) (h : ns ≠ []) : splitS 58 (hexT ns) = ns.map (digL 16) := by
  unfold hexT
  refine splitS_join 58 _ (by simpa using h) ?_
  intro x hx b hb
  obtain ⟨n, _, rfl⟩ := List.mem_map.1 hx
  exact (digL_no 16 n (by omega) b hb).1

def bytesG (ns : List Nat) : List Int := ns.flatMap fun n => [((n / 256 : Nat) : Int), ((n % 256 : Nat) : Int)]
theorem digL_ne (base n : Nat) : digL base n ≠ [] := by
  rw [digL]
  split <;> simp
theorem hd4 (n : Nat) (hn : n < 65536) : (digL 16 n).length ≤ 4 := by
  by_cases h1 : n < 16
  · rw [digL_lt 16 n h1]; simp
  · rw [digL_ge 16 n (by decide) (by omega), List.length_append, List.length_singleton]
    by_cases h2 : n / 16 < 16
    · rw [digL_lt 16 _ h2]; simp
    · rw [digL_ge 16 (n / 16) (by decide) (by omega), List.length_append, List.length_singleton]
      by_cases h3 : n / 16 / 16 < 16
      · rw [digL_lt 16 _ h3]; simp
      · rw [digL_ge 16 (n / 16 / 16) (by decide) (by omega), List.length_append, List.length_singleton, digL_lt 16 _ (by omega)]; simp
theorem four_none (l : List UInt8) (h : ∀ b ∈ l, b ≠ 46) : fourV l = none := by
  unfold fourV
  rw [splitS_word 46 l h]
  rfl
theorem groupsP_hex (tail : Bool) : ∀ (ns : List Nat) (acc : List Int), (∀ x ∈ ns, x < 65536) → groupsP tail (ns.map (digL 16)) acc = some (acc ++ bytesG ns)
  | [], acc, _ => by simp [groupsP, bytesG]
  | n :: t, acc, h => by
    have hn := h n (by simp)
    have h4 : (if tail = true ∧ t.map (digL 16) = [] then fourV (digL 16 n) else none) = none := by
      split
      · exact four_none _ fun b hb => (digL_no 16 n (by omega) b hb).2
      · rfl
    rw [List.map_cons, groupsP, h4]
    dsimp only
    rw [digL_num 16 (by omega) n]
    dsimp only
    rw [if_pos ⟨digL_ne 16 n, hn, hd4 n hn⟩, groupsP_hex tail t _ fun x hx => h x (by simp [hx])]
    simp [bytesG]
theorem groupsV_hex (tail : Bool) (ns : List Nat) (h : ∀ x ∈ ns, x < 65536) : groupsV tail (hexT ns) = some (bytesG ns) := by
  unfold groupsV
  cases ns with
  | nil => rfl
  | cons n t =>
    rw [if_neg, hexT_split _ (by simp), groupsP_hex tail _ _ h, List.nil_append]
    intro e
    have := hexT_split (n :: t) (by simp)
    rw [e] at this
    simp [splitS] at this
    exact digL_ne 16 n this.1

def bump (m : Nat) (x : Int) : Int := if x = -1 then -1 else x + m
theorem idx_cons (b : UInt8) (l s : List UInt8) (h : s.isPrefixOf (b :: l) = false) : Lib.index (b :: l) s = bump 1 (Lib.index l s) := by
  rw [Lib.index, if_neg (by rw [h]; decide)]
  unfold bump
  by_cases e : Lib.index l s = -1
  · rw [if_pos e, if_pos (by rw [e]; rfl)]
  · rw [if_neg e, if_neg (by simpa using e)]
    rfl
theorem bump_bump (a b : Nat) (x : Int) (hx : -1 ≤ x) : bump a (bump b x) = bump (b + a) x := by
  unfold bump
  by_cases e : x = -1
  · rw [if_pos e, if_pos rfl, if_pos e]
  · rw [if_neg e, if_neg (by omega), if_neg e]
    omega
theorem pre_not {b : UInt8} (l : List UInt8) (h : b ≠ 58) : ([58, 58] : List UInt8).isPrefixOf (b :: l) = false := by
  simp [List.isPrefixOf]
  intro e
  exact absurd e.symm h
theorem idx_word : ∀ (w r : List UInt8), (∀ b ∈ w, b ≠ 58) → Lib.index (w ++ r) [58, 58] = bump w.length (Lib.index r [58, 58])
  | [], r, _ => by
    unfold bump
    by_cases e : Lib.index r [58, 58] = -1
    · rw [if_pos e]; exact e
    · rw [if_neg e]; simp
  | b :: w, r, h => by
    rw [List.cons_append, idx_cons _ _ _ (pre_not _ (h b (by simp))), idx_word w r fun x hx => h x (by simp [hx]), bump_bump _ _ _ (Lib.index_ge _ _)]
    rfl
theorem idx_join (t : List UInt8) : ∀ ws : List (List UInt8), (∀ w ∈ ws, w ≠ [] ∧ ∀ b ∈ w, b ≠ 58) → Lib.index (Lib.join ws [58] ++ t) [58, 58] = bump (Lib.join ws [58]).length (Lib.index t [58, 58])
  | [], _ => by
    have := idx_word [] t (by simp)
    exact this
  | [w], h => by
    rw [join_single]
    exact idx_word w t (h w (by simp)).2
  | w :: x :: u, h => by
    have ih := idx_join t (x :: u) fun y hy => h y (by simp [hy])
    obtain ⟨hx1, hx2⟩ := h x (by simp)
    have hp : ([58, 58] : List UInt8).isPrefixOf (58 :: (Lib.join (x :: u) [58] ++ t)) = false := by
      obtain ⟨b, x', rfl⟩ := List.exists_cons_of_ne_nil hx1
      have hb := hx2 b (by simp)
      have hj : ∃ v, Lib.join ((b :: x') :: u) [58] = b :: v := by
        cases u with
        | nil => exact ⟨x', join_single 58 _⟩
        | cons y u => rw [join_cons]; exact ⟨_, rfl⟩
      obtain ⟨v, hv⟩ := hj
      rw [hv]
      simp [List.isPrefixOf]
      intro e
      exact absurd e.symm hb
    rw [join_cons, List.append_assoc, List.cons_append, idx_word w _ (h w (by simp)).2, idx_cons _ _ _ hp, ih, bump_bump _ _ _ (by unfold bump; have := Lib.index_ge t [58, 58]; split <;> omega), bump_bump _ _ _ (Lib.index_ge _ _)]
    congr 1
    simp
    omega
theorem digs_ok (ns : List Nat) : ∀ w ∈ ns.map (digL 16), w ≠ [] ∧ ∀ b ∈ w, b ≠ 58 := by
  intro w hw
  obtain ⟨n, _, rfl⟩ := List.mem_map.1 hw
  exact ⟨digL_ne 16 n, fun b hb => (digL_no 16 n (by omega) b hb).1⟩
theorem cut_hex (ns : List Nat) : Lib.cut (hexT ns) [58, 58] = (hexT ns, [], false) := by
  have := idx_join [] (ns.map (digL 16)) (digs_ok ns)
  rw [List.append_nil] at this
  have e : Lib.index (hexT ns) [58, 58] = -1 := this
  unfold Lib.cut
  rw [e, if_neg (by decide)]
theorem cut_gap (ms ns : List Nat) : Lib.cut (hexT ms ++ 58 :: 58 :: hexT ns) [58, 58] = (hexT ms, hexT ns, true) := by
  have := idx_join (58 :: 58 :: hexT ns) (ms.map (digL 16)) (digs_ok ms)
  have e0 : Lib.index (58 :: 58 :: hexT ns) [58, 58] = 0 := by rw [Lib.index, if_pos (by simp [List.isPrefixOf])]
  have e : Lib.index (hexT ms ++ 58 :: 58 :: hexT ns) [58, 58] = ((hexT ms).length : Int) := by
    refine this.trans ?_
    rw [e0]
    unfold bump
    rw [if_neg (by decide), Int.zero_add]
    rfl
  unfold Lib.cut
  rw [e, if_pos (by omega), Int.toNat_natCast, List.take_left]
  simp [List.drop_append]
theorem index_of_mem (c : UInt8) : ∀ l : List UInt8, c ∈ l → 0 ≤ Lib.index l [c]
  | b :: l, h => by
    rw [Lib.index]
    split
    · exact Int.le_refl _
    · rename_i hp
      have hne : c ≠ b := by
        intro e
        apply hp
        simp [List.isPrefixOf, e]
      have ih := index_of_mem c l (by simpa [hne] using h)
      rw [if_neg (by simp; omega)]
      omega
theorem contains_of (c : UInt8) (l : List UInt8) (h : c ∈ l) : Lib.contains l [c] = true := decide_eq_true (index_of_mem c l h)
theorem hexT_len4 (ns : List Nat) (h : ∀ n ∈ ns, n < 65536) : (hexT ns).length ≤ ns.length * 5 := by
  have := join_len (ns.map (digL 16)) 4 (by
    intro x hx
    obtain ⟨n, hn, rfl⟩ := List.mem_map.1 hx
    exact hd4 n (h n hn))
  rwa [List.length_map] at this
theorem join_mem (c x : UInt8) : ∀ l : List (List UInt8), x ∈ Lib.join l [c] → x = c ∨ ∃ w ∈ l, x ∈ w
  | [], h => by simp [Lib.join] at h
  | [w], h => by
    rw [join_single] at h
    exact Or.inr ⟨w, by simp, h⟩
  | w :: y :: u, h => by
    rw [join_cons] at h
    rcases List.mem_append.1 h with h | h
    · exact Or.inr ⟨w, by simp, h⟩
    · rcases List.mem_cons.1 h with h | h
      · exact Or.inl h
      · rcases join_mem c x (y :: u) h with h | ⟨z, hz, h⟩
        · exact Or.inl h
        · exact Or.inr ⟨z, by simp [hz], h⟩
theorem hexT_dot (ns : List Nat) : ∀ b ∈ hexT ns, b ≠ 46 := by
  intro b hb
  rcases join_mem 58 b _ hb with rfl | ⟨w, hw, h⟩
  · decide
  · obtain ⟨n, _, rfl⟩ := List.mem_map.1 hw
    exact (digL_no 16 n (by omega) b h).2
theorem shortT_dot (a n : Nat) (ns : List Nat) : ∀ b ∈ shortT a n ns, b ≠ 46 := by
  intro b hb
  unfold shortT at hb
  split at hb
  · exact hexT_dot ns b hb
  · rcases List.mem_append.1 hb with h | h
    · exact hexT_dot _ b h
    · rcases List.mem_cons.1 h with rfl | h
      · decide
      · rcases List.mem_cons.1 h with rfl | h
        · decide
        · exact hexT_dot _ b h
theorem hexT_colon (n m : Nat) (ns : List Nat) : (58 : UInt8) ∈ hexT (n :: m :: ns) := by
  unfold hexT
  rw [List.map_cons, List.map_cons, join_cons]
  simp
theorem bytesG_len (ns : List Nat) : (bytesG ns).length = 2 * ns.length := by
  unfold bytesG
  induction ns with
  | nil => rfl
  | cons n t ih => simp at ih ⊢; omega

/-- The text of eight groups is read as two rows of bytes. -/
theorem parse_short (d0 d1 : Nat) (ds : List Nat) (h : ∀ x ∈ d0 :: d1 :: ds, x < 65536) (h8 : (d0 :: d1 :: ds).length = 8) (a n : Nat) (ha : a ≤ 8) (hn : n < 2 ∨ a + n ≤ 8) :
    ∃ p q : Nat, p ≤ q ∧ q ≤ 8 ∧ (n < 2 → p = 8 ∧ q = 8) ∧ (2 ≤ n → p = a ∧ q = a + n) ∧ parseV (shortT a n (d0 :: d1 :: ds)) = some (V6T (sixT (bytesG ((d0 :: d1 :: ds).take p)) (bytesG ((d0 :: d1 :: ds).drop q)))) := by
  have hf := four_none _ (shortT_dot a n (d0 :: d1 :: ds))
  by_cases h2 : n < 2
  · refine ⟨8, 8, by omega, by omega, fun _ => ⟨rfl, rfl⟩, fun g => absurd h2 (by omega), ?_⟩
    have es : shortT a n (d0 :: d1 :: ds) = hexT (d0 :: d1 :: ds) := by unfold shortT; rw [if_pos h2]
    rw [es] at hf ⊢
    have hl := hexT_len4 _ h
    have g1 := groupsV_hex true _ h
    have hs : sixV (hexT (d0 :: d1 :: ds)) = some (bytesG (d0 :: d1 :: ds), []) := by
      unfold sixV
      rw [cut_hex]
      dsimp only
      rw [show (!false) = true from rfl, g1, show groupsV true [] = some [] from rfl]
      dsimp only
      rw [if_neg (by decide), if_pos (by rw [bytesG_len]; omega)]
    unfold parseV
    rw [if_neg (by omega), hf]
    dsimp only
    rw [hs]
    dsimp only
    rw [if_pos (contains_of 58 _ (hexT_colon d0 d1 ds)), List.take_of_length_le (by omega), List.drop_eq_nil_of_le (by omega)]
    rfl
  · have han : a + n ≤ 8 := hn.resolve_left h2
    refine ⟨a, a + n, by omega, han, fun g => absurd g h2, fun _ => ⟨rfl, rfl⟩, ?_⟩
    generalize hns : d0 :: d1 :: ds = ns at *
    have es : shortT a n ns = hexT (ns.take a) ++ 58 :: 58 :: hexT (ns.drop (a + n)) := by unfold shortT; rw [if_neg h2]
    rw [es] at hf ⊢
    have ht : ∀ x ∈ ns.take a, x < 65536 := fun x hx => h x (List.mem_of_mem_take hx)
    have hd : ∀ x ∈ ns.drop (a + n), x < 65536 := fun x hx => h x (List.mem_of_mem_drop hx)
    have l1 := hexT_len4 _ ht
    have l2 := hexT_len4 _ hd
    have b1 := bytesG_len (ns.take a)
    have b2 := bytesG_len (ns.drop (a + n))
    rw [List.length_take] at l1 b1
    rw [List.length_drop] at l2 b2
    have g1 := groupsV_hex false _ ht
    have g2 := groupsV_hex true _ hd
    have hs : sixV (hexT (ns.take a) ++ 58 :: 58 :: hexT (ns.drop (a + n))) = some (bytesG (ns.take a), bytesG (ns.drop (a + n))) := by
      unfold sixV
      rw [cut_gap]
      dsimp only
      rw [show (!true) = false from rfl, g1, g2]
      dsimp only
      rw [if_pos rfl, if_pos (by omega)]
    unfold parseV
    rw [if_neg (by rw [List.length_append]; simp only [List.length_cons]; omega), hf]
    dsimp only
    rw [hs]
    dsimp only
    rw [if_pos (contains_of 58 _ (by simp))]
theorem bytesG_take : ∀ (ns : List Nat) (a : Nat), bytesG (ns.take a) = (bytesG ns).take (2 * a)
  | [], a => by simp [bytesG]
  | n :: t, 0 => by simp [bytesG]
  | n :: t, a + 1 => by
    have := bytesG_take t a
    rw [show 2 * (a + 1) = 2 * a + 1 + 1 by omega]
    simp [bytesG] at this ⊢
    exact this
theorem bytesG_drop : ∀ (ns : List Nat) (a : Nat), bytesG (ns.drop a) = (bytesG ns).drop (2 * a)
  | [], a => by simp [bytesG]
  | n :: t, 0 => by simp [bytesG]
  | n :: t, a + 1 => by
    have := bytesG_drop t a
    rw [show 2 * (a + 1) = 2 * a + 1 + 1 by omega]
    simp [bytesG] at this ⊢
    exact this
theorem six_cell (bs : List Int) (h16 : bs.length = 16) (p q : Nat) (hpq : p ≤ q) (hq : q ≤ 8) (j : Nat) (hj : j < 16) (hz : 2 * p ≤ j → j < 2 * q → bs.getD j 0 = 0) :
    cpy ((16 - (bs.drop (2 * q)).length : Nat) : Int) 16 j (bs.drop (2 * q)) (cpy 0 16 j (bs.take (2 * p)) 0) = bs.getD j 0 := by
  have e : 16 - (16 - 2 * q) = 2 * q := by omega
  unfold cpy
  rw [List.length_drop, List.length_take, h16, e, Int.toNat_natCast, show (0 : Int).toNat = 0 from rfl]
  by_cases h1 : 2 * q ≤ j
  · rw [if_pos (by omega)]
    simp only [List.getD_eq_getElem?_getD, List.getElem?_drop]
    rw [show 2 * q + (j - 2 * q) = j by omega]
  · rw [if_neg (by omega)]
    by_cases h2 : j < 2 * p
    · rw [if_pos (by omega)]
      simp only [List.getD_eq_getElem?_getD, List.getElem?_take]
      rw [Nat.sub_zero, if_pos h2]
    · rw [if_neg (by omega)]
      exact (hz (by omega) (by omega)).symm
/-- Sixteen bytes, told as groups, come back. -/
theorem six_back (m1 m2 m3 m4 m5 m6 m7 m8 m9 m10 m11 m12 m13 m14 m15 m16 : Nat) (h2 : m2 < 256) (h4 : m4 < 256) (h6 : m6 < 256) (h8 : m8 < 256) (h10 : m10 < 256) (h12 : m12 < 256) (h14 : m14 < 256) (h16 : m16 < 256) (p q : Nat) (hpq : p ≤ q) (hq : q ≤ 8)
    (hz : ∀ j, p ≤ j → j < q → ([m1 * 256 + m2, m3 * 256 + m4, m5 * 256 + m6, m7 * 256 + m8, m9 * 256 + m10, m11 * 256 + m12, m13 * 256 + m14, m15 * 256 + m16] : List Nat).getD j 0 = 0) :
    V6T (sixT (bytesG (([m1 * 256 + m2, m3 * 256 + m4, m5 * 256 + m6, m7 * 256 + m8, m9 * 256 + m10, m11 * 256 + m12, m13 * 256 + m14, m15 * 256 + m16] : List Nat).take p)) (bytesG (([m1 * 256 + m2, m3 * 256 + m4, m5 * 256 + m6, m7 * 256 + m8, m9 * 256 + m10, m11 * 256 + m12, m13 * 256 + m14, m15 * 256 + m16] : List Nat).drop q)))
    = (true, (m1 : Int), (m2 : Int), (m3 : Int), (m4 : Int), (m5 : Int), (m6 : Int), (m7 : Int), (m8 : Int), (m9 : Int), (m10 : Int), (m11 : Int), (m12 : Int), (m13 : Int), (m14 : Int), (m15 : Int), (m16 : Int)) := by
  have eb : bytesG [m1 * 256 + m2, m3 * 256 + m4, m5 * 256 + m6, m7 * 256 + m8, m9 * 256 + m10, m11 * 256 + m12, m13 * 256 + m14, m15 * 256 + m16] = [(m1 : Int), (m2 : Int), (m3 : Int), (m4 : Int), (m5 : Int), (m6 : Int), (m7 : Int), (m8 : Int), (m9 : Int), (m10 : Int), (m11 : Int), (m12 : Int), (m13 : Int), (m14 : Int), (m15 : Int), (m16 : Int)] := by
    have dv (a b : Nat) (hb : b < 256) : (a * 256 + b) / 256 = a := by omega
    have md (a b : Nat) (hb : b < 256) : (a * 256 + b) % 256 = b := by omega
    unfold bytesG
    simp only [List.flatMap_cons, List.flatMap_nil]
    rw [dv m1 m2 h2, dv m3 m4 h4, dv m5 m6 h6, dv m7 m8 h8, dv m9 m10 h10, dv m11 m12 h12, dv m13 m14 h14, dv m15 m16 h16, md m1 m2 h2, md m3 m4 h4, md m5 m6 h6, md m7 m8 h8, md m9 m10 h10, md m11 m12 h12, md m13 m14 h14, md m15 m16 h16]
    rfl
  have hzz : ∀ j, 2 * p ≤ j → j < 2 * q → ([(m1 : Int), (m2 : Int), (m3 : Int), (m4 : Int), (m5 : Int), (m6 : Int), (m7 : Int), (m8 : Int), (m9 : Int), (m10 : Int), (m11 : Int), (m12 : Int), (m13 : Int), (m14 : Int), (m15 : Int), (m16 : Int)] : List Int).getD j 0 = 0 := by
    intro j j1 j2
    have hh := hz (j / 2) (by omega) (by omega)
    have hj : j < 16 := by omega
    match j, hj, hh with
    | 0, _, hh => have : m1 * 256 + m2 = 0 := hh; show (m1 : Int) = 0; omega
    | 1, _, hh => have : m1 * 256 + m2 = 0 := hh; show (m2 : Int) = 0; omega
    | 2, _, hh => have : m3 * 256 + m4 = 0 := hh; show (m3 : Int) = 0; omega
    | 3, _, hh => have : m3 * 256 + m4 = 0 := hh; show (m4 : Int) = 0; omega
    | 4, _, hh => have : m5 * 256 + m6 = 0 := hh; show (m5 : Int) = 0; omega
    | 5, _, hh => have : m5 * 256 + m6 = 0 := hh; show (m6 : Int) = 0; omega
    | 6, _, hh => have : m7 * 256 + m8 = 0 := hh; show (m7 : Int) = 0; omega
    | 7, _, hh => have : m7 * 256 + m8 = 0 := hh; show (m8 : Int) = 0; omega
    | 8, _, hh => have : m9 * 256 + m10 = 0 := hh; show (m9 : Int) = 0; omega
    | 9, _, hh => have : m9 * 256 + m10 = 0 := hh; show (m10 : Int) = 0; omega
    | 10, _, hh => have : m11 * 256 + m12 = 0 := hh; show (m11 : Int) = 0; omega
    | 11, _, hh => have : m11 * 256 + m12 = 0 := hh; show (m12 : Int) = 0; omega
    | 12, _, hh => have : m13 * 256 + m14 = 0 := hh; show (m13 : Int) = 0; omega
    | 13, _, hh => have : m13 * 256 + m14 = 0 := hh; show (m14 : Int) = 0; omega
    | 14, _, hh => have : m15 * 256 + m16 = 0 := hh; show (m15 : Int) = 0; omega
    | 15, _, hh => have : m15 * 256 + m16 = 0 := hh; show (m16 : Int) = 0; omega
    | j + 16, hj, _ => omega
  rw [bytesG_take, bytesG_drop, eb]
  have c := fun j hj => six_cell [(m1 : Int), (m2 : Int), (m3 : Int), (m4 : Int), (m5 : Int), (m6 : Int), (m7 : Int), (m8 : Int), (m9 : Int), (m10 : Int), (m11 : Int), (m12 : Int), (m13 : Int), (m14 : Int), (m15 : Int), (m16 : Int)] rfl p q hpq hq j hj (hzz j)
  unfold V6T sixT
  dsimp only
  rw [c 0 (by decide), c 1 (by decide), c 2 (by decide), c 3 (by decide), c 4 (by decide), c 5 (by decide), c 6 (by decide), c 7 (by decide), c 8 (by decide), c 9 (by decide), c 10 (by decide), c 11 (by decide), c 12 (by decide), c 13 (by decide), c 14 (by decide), c 15 (by decide)]
  rfl

theorem strict_dig (n : Nat) (hn : n < 256) : strictV (digL 10 n) = some n := by
  unfold strictV
  rw [if_neg, digL_num 10 (by omega) n, Option.bind_some, if_pos hn]
  rintro (h | ⟨h1, h2⟩)
  · exact digL_ne 10 n h
  · rcases Nat.eq_zero_or_pos n with rfl | h0
    · rw [digL_lt 10 0 (by decide)] at h1
      simp at h1
    · obtain ⟨d, t, e, hd, hd2⟩ := digL_head 10 (by omega) n h0
      rw [e] at h2
      have : d = 0 := (dc_facts ⟨d, hd2⟩).2.2.2.2 h2
      omega
theorem dig46 (n : Nat) : ∀ b ∈ digL 10 n, b ≠ 46 := fun b hb => (digL_no 10 n (by omega) b hb).2
theorem split_dotL (a b c d : Nat) : splitS 46 (dotL a b c d) = [digL 10 a, digL 10 b, digL 10 c, digL 10 d] := by
  unfold dotL
  rw [splitS_dot 46 _ _ (dig46 a), splitS_dot 46 _ _ (dig46 b), splitS_dot 46 _ _ (dig46 c), splitS_word 46 _ (dig46 d)]
theorem four_dotL (a b c d : Nat) (ha : a < 256) (hb : b < 256) (hc : c < 256) (hd : d < 256) : fourV (dotL a b c d) = some (a, b, c, d) := by
  unfold fourV
  rw [split_dotL]
  unfold fourP
  dsimp only
  rw [strict_dig a ha, strict_dig b hb, strict_dig c hc, strict_dig d hd]
  rfl
theorem parse_dotL (a b c d : Nat) (ha : a < 256) (hb : b < 256) (hc : c < 256) (hd : d < 256) : parseV (dotL a b c d) = some (V4T a b c d) := by
  have := dotL_len a b c d ha hb hc hd
  unfold parseV
  rw [if_neg (by omega), four_dotL a b c d ha hb hc hd]
def mapT (a b c d : Nat) : List UInt8 := 58 :: 58 :: 102 :: 102 :: 102 :: 102 :: 58 :: dotL a b c d
theorem dotL_colon (a b c d : Nat) : ∀ x ∈ dotL a b c d, x ≠ 58 := by
  intro x hx
  unfold dotL at hx
  simp only [List.mem_append, List.mem_cons] at hx
  rcases hx with h | h | h | h | h | h | h
  · exact (digL_no 10 a (by omega) x h).1
  · rw [h]; decide
  · exact (digL_no 10 b (by omega) x h).1
  · rw [h]; decide
  · exact (digL_no 10 c (by omega) x h).1
  · rw [h]; decide
  · exact (digL_no 10 d (by omega) x h).1
theorem four_map (a b c d : Nat) : fourV (mapT a b c d) = none := by
  have e : mapT a b c d = (58 :: 58 :: 102 :: 102 :: 102 :: 102 :: 58 :: digL 10 a) ++ 46 :: (digL 10 b ++ 46 :: (digL 10 c ++ 46 :: digL 10 d)) := rfl
  have hs : strictV (58 :: 58 :: 102 :: 102 :: 102 :: 102 :: 58 :: digL 10 a) = none := by
    unfold strictV
    split
    · rfl
    · rfl
  unfold fourV
  rw [e, splitS_dot 46 _ _ (by
    intro x hx
    simp only [List.mem_cons] at hx
    rcases hx with h | h | h | h | h | h | h | h
    · rw [h]; decide
    · rw [h]; decide
    · rw [h]; decide
    · rw [h]; decide
    · rw [h]; decide
    · rw [h]; decide
    · rw [h]; decide
    · exact dig46 a x h), splitS_dot 46 _ _ (dig46 b), splitS_dot 46 _ _ (dig46 c), splitS_word 46 _ (dig46 d)]
  unfold fourP
  dsimp only
  rw [hs]
  rfl
theorem parse_map (a b c d : Nat) (ha : a < 256) (hb : b < 256) (hc : c < 256) (hd : d < 256) : parseV (mapT a b c d) = some (V6T (sixT [] [255, 255, (a : Int), (b : Int), (c : Int), (d : Int)])) := by
  have hl := dotL_len a b c d ha hb hc hd
  have hcut : Lib.cut (mapT a b c d) [58, 58] = ([], 102 :: 102 :: 102 :: 102 :: 58 :: dotL a b c d, true) := by
    unfold Lib.cut
    have e : Lib.index (mapT a b c d) [58, 58] = 0 := by unfold mapT; rw [Lib.index, if_pos (by simp [List.isPrefixOf])]
    rw [e]
    rfl
  have hg : groupsV true (102 :: 102 :: 102 :: 102 :: 58 :: dotL a b c d) = some [255, 255, (a : Int), (b : Int), (c : Int), (d : Int)] := by
    unfold groupsV
    rw [if_neg (by simp), show (102 :: 102 :: 102 :: 102 :: 58 :: dotL a b c d : List UInt8) = [102, 102, 102, 102] ++ 58 :: dotL a b c d from rfl, splitS_dot 58 _ _ (by decide), splitS_word 58 _ (dotL_colon a b c d), groupsP, if_neg (by simp)]
    dsimp only
    rw [show numV 16 0 [102, 102, 102, 102] = some 65535 from rfl]
    dsimp only
    rw [if_pos (by decide), groupsP, if_pos ⟨rfl, rfl⟩, four_dotL a b c d ha hb hc hd]
    rfl
  have hs : sixV (mapT a b c d) = some ([], [255, 255, (a : Int), (b : Int), (c : Int), (d : Int)]) := by
    unfold sixV
    rw [hcut]
    dsimp only
    rw [hg, show groupsV (!true) [] = some [] from rfl]
    rfl
  unfold parseV
  rw [if_neg (by unfold mapT; simp only [List.length_cons]; omega), four_map]
  dsimp only
  rw [hs]
  dsimp only
  rw [if_pos (contains_of 58 _ (by unfold mapT; simp))]
theorem map_back (a b c d : Int) : V6T (sixT [] [255, 255, a, b, c, d]) = (true, 0, 0, 0, 0, 0, 0, 0, 0, 0, 0, 255, 255, a, b, c, d) := rfl

theorem prints_fin (k : Nat) (hk : 5000000 ≤ k) (b : Bool) (m1 m2 m3 m4 m5 m6 m7 m8 m9 m10 m11 m12 m13 m14 m15 m16 : Nat) (t : List UInt8) (ht : t.length ≤ 900000) (hP : ip_Print.f k b (m1 : Int) (m2 : Int) (m3 : Int) (m4 : Int) (m5 : Int) (m6 : Int) (m7 : Int) (m8 : Int) (m9 : Int) (m10 : Int) (m11 : Int) (m12 : Int) (m13 : Int) (m14 : Int) (m15 : Int) (m16 : Int) = some (B t, 0)) (hb : (b || zB (m1 : Int) (m2 : Int) (m3 : Int) (m4 : Int) (m5 : Int) (m6 : Int) (m7 : Int) (m8 : Int) (m9 : Int) (m10 : Int) (m11 : Int) (m12 : Int)) = true) (hR : lanternref05_Print.f k b (m1 : Int) (m2 : Int) (m3 : Int) (m4 : Int) (m5 : Int) (m6 : Int) (m7 : Int) (m8 : Int) (m9 : Int) (m10 : Int) (m11 : Int) (m12 : Int) (m13 : Int) (m14 : Int) (m15 : Int) (m16 : Int) = some (B t)) (hv : parseV t = some (b, (m1 : Int), (m2 : Int), (m3 : Int), (m4 : Int), (m5 : Int), (m6 : Int), (m7 : Int), (m8 : Int), (m9 : Int), (m10 : Int), (m11 : Int), (m12 : Int), (m13 : Int), (m14 : Int), (m15 : Int), (m16 : Int))) : lanternlaw05_IpPrints.f k b (m1 : Int) (m2 : Int) (m3 : Int) (m4 : Int) (m5 : Int) (m6 : Int) (m7 : Int) (m8 : Int) (m9 : Int) (m10 : Int) (m11 : Int) (m12 : Int) (m13 : Int) (m14 : Int) (m15 : Int) (m16 : Int) = some true := by
  have haw := awake_f k (by omega)
  have hM := May_f k (by omega) b (m1 : Int) (m2 : Int) (m3 : Int) (m4 : Int) (m5 : Int) (m6 : Int) (m7 : Int) (m8 : Int) (m9 : Int) (m10 : Int) (m11 : Int) (m12 : Int) (m13 : Int) (m14 : Int) (m15 : Int) (m16 : Int)
  have hC := Check_f b (m1 : Int) (m2 : Int) (m3 : Int) (m4 : Int) (m5 : Int) (m6 : Int) (m7 : Int) (m8 : Int) (m9 : Int) (m10 : Int) (m11 : Int) (m12 : Int) (m13 : Int) (m14 : Int) (m15 : Int) (m16 : Int)
  rw [hb] at hM hC
  rw [if_pos rfl] at hC
  rw [lanternlaw05_IpPrints.f, hP, Option.bind_some, hM, Option.bind_some, if_pos rfl, Parse_f t ht k hk, hv, Option.bind_some, hC, Option.bind_some, if_pos rfl, if_pos rfl, hR, Option.bind_some, if_pos rfl, haw]
  simp [parseR, T18]
theorem pat_run {g1 g2 g3 g4 g5 g6 g7 g8 : Nat} {a n : Nat} (h : isRun (pat8 (g1 : Int) (g2 : Int) (g3 : Int) (g4 : Int) (g5 : Int) (g6 : Int) (g7 : Int) (g8 : Int)) a n = true) : ∀ j, a ≤ j → j < a + n → ([g1, g2, g3, g4, g5, g6, g7, g8] : List Nat).getD j 0 = 0 := by
  intro j h1 h2
  have hle := run_le h
  unfold isRun at h
  rw [Bool.and_eq_true] at h
  have hj := List.all_eq_true.1 h.2 j (List.mem_range.2 (by omega))
  rw [if_pos ⟨h1, h2⟩, beq_iff_eq] at hj
  have hj8 : j < 8 := by omega
  have one (g : Nat) : (if decide ((g : Int) = 0) = true then (0 : Int) else 1) = 0 → g = 0 := by
    by_cases e : (g : Int) = 0
    · intro _; omega
    · intro hh; simp [e] at hh; omega
  match j, hj8, hj with
  | 0, _, hj => exact one g1 hj
  | 1, _, hj => exact one g2 hj
  | 2, _, hj => exact one g3 hj
  | 3, _, hj => exact one g4 hj
  | 4, _, hj => exact one g5 hj
  | 5, _, hj => exact one g6 hj
  | 6, _, hj => exact one g7 hj
  | 7, _, hj => exact one g8 hj
  | j + 8, hj8, _ => omega
theorem shortT_len (ns : List Nat) (h : ∀ x ∈ ns, x < 65536) (h8 : ns.length = 8) (a n : Nat) : (shortT a n ns).length ≤ 200 := by
  unfold shortT
  split
  · have := hexT_len4 ns h
    omega
  · have h1 := hexT_len4 (ns.take a) fun x hx => h x (List.mem_of_mem_take hx)
    have h2 := hexT_len4 (ns.drop (a + n)) fun x hx => h x (List.mem_of_mem_drop hx)
    rw [List.length_take] at h1
    rw [List.length_drop] at h2
    rw [List.length_append]
    simp only [List.length_cons]
    omega
theorem prints_six (m1 m2 m3 m4 m5 m6 m7 m8 m9 m10 m11 m12 m13 m14 m15 m16 : Nat) (h1 : m1 < 256) (h2 : m2 < 256) (h3 : m3 < 256) (h4 : m4 < 256) (h5 : m5 < 256) (h6 : m6 < 256) (h7 : m7 < 256) (h8 : m8 < 256) (h9 : m9 < 256) (h10 : m10 < 256) (h11 : m11 < 256) (h12 : m12 < 256) (h13 : m13 < 256) (h14 : m14 < 256) (h15 : m15 < 256) (h16 : m16 < 256) (hm : mapB (m1 : Int) (m2 : Int) (m3 : Int) (m4 : Int) (m5 : Int) (m6 : Int) (m7 : Int) (m8 : Int) (m9 : Int) (m10 : Int) (m11 : Int) (m12 : Int) = false) : lanternlaw05_IpPrints.f 6000000 true (m1 : Int) (m2 : Int) (m3 : Int) (m4 : Int) (m5 : Int) (m6 : Int) (m7 : Int) (m8 : Int) (m9 : Int) (m10 : Int) (m11 : Int) (m12 : Int) (m13 : Int) (m14 : Int) (m15 : Int) (m16 : Int) = some true := by
  have hC := Check_f true (m1 : Int) (m2 : Int) (m3 : Int) (m4 : Int) (m5 : Int) (m6 : Int) (m7 : Int) (m8 : Int) (m9 : Int) (m10 : Int) (m11 : Int) (m12 : Int) (m13 : Int) (m14 : Int) (m15 : Int) (m16 : Int)
  rw [Bool.true_or, if_pos rfl] at hC
  have d (x y : Nat) (hx : x < 256) (hy : y < 256) : x * 256 + y < 65536 := by omega
  obtain ⟨a, n, e1, e2, ha, hr⟩ := both_f (m1 * 256 + m2) (m3 * 256 + m4) (m5 * 256 + m6) (m7 * 256 + m8) (m9 * 256 + m10) (m11 * 256 + m12) (m13 * 256 + m14) (m15 * 256 + m16) (d m1 m2 h1 h2) (d m3 m4 h3 h4) (d m5 m6 h5 h6) (d m7 m8 h7 h8) (d m9 m10 h9 h10) (d m11 m12 h11 h12) (d m13 m14 h13 h14) (d m15 m16 h15 h16) 5999991 (by decide)
  have hall : ∀ x ∈ [m1 * 256 + m2, m3 * 256 + m4, m5 * 256 + m6, m7 * 256 + m8, m9 * 256 + m10, m11 * 256 + m12, m13 * 256 + m14, m15 * 256 + m16], x < 65536 := by
    intro x hx
    simp only [List.mem_cons, List.not_mem_nil, or_false] at hx
    rcases hx with rfl | rfl | rfl | rfl | rfl | rfl | rfl | rfl <;> (apply d <;> assumption)
  have hn : n < 2 ∨ a + n ≤ 8 := hr.imp id run_le
  obtain ⟨p, q, hpq, hq, c1, c2, hv⟩ := parse_short (m1 * 256 + m2) (m3 * 256 + m4) [m5 * 256 + m6, m7 * 256 + m8, m9 * 256 + m10, m11 * 256 + m12, m13 * 256 + m14, m15 * 256 + m16] hall rfl a n ha hn
  rw [six_back m1 m2 m3 m4 m5 m6 m7 m8 m9 m10 m11 m12 m13 m14 m15 m16 h2 h4 h6 h8 h10 h12 h14 h16 p q hpq hq (by
    intro j j1 j2
    by_cases h2' : n < 2
    · obtain ⟨rfl, rfl⟩ := c1 h2'
      omega
    · obtain ⟨rfl, rfl⟩ := c2 (by omega)
      exact pat_run (hr.resolve_left h2') j j1 j2)] at hv
  refine prints_fin 6000000 (by decide) true m1 m2 m3 m4 m5 m6 m7 m8 m9 m10 m11 m12 m13 m14 m15 m16 _ (by have := shortT_len _ hall rfl a n; omega) ?_ rfl ?_ hv
  · have hp := pg_groups true m1 m2 m3 m4 m5 m6 m7 m8 m9 m10 m11 m12 m13 m14 m15 m16 h1 h2 h3 h4 h5 h6 h7 h8 h9 h10 h11 h12 h13 h14 h15 h16 5999991
    rw [ip_Print.f, hC, Option.bind_some, if_pos rfl, if_pos rfl, mapped_f, hm, Option.bind_some, Bool.and_false, if_neg (by decide)]
    exact hp.trans e1
  · have hp := rg_groups true m1 m2 m3 m4 m5 m6 m7 m8 m9 m10 m11 m12 m13 m14 m15 m16 h1 h2 h3 h4 h5 h6 h7 h8 h9 h10 h11 h12 h13 h14 h15 h16 5999991
    rw [lanternref05_Print.f, if_pos rfl, refMapped_f 6000000 (by decide), hm, Option.bind_some, Bool.false_and, if_neg (by decide)]
    exact hp.trans e2
theorem prints_map (m1 m2 m3 m4 m5 m6 m7 m8 m9 m10 m11 m12 m13 m14 m15 m16 : Nat) (h1 : m1 < 256) (h2 : m2 < 256) (h3 : m3 < 256) (h4 : m4 < 256) (h5 : m5 < 256) (h6 : m6 < 256) (h7 : m7 < 256) (h8 : m8 < 256) (h9 : m9 < 256) (h10 : m10 < 256) (h11 : m11 < 256) (h12 : m12 < 256) (h13 : m13 < 256) (h14 : m14 < 256) (h15 : m15 < 256) (h16 : m16 < 256) (hm : mapB (m1 : Int) (m2 : Int) (m3 : Int) (m4 : Int) (m5 : Int) (m6 : Int) (m7 : Int) (m8 : Int) (m9 : Int) (m10 : Int) (m11 : Int) (m12 : Int) = true) : lanternlaw05_IpPrints.f 6000000 true (m1 : Int) (m2 : Int) (m3 : Int) (m4 : Int) (m5 : Int) (m6 : Int) (m7 : Int) (m8 : Int) (m9 : Int) (m10 : Int) (m11 : Int) (m12 : Int) (m13 : Int) (m14 : Int) (m15 : Int) (m16 : Int) = some true := by
  have hC := Check_f true (m1 : Int) (m2 : Int) (m3 : Int) (m4 : Int) (m5 : Int) (m6 : Int) (m7 : Int) (m8 : Int) (m9 : Int) (m10 : Int) (m11 : Int) (m12 : Int) (m13 : Int) (m14 : Int) (m15 : Int) (m16 : Int)
  rw [Bool.true_or, if_pos rfl] at hC
  have hv := (parse_map m13 m14 m15 m16 h13 h14 h15 h16).trans (congrArg some (map_back m13 m14 m15 m16))
  have hl := dotL_len m13 m14 m15 m16 h13 h14 h15 h16
  have hd := dots_f m13 m14 m15 m16 h13 h14 h15 h16 6000000 (by decide)
  have hrd := refdots_f true m1 m2 m3 m4 m5 m6 m7 m8 m9 m10 m11 m12 m13 m14 m15 m16 h13 h14 h15 h16 6000000 (by decide)
  have hB : (⟨#[58, 58, 102, 102, 102, 102, 58]⟩ : ByteArray) ++ B (dotL m13 m14 m15 m16) = B (mapT m13 m14 m15 m16) := by
    rw [show (⟨#[58, 58, 102, 102, 102, 102, 58]⟩ : ByteArray) = B [58, 58, 102, 102, 102, 102, 58] from rfl, append_B]
    rfl
  have hz := hm
  simp only [mapB, Bool.and_eq_true, beq_iff_eq] at hz
  refine prints_fin 6000000 (by decide) true m1 m2 m3 m4 m5 m6 m7 m8 m9 m10 m11 m12 m13 m14 m15 m16 (mapT m13 m14 m15 m16) (by unfold mapT; simp only [List.length_cons]; omega) ?_ rfl ?_ (hv.trans ?_)
  · rw [ip_Print.f, hC, Option.bind_some, if_pos rfl, if_pos rfl, mapped_f, hm, Option.bind_some, Bool.and_true, if_pos rfl, hd, Option.bind_some, if_pos (by rw [size_B]; omega), hB]
  · rw [lanternref05_Print.f, if_pos rfl, refMapped_f 6000000 (by decide), hm, Option.bind_some, Bool.true_and, if_pos rfl, hrd, Option.bind_some, if_pos (by rw [size_B]; omega), hB]
  · simp [hz]
theorem prints_four (m1 m2 m3 m4 m5 m6 m7 m8 m9 m10 m11 m12 m13 m14 m15 m16 : Nat) (h1 : m1 < 256) (h2 : m2 < 256) (h3 : m3 < 256) (h4 : m4 < 256) (h5 : m5 < 256) (h6 : m6 < 256) (h7 : m7 < 256) (h8 : m8 < 256) (h9 : m9 < 256) (h10 : m10 < 256) (h11 : m11 < 256) (h12 : m12 < 256) (h13 : m13 < 256) (h14 : m14 < 256) (h15 : m15 < 256) (h16 : m16 < 256) (hz : zB (m1 : Int) (m2 : Int) (m3 : Int) (m4 : Int) (m5 : Int) (m6 : Int) (m7 : Int) (m8 : Int) (m9 : Int) (m10 : Int) (m11 : Int) (m12 : Int) = true) : lanternlaw05_IpPrints.f 6000000 false (m1 : Int) (m2 : Int) (m3 : Int) (m4 : Int) (m5 : Int) (m6 : Int) (m7 : Int) (m8 : Int) (m9 : Int) (m10 : Int) (m11 : Int) (m12 : Int) (m13 : Int) (m14 : Int) (m15 : Int) (m16 : Int) = some true := by
  have hC := Check_f false (m1 : Int) (m2 : Int) (m3 : Int) (m4 : Int) (m5 : Int) (m6 : Int) (m7 : Int) (m8 : Int) (m9 : Int) (m10 : Int) (m11 : Int) (m12 : Int) (m13 : Int) (m14 : Int) (m15 : Int) (m16 : Int)
  rw [hz, Bool.false_or, if_pos rfl] at hC
  have hv := parse_dotL m13 m14 m15 m16 h13 h14 h15 h16
  have hl := dotL_len m13 m14 m15 m16 h13 h14 h15 h16
  have hd := dots_f m13 m14 m15 m16 h13 h14 h15 h16 6000000 (by decide)
  have hrd := refdots_f false m1 m2 m3 m4 m5 m6 m7 m8 m9 m10 m11 m12 m13 m14 m15 m16 h13 h14 h15 h16 6000000 (by decide)
  have hz' := hz
  simp only [zB, Bool.and_eq_true, beq_iff_eq] at hz'
  refine prints_fin 6000000 (by decide) false m1 m2 m3 m4 m5 m6 m7 m8 m9 m10 m11 m12 m13 m14 m15 m16 (dotL m13 m14 m15 m16) (by omega) ?_ (by rw [hz]; rfl) ?_ (hv.trans ?_)
  · rw [ip_Print.f, hC, Option.bind_some, if_pos rfl, if_neg (by decide), hd, Option.bind_some]
  · rw [lanternref05_Print.f, if_neg (by decide), hrd, Option.bind_some]
  · simp [hz', V4T]
theorem prints_not (b : Bool) (m1 m2 m3 m4 m5 m6 m7 m8 m9 m10 m11 m12 m13 m14 m15 m16 : Nat) (h : (b || zB (m1 : Int) (m2 : Int) (m3 : Int) (m4 : Int) (m5 : Int) (m6 : Int) (m7 : Int) (m8 : Int) (m9 : Int) (m10 : Int) (m11 : Int) (m12 : Int)) = false) : lanternlaw05_IpPrints.f 6000000 b (m1 : Int) (m2 : Int) (m3 : Int) (m4 : Int) (m5 : Int) (m6 : Int) (m7 : Int) (m8 : Int) (m9 : Int) (m10 : Int) (m11 : Int) (m12 : Int) (m13 : Int) (m14 : Int) (m15 : Int) (m16 : Int) = some true := by
  have haw := awake_f 6000000 (by decide)
  have hM := May_f 6000000 (by decide) b (m1 : Int) (m2 : Int) (m3 : Int) (m4 : Int) (m5 : Int) (m6 : Int) (m7 : Int) (m8 : Int) (m9 : Int) (m10 : Int) (m11 : Int) (m12 : Int) (m13 : Int) (m14 : Int) (m15 : Int) (m16 : Int)
  have hC := Check_f b (m1 : Int) (m2 : Int) (m3 : Int) (m4 : Int) (m5 : Int) (m6 : Int) (m7 : Int) (m8 : Int) (m9 : Int) (m10 : Int) (m11 : Int) (m12 : Int) (m13 : Int) (m14 : Int) (m15 : Int) (m16 : Int)
  rw [h] at hM hC
  rw [if_neg (by decide)] at hC
  have hP : ip_Print.f 6000000 b (m1 : Int) (m2 : Int) (m3 : Int) (m4 : Int) (m5 : Int) (m6 : Int) (m7 : Int) (m8 : Int) (m9 : Int) (m10 : Int) (m11 : Int) (m12 : Int) (m13 : Int) (m14 : Int) (m15 : Int) (m16 : Int) = some ((⟨#[]⟩ : ByteArray), 1) := by rw [ip_Print.f, hC, Option.bind_some, if_neg (by decide)]
  rw [lanternlaw05_IpPrints.f, hP, Option.bind_some, hM, Option.bind_some, if_neg (by decide), hC, Option.bind_some, if_pos rfl, if_pos rfl, if_pos (show (⟨#[]⟩ : ByteArray).toList = [] from by rw [toList_L]), haw, Option.bind_some]
theorem wf_byte {x : Int} (h : (Lit.int .u8 x).wf = true) : ∃ n : Nat, x = (n : Int) ∧ n < 256 := by
  simp [Lit.wf, IntKind.min, IntKind.max, IntKind.signed, IntKind.bits] at h
  exact ⟨x.toNat, by omega, by omega⟩
theorem IpPrints_wf (b : Bool) (x1 x2 x3 x4 x5 x6 x7 x8 x9 x10 x11 x12 x13 x14 x15 x16 : Int) (w1 : (Lit.int .u8 x1).wf = true) (w2 : (Lit.int .u8 x2).wf = true) (w3 : (Lit.int .u8 x3).wf = true) (w4 : (Lit.int .u8 x4).wf = true) (w5 : (Lit.int .u8 x5).wf = true) (w6 : (Lit.int .u8 x6).wf = true) (w7 : (Lit.int .u8 x7).wf = true) (w8 : (Lit.int .u8 x8).wf = true) (w9 : (Lit.int .u8 x9).wf = true) (w10 : (Lit.int .u8 x10).wf = true) (w11 : (Lit.int .u8 x11).wf = true) (w12 : (Lit.int .u8 x12).wf = true) (w13 : (Lit.int .u8 x13).wf = true) (w14 : (Lit.int .u8 x14).wf = true) (w15 : (Lit.int .u8 x15).wf = true) (w16 : (Lit.int .u8 x16).wf = true) : ∃ k, lanternlaw05_IpPrints.f k b x1 x2 x3 x4 x5 x6 x7 x8 x9 x10 x11 x12 x13 x14 x15 x16 = some true := by
  refine ⟨6000000, ?_⟩
  obtain ⟨m1, rfl, h1⟩ := wf_byte w1
  obtain ⟨m2, rfl, h2⟩ := wf_byte w2
  obtain ⟨m3, rfl, h3⟩ := wf_byte w3
  obtain ⟨m4, rfl, h4⟩ := wf_byte w4
  obtain ⟨m5, rfl, h5⟩ := wf_byte w5
  obtain ⟨m6, rfl, h6⟩ := wf_byte w6
  obtain ⟨m7, rfl, h7⟩ := wf_byte w7
  obtain ⟨m8, rfl, h8⟩ := wf_byte w8
  obtain ⟨m9, rfl, h9⟩ := wf_byte w9
  obtain ⟨m10, rfl, h10⟩ := wf_byte w10
  obtain ⟨m11, rfl, h11⟩ := wf_byte w11
  obtain ⟨m12, rfl, h12⟩ := wf_byte w12
  obtain ⟨m13, rfl, h13⟩ := wf_byte w13
  obtain ⟨m14, rfl, h14⟩ := wf_byte w14
  obtain ⟨m15, rfl, h15⟩ := wf_byte w15
  obtain ⟨m16, rfl, h16⟩ := wf_byte w16
  cases h : (b || zB (m1 : Int) (m2 : Int) (m3 : Int) (m4 : Int) (m5 : Int) (m6 : Int) (m7 : Int) (m8 : Int) (m9 : Int) (m10 : Int) (m11 : Int) (m12 : Int)) with
  | false => exact prints_not b m1 m2 m3 m4 m5 m6 m7 m8 m9 m10 m11 m12 m13 m14 m15 m16 h
  | true =>
    cases b with
    | false => exact prints_four m1 m2 m3 m4 m5 m6 m7 m8 m9 m10 m11 m12 m13 m14 m15 m16 h1 h2 h3 h4 h5 h6 h7 h8 h9 h10 h11 h12 h13 h14 h15 h16 (by rw [Bool.false_or] at h; exact h)
    | true =>
      cases hm : mapB (m1 : Int) (m2 : Int) (m3 : Int) (m4 : Int) (m5 : Int) (m6 : Int) (m7 : Int) (m8 : Int) (m9 : Int) (m10 : Int) (m11 : Int) (m12 : Int) with
      | false => exact prints_six m1 m2 m3 m4 m5 m6 m7 m8 m9 m10 m11 m12 m13 m14 m15 m16 h1 h2 h3 h4 h5 h6 h7 h8 h9 h10 h11 h12 h13 h14 h15 h16 hm
      | true => exact prints_map m1 m2 m3 m4 m5 m6 m7 m8 m9 m10 m11 m12 m13 m14 m15 m16 h1 h2 h3 h4 h5 h6 h7 h8 h9 h10 h11 h12 h13 h14 h15 h16 hm
end Go.Proofs.YtfiefecjcmcejaaDoor.Q
