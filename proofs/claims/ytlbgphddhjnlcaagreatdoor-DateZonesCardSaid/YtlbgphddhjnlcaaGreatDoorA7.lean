/- Zones: a time that is written by a zone is read; the law DateZones. -/
import Derived.Test.YtlbgphddhjnlcaaGreatDoorA6
import Derived.Test.YtlbgphddhjnlcaaGreatDoorWO
import Derived.Test.YtlbgphddhjnlcaaGreatDoorQ
set_option linter.unusedSimpArgs false
set_option linter.unusedVariables false
namespace Go.Proofs.YtlbgphddhjnlcaaGreatDoor.Q
open Go Go.RowKit Go.Lib Go.Proofs.YtlbgphddhjnlcaaGreatDoorW.PrintWords Go.Proofs.YtlbgphddhjnlcaaGreatDoorB Go.Proofs.YtlbgphddhjnlcaaGreatDoor.E Go.Proofs.YtlbgphddhjnlcaaGreatDoor.P

theorem zone_core (k : Nat) (z bw : List UInt8) (n : Nat) (s : Int) (u v : List UInt8) (h0 : bt (B z) 0 = s) (hs : s = 43 ∨ s = 45) (hl : z.length = n) (hn : 3 ≤ n ∧ n ≤ 100) (hbw : 3 + bw.length ≤ n)
    (e1 : (B z).extract 1 3 = B u) (hu : u.length = 2) (e2 : (B z).extract (3 + bw.length) n = B v) (hv : v.length ≤ 50) (hp : strings_HasPrefix.f ((B z).extract 3 n) (B bw) = some true)
    (t : Nat) (ht2 : t ≤ 100000) (hc : date_clock.f k (B (u ++ 58 :: v)) false = some (t : Int)) : date_zone.f (k + 1) (B z) (B bw) = some (if s = 45 then -(t : Int) else (t : Int), true) := by
  have hsz : (B z).size = n := by rw [size_B, hl]
  have w1 : wrap64 (3 + ((bw.length : Nat) : Int)) = ((3 + bw.length : Nat) : Int) := wn (3 + bw.length) rfl (big (by omega))
  have w2 : wrap64 (-(t : Int)) = -(t : Int) := wi _ (by omega) (by omega)
  have g1 : ¬ (n : Int) < 3 := by omega
  have g2 : (0 : Int) < (n : Int) := by omega
  have g3 : (3 : Int) ≤ (n : Int) := by omega
  have g4 : u.length + 1 ≤ 9223372036854775807 := by omega
  have g5 : (0 : Int) ≤ ((3 + bw.length : Nat) : Int) := by omega
  have g6 : ((3 + bw.length : Nat) : Int) ≤ (n : Int) := by omega
  have g7 : u.length + 1 + v.length ≤ 9223372036854775807 := by omega
  have g8 : (t : Int) ≥ 0 := by omega
  have e3 : (B u ++ (⟨#[58]⟩ : ByteArray)) ++ B v = B (u ++ 58 :: v) := by
    apply L_inj
    simp only [L_append, L_B]
    rw [List.append_assoc]
    rfl
  have hj : date_zone.j0 (k + 1) (B z) (B bw) (!true) = some (if s = 45 then -(t : Int) else (t : Int), true) := by
    rw [date_zone.j0, if_neg (by simp), if_pos (by decide), hsz, if_pos g3, e1, size_B, if_pos g4, size_B, w1, if_pos g5, if_pos g6, Int.toNat_natCast, e2, ByteArray.size_append, size_B, size_B, show (⟨#[58]⟩ : ByteArray).size = 1 from rfl, if_pos g7, e3, hc, Option.bind_some, if_pos g2, h0, w2, decide_eq_true g8]
    rcases hs with rfl | rfl
    · rw [if_neg (by decide), if_neg (by decide)]
    · rw [if_pos rfl, if_pos rfl]
  unfold date_zone.f
  rw [hsz, if_neg g1, if_pos g2, h0]
  rcases hs with rfl | rfl
  · rw [if_pos rfl, if_pos g3, hp, Option.bind_some]
    exact hj
  · rw [if_neg (by decide), if_pos rfl, if_pos g3, hp, Option.bind_some]
    exact hj
theorem prefix_one (n : Nat) : strings_HasPrefix.f (B (58 :: d2 n)) (B [58]) = some true := by
  unfold strings_HasPrefix.f stringslite_HasPrefix.f
  have e : (B (58 :: d2 n)).extract 0 1 = B [58] := by rw [extract_B]; rfl
  have s1 : (B (58 :: d2 n)).size = 3 := by rw [size_B]; rfl
  have s2 : (B [58]).size = 1 := by rw [size_B]; rfl
  rw [s1, s2, if_pos (by decide), if_pos (by decide), if_pos (by decide), Int.toNat_natCast, e, Option.bind_some]
  congr 1
  exact beq_iff_eq.2 rfl
theorem prefix_none (n : Nat) : strings_HasPrefix.f (B (d2 n)) (B []) = some true := by
  unfold strings_HasPrefix.f stringslite_HasPrefix.f
  have e : (B (d2 n)).extract 0 0 = B [] := by rw [extract_B]; rfl
  have s1 : (B (d2 n)).size = 2 := by rw [size_B]; rfl
  have s2 : (B []).size = 0 := by rw [size_B]; rfl
  rw [s1, s2, if_pos (by decide), if_pos (by decide), if_pos (by decide), Int.toNat_natCast, e, Option.bind_some]
  congr 1
  exact beq_iff_eq.2 rfl
theorem zone_colon (k zh zm : Nat) (sg : UInt8) (hs : sg = 43 ∨ sg = 45) (h1 : zh < 24) (h2 : zm < 60) (hk : 12 < k) :
    date_zone.f k (B (sg :: (d2 zh ++ 58 :: d2 zm))) (⟨#[58]⟩ : ByteArray) = some (if (sg.toNat : Int) = 45 then -((zh * 3600 + zm * 60 : Nat) : Int) else ((zh * 3600 + zm * 60 : Nat) : Int), true) := by
  obtain ⟨k, rfl⟩ : ∃ j, k = j + 1 := ⟨k - 1, by omega⟩
  refine zone_core k (sg :: (d2 zh ++ 58 :: d2 zm)) [58] 6 (sg.toNat : Int) (d2 zh) (d2 zm) ((bt_B _ _).trans rfl) ?_ rfl (by omega) (by decide) (by rw [extract_B]; rfl) rfl (by rw [extract_B]; rfl) (by show 2 ≤ 50; omega) ?_ (zh * 3600 + zm * 60) ?_ (clock_two k zh zm h1 h2 (by omega))
  · rcases hs with rfl | rfl
    · left; rfl
    · right; rfl
  · rw [show (B (sg :: (d2 zh ++ 58 :: d2 zm))).extract 3 6 = B (58 :: d2 zm) by rw [extract_B]; rfl]
    exact prefix_one zm
  · have x1 : zh * 3600 ≤ 82800 := by omega
    have x2 : zm * 60 ≤ 3540 := by omega
    exact Nat.le_trans (Nat.add_le_add x1 x2) (by decide)
theorem zone_bare (k zh zm : Nat) (sg : UInt8) (hs : sg = 43 ∨ sg = 45) (h1 : zh < 24) (h2 : zm < 60) (hk : 12 < k) :
    date_zone.f k (B (sg :: (d2 zh ++ d2 zm))) (⟨#[]⟩ : ByteArray) = some (if (sg.toNat : Int) = 45 then -((zh * 3600 + zm * 60 : Nat) : Int) else ((zh * 3600 + zm * 60 : Nat) : Int), true) := by
  obtain ⟨k, rfl⟩ : ∃ j, k = j + 1 := ⟨k - 1, by omega⟩
  refine zone_core k (sg :: (d2 zh ++ d2 zm)) [] 5 (sg.toNat : Int) (d2 zh) (d2 zm) ((bt_B _ _).trans rfl) ?_ rfl (by omega) (by decide) (by rw [extract_B]; rfl) rfl (by rw [extract_B]; rfl) (by show 2 ≤ 50; omega) ?_ (zh * 3600 + zm * 60) ?_ (clock_two k zh zm h1 h2 (by omega))
  · rcases hs with rfl | rfl
    · left; rfl
    · right; rfl
  · rw [show (B (sg :: (d2 zh ++ d2 zm))).extract 3 5 = B (d2 zm) by rw [extract_B]; rfl]
    exact prefix_none zm
  · have x1 : zh * 3600 ≤ 82800 := by omega
    have x2 : zm * 60 ≤ 3540 := by omega
    exact Nat.le_trans (Nat.add_le_add x1 x2) (by decide)
theorem zsum (zh zm : Nat) (h1 : zh < 24) (h2 : zm < 60) : zh * 3600 + zm * 60 ≤ 90000 := by
  have x1 : zh * 3600 ≤ 82800 := by omega
  have x2 : zm * 60 ≤ 3540 := by omega
  exact Nat.le_trans (Nat.add_le_add x1 x2) (by decide)
theorem zbd (s : Int) (Z : Nat) (h : Z ≤ 90000) : -90000 ≤ (if s = 45 then -(Z : Int) else (Z : Int)) ∧ (if s = 45 then -(Z : Int) else (Z : Int)) ≤ 90000 := by split <;> omega
theorem csum (h i s : Nat) (h1 : h < 24) (h2 : i < 60) (h3 : s < 60) : h * 3600 + i * 60 + s < 90000 := by
  have x1 : h * 3600 ≤ 82800 := by omega
  have x2 : i * 60 ≤ 3540 := by omega
  exact Nat.lt_of_le_of_lt (Nat.add_le_add (Nat.add_le_add x1 x2) (Nat.le_of_lt h3)) (by decide)
/-- A time of a zone is read. -/
theorem rfc_zone (k y m d h i s zh zm : Nat) (sg : UInt8) (hsg : sg = 43 ∨ sg = 45) (hv : Valid y m d) (hh : h < 24) (hi : i < 60) (hs : s < 60) (hz1 : zh < 24) (hz2 : zm < 60) (hk : 30 < k) :
    date_Rfc3339.f k (B (stamp 84 y m d h i s (sg :: (d2 zh ++ 58 :: d2 zm)))) = some (((daysZ y m d : Int) - 719468) * 86400 + ((h * 3600 + i * 60 + s : Nat) : Int) - (if (sg.toNat : Int) = 45 then -((zh * 3600 + zm * 60 : Nat) : Int) else ((zh * 3600 + zm * 60 : Nat) : Int)), 0) := by
  obtain ⟨k, rfl⟩ : ∃ j, k = j + 3 := ⟨k - 3, by omega⟩
  have hv' := hv
  obtain ⟨v1, v2, v3, v4, v5, v6⟩ := hv'
  have vl := (long_bd y m).2
  have hlow : (sg :: (d2 zh ++ 58 :: d2 zm)).map lowB = sg :: (d2 zh ++ 58 :: d2 zm) := by
    simp only [List.map_append, List.map_cons, d2_low zh (by omega), d2_low zm (by omega)]
    rcases hsg with rfl | rfl <;> rfl
  have hpre : Lib.hasPrefix (sg :: (d2 zh ++ 58 :: d2 zm)) [46] = false := by rcases hsg with rfl | rfl <;> rfl
  have hzs := zsum zh zm hz1 hz2
  have hcs := csum h i s hh hi hs
  rw [rfc_head (k + 3) y m d h i s _ (by omega) (by omega) (by omega) (by omega) (by omega) (by omega) (by simp) (by show 6 ≤ 100; omega), hlow, rfc_j0 (k + 2) y m d h i s _ hh hi hs hpre (by omega), date_Rfc3339.j1, zone_colon (k + 1) zh zm sg hsg hz1 hz2 (by omega), Option.bind_some]
  dsimp only
  rw [if_pos rfl]
  exact rfc_j2 k y m d h i s _ _ _ hv hcs (zbd _ _ hzs).1 (zbd _ _ hzs).2 (by omega)

/-! ### the other way of writing -/
def monU (m : Nat) : List UInt8 := (([74, 97, 110, 70, 101, 98, 77, 97, 114, 65, 112, 114, 77, 97, 121, 74, 117, 110, 74, 117, 108, 65, 117, 103, 83, 101, 112, 79, 99, 116, 78, 111, 118, 68, 101, 99] : List UInt8).take (3 * m)).drop (3 * m - 3)
def monL (m : Nat) : List UInt8 := (monU m).map lowB
theorem mon_all : ∀ m : Fin 13, 1 ≤ m.val → (⟨#[74, 97, 110, 70, 101, 98, 77, 97, 114, 65, 112, 114, 77, 97, 121, 74, 117, 110, 74, 117, 108, 65, 117, 103, 83, 101, 112, 79, 99, 116, 78, 111, 118, 68, 101, 99]⟩ : ByteArray).extract (3 * m.val - 3) (3 * m.val) = B (monU m.val) ∧ (monU m.val).length = 3 ∧ monL m.val ≠ [] ∧ (∀ b ∈ monL m.val, wh b = false) ∧
    date_place.f 60 (B (monL m.val)) (⟨#[106, 97, 110, 32, 102, 101, 98, 32, 109, 97, 114, 32, 97, 112, 114, 32, 109, 97, 121, 32, 106, 117, 110, 32, 106, 117, 108, 32, 97, 117, 103, 32, 115, 101, 112, 32, 111, 99, 116, 32, 110, 111, 118, 32, 100, 101, 99]⟩ : ByteArray) = some (m.val : Int) := by decide +kernel
theorem place_ge (k j : Nat) (a b : ByteArray) (r : Int) (h : date_place.f k a b = some r) : date_place.f (k + j) a b = some r := by
  induction j with
  | zero => exact h
  | succ j ih => exact date_place.mono a b (k + j) _ ih
theorem d2_wh : ∀ n : Fin 100, ∀ b ∈ d2 n.val, wh b = false := by decide +kernel
theorem num21 : ∀ n : Fin 100, date_number.f (B (d2 n.val)) 1 = some (-1) := by decide +kernel
theorem num42 (n : Nat) (h : n < 10000) : date_number.f (B (d4 n)) 2 = some (-1) := by
  have h4 := num4 n h
  have hs : (B (d4 n)).size = 4 := by rw [size_B]; rfl
  unfold date_number.f at h4 ⊢
  rw [hs] at h4 ⊢
  cases ha : strconv_Atoi.f (B (d4 n)) with
  | none => rw [ha] at h4; cases h4
  | some v => rw [Option.bind_some, if_neg (by decide)]
theorem ne_short {z m : List UInt8} (h : z.length ≠ m.length) : ¬ (B z).toList = m ∧ ((B z).toList == m) = false := by
  have hne : ¬ (B z).toList = m := by
    rw [toList_L, L_B]
    intro e
    exact h (congrArg List.length e)
  exact ⟨hne, beq_eq_false_iff_ne.2 hne⟩
theorem named_zone (k : Nat) (z : List UInt8) (hz : z.length = 5) (a : Int) (h : date_zone.f k (B z) (⟨#[]⟩ : ByteArray) = some (a, true)) : date_named.f (k + 4) (B z) = some (a, true) := by
  have n1 (m : List UInt8) (hm : m.length < 5) := ne_short (z := z) (m := m) (by omega)
  unfold date_named.f
  rw [if_neg (n1 [117, 116] (by decide)).1, if_neg (n1 [117, 116, 99] (by decide)).1, if_neg (n1 [103, 109, 116] (by decide)).1, (n1 [122] (by decide)).2,
    date_named.j0, if_neg (by simp), if_neg (n1 [101, 100, 116] (by decide)).1, if_neg (n1 [101, 115, 116] (by decide)).1, (n1 [99, 100, 116] (by decide)).2,
    date_named.j1, if_neg (by simp), if_neg (n1 [99, 115, 116] (by decide)).1, (n1 [109, 100, 116] (by decide)).2,
    date_named.j2, if_neg (by simp), if_neg (n1 [109, 115, 116] (by decide)).1, (n1 [112, 100, 116] (by decide)).2,
    date_named.j3, if_neg (by simp), if_neg (n1 [112, 115, 116] (by decide)).1, h, Option.bind_some]
def clk (h i s : Nat) : List UInt8 := d2 h ++ 58 :: (d2 i ++ 58 :: d2 s)
def text2 (mon : List UInt8) (y d h i s zh zm : Nat) (sg : UInt8) : List UInt8 := d2 d ++ 32 :: (mon ++ 32 :: (d4 y ++ 32 :: (clk h i s ++ 32 :: (sg :: (d2 zh ++ d2 zm)))))
theorem clk_wh (h i s : Nat) (h1 : h < 100) (h2 : i < 100) (h3 : s < 100) : ∀ b ∈ clk h i s, wh b = false := by
  intro b hb
  unfold clk at hb
  rcases List.mem_append.1 hb with hb | hb
  · exact d2_wh ⟨h, h1⟩ b hb
  rcases List.mem_cons.1 hb with rfl | hb
  · decide
  rcases List.mem_append.1 hb with hb | hb
  · exact d2_wh ⟨i, h2⟩ b hb
  rcases List.mem_cons.1 hb with rfl | hb
  · decide
  · exact d2_wh ⟨s, h3⟩ b hb
theorem d4_wh (y : Nat) (h : y < 10000) : ∀ b ∈ d4 y, wh b = false := by
  intro b hb
  unfold d4 at hb
  rcases List.mem_append.1 hb with hb | hb
  · exact d2_wh ⟨y / 100, by omega⟩ b hb
  · exact d2_wh ⟨y % 100, by omega⟩ b hb
theorem zn_wh (zh zm : Nat) (sg : UInt8) (hsg : sg = 43 ∨ sg = 45) (h1 : zh < 100) (h2 : zm < 100) : ∀ b ∈ sg :: (d2 zh ++ d2 zm), wh b = false := by
  intro b hb
  rcases List.mem_cons.1 hb with rfl | hb
  · rcases hsg with rfl | rfl <;> decide
  rcases List.mem_append.1 hb with hb | hb
  · exact d2_wh ⟨zh, h1⟩ b hb
  · exact d2_wh ⟨zm, h2⟩ b hb
theorem wordsL_sp (u t : List UInt8) (hu : u ≠ []) (h : ∀ d ∈ u, wh d = false) : wordsL (u ++ 32 :: t) = u :: wordsL t := (wordsL_cut u 32 t hu h (by decide)).trans (congrArg (u :: ·) (by unfold wordsL; rw [wordsAcc, if_pos (by decide), if_pos rfl]))
theorem words2 (mon : List UInt8) (y d h i s zh zm : Nat) (sg : UInt8) (hm1 : mon ≠ []) (hm2 : ∀ b ∈ mon, wh b = false) (hy : y < 10000) (hd : d < 100) (h1 : h < 100) (h2 : i < 100) (h3 : s < 100) (hz1 : zh < 100) (hz2 : zm < 100) (hsg : sg = 43 ∨ sg = 45) :
    wordsL (text2 mon y d h i s zh zm sg) = [d2 d, mon, d4 y, clk h i s, sg :: (d2 zh ++ d2 zm)] := by
  unfold text2
  rw [wordsL_sp (d2 d) _ (by simp [d2]) (d2_wh ⟨d, hd⟩), wordsL_sp mon _ hm1 hm2, wordsL_sp (d4 y) _ (by simp [d4, d2]) (d4_wh y hy), wordsL_sp (clk h i s) _ (by simp [clk, d2]) (clk_wh h i s h1 h2 h3), wordsL_one _ (by simp) (zn_wh zh zm sg hsg hz1 hz2)]
theorem low2 (m y d h i s zh zm : Nat) (sg : UInt8) (hy : y < 10000) (hd : d < 100) (h1 : h < 100) (h2 : i < 100) (h3 : s < 100) (hz1 : zh < 100) (hz2 : zm < 100) (hsg : sg = 43 ∨ sg = 45) :
    (text2 (monU m) y d h i s zh zm sg).map lowB = text2 (monL m) y d h i s zh zm sg := by
  unfold text2 clk d4 monL
  simp only [List.map_append, List.map_cons, d2_low (y / 100) (by omega), d2_low (y % 100) (by omega), d2_low d hd, d2_low h h1, d2_low i h2, d2_low s h3, d2_low zh hz1, d2_low zm hz2]
  rcases hsg with rfl | rfl <;> rfl
theorem text2_length (mon : List UInt8) (y d h i s zh zm : Nat) (sg : UInt8) (hm : mon.length = 3) : (text2 mon y d h i s zh zm sg).length = 26 := by
  simp [text2, clk, d4, d2, hm]
theorem rfc822 (k y m d h i s zh zm : Nat) (sg : UInt8) (hsg : sg = 43 ∨ sg = 45) (hv : Valid y m d) (hh : h < 24) (hi : i < 60) (hs : s < 60) (hz1 : zh < 24) (hz2 : zm < 60) (hk : 300 < k) :
    date_Rfc822.f k (B (text2 (monU m) y d h i s zh zm sg)) = some (((daysZ y m d : Int) - 719468) * 86400 + ((h * 3600 + i * 60 + s : Nat) : Int) - (if (sg.toNat : Int) = 45 then -((zh * 3600 + zm * 60 : Nat) : Int) else ((zh * 3600 + zm * 60 : Nat) : Int)), 0) := by
  obtain ⟨k, rfl⟩ : ∃ j, k = j + 10 := ⟨k - 10, by omega⟩
  have hv' := hv
  obtain ⟨v1, v2, v3, v4, v5, v6⟩ := hv'
  have vl := (long_bd y m).2
  obtain ⟨m1, m2, m3, m4, m5⟩ := mon_all ⟨m, by omega⟩ v3
  dsimp only at m1 m2 m3 m4 m5
  have hlen := text2_length (monU m) y d h i s zh zm sg m2
  have e : lowerOf (B (text2 (monU m) y d h i s zh zm sg)) = B (text2 (monL m) y d h i s zh zm sg) := by
    show B ((L (B (text2 (monU m) y d h i s zh zm sg))).map lowB) = _
    rw [L_B, low2 m y d h i s zh zm sg (by omega) (by omega) (by omega) (by omega) (by omega) (by omega) (by omega) hsg]
  have hlen2 : (B (text2 (monL m) y d h i s zh zm sg)).size = 26 := by rw [size_B, text2_length _ _ _ _ _ _ _ _ _ (by unfold monL; rw [List.length_map, m2])]
  have hw := text_words (B (text2 (monL m) y d h i s zh zm sg)) (by rw [hlen2]; decide) (k + 10) (by rw [hlen2]; omega)
  rw [L_B, words2 (monL m) y d h i s zh zm sg m3 m4 (by omega) (by omega) (by omega) (by omega) (by omega) (by omega) (by omega) hsg] at hw
  simp only [List.map_cons, List.map_nil] at hw
  have hpl : date_place.f (k + 7) (B (monL m)) (⟨#[106, 97, 110, 32, 102, 101, 98, 32, 109, 97, 114, 32, 97, 112, 114, 32, 109, 97, 121, 32, 106, 117, 110, 32, 106, 117, 108, 32, 97, 117, 103, 32, 115, 101, 112, 32, 111, 99, 116, 32, 110, 111, 118, 32, 100, 101, 99]⟩ : ByteArray) = some (m : Int) := by
    have := place_ge 60 (k + 7 - 60) _ _ _ m5
    rw [show 60 + (k + 7 - 60) = k + 7 by omega] at this
    exact this
  have hmx : mx (-1) (d : Int) = (d : Int) := by unfold mx; split <;> omega
  have hzs := zsum zh zm hz1 hz2
  have hcs := csum h i s hh hi hs
  have hnz := named_zone (k + 3) (sg :: (d2 zh ++ d2 zm)) rfl _ (zone_bare (k + 3) zh zm sg hsg hz1 hz2 (by omega))
  have hck := clock_three (k + 7) h i s hh hi hs (by omega) false
  unfold date_Rfc822.f text_Lower.f
  rw [if_pos (by rw [size_B, hlen]; decide), Option.bind_some, e, hw, Option.bind_some, if_neg (by simp), date_Rfc822.j0, if_neg (by simp), date_Rfc822.j1, if_pos (by simp), if_pos (by simp),
    show rdOf ByteArray.empty [B (d2 d), B (monL m), B (d4 y), B (clk h i s), B (sg :: (d2 zh ++ d2 zm))] 0 = B (d2 d) from rfl, num21 ⟨d, by omega⟩, Option.bind_some, num2 d (by omega), Option.bind_some, if_pos (by simp),
    show rdOf ByteArray.empty [B (d2 d), B (monL m), B (d4 y), B (clk h i s), B (sg :: (d2 zh ++ d2 zm))] 2 = B (d4 y) from rfl, num4 y (by omega), Option.bind_some, num42 y (by omega), Option.bind_some, if_neg (by decide), if_neg (by decide), hmx,
    date_Rfc822.j2, if_pos (by simp), show rdOf ByteArray.empty [B (d2 d), B (monL m), B (d4 y), B (clk h i s), B (sg :: (d2 zh ++ d2 zm))] 4 = B (sg :: (d2 zh ++ d2 zm)) from rfl, hnz, Option.bind_some]
  dsimp only
  rw [if_pos rfl, if_pos (by simp), show rdOf ByteArray.empty [B (d2 d), B (monL m), B (d4 y), B (clk h i s), B (sg :: (d2 zh ++ d2 zm))] 1 = B (monL m) from rfl, hpl, Option.bind_some, if_pos (by simp), show rdOf ByteArray.empty [B (d2 d), B (monL m), B (d4 y), B (clk h i s), B (sg :: (d2 zh ++ d2 zm))] 3 = B (d2 h ++ 58 :: (d2 i ++ 58 :: d2 s)) from rfl, hck, Option.bind_some]
  rw [whenE (k + 7) y m d _ _ hv hcs (zbd _ _ hzs).1 (zbd _ _ hzs).2 (by omega), Option.bind_some]

/-! ### the law -/
theorem pair_all : ∀ n : Fin 100, lanternlaw14_pair.f (n.val : Int) = some (B (d2 n.val)) := by decide +kernel
theorem pair_f (n : Nat) (h : n < 100) : lanternlaw14_pair.f (n : Int) = some (B (d2 n)) := pair_all ⟨n, h⟩
theorem four_f (y : Nat) (h : y < 10000) : lanternlaw14_four.f (y : Int) = some (B (d4 y)) := by
  have p1 := pair_f (y / 100) (by omega)
  have p2 := pair_f (y % 100) (by omega)
  have e := tdw y 100 _ rfl (big (show y / 100 ≤ 10000000 by omega))
  unfold lanternlaw14_four.f
  rw [show (100 : Int) = ((100 : Nat) : Int) from rfl, e, tm, p1, Option.bind_some, p2, Option.bind_some, size_d2, size_d2, if_pos (by decide), append_B]
  rfl
theorem size_clk (h i s : Nat) : (B (clk h i s)).size = 8 := by rw [size_B]; rfl
theorem spell_f (c z : Nat) (hc : c < 86400) (hz : z < 1440) : lanternlaw14_spell.f (c : Int) (z : Int) = some (B (clk (c / 3600) (c / 60 % 60) (c % 60)), B (d2 (z / 60)), B (d2 (z % 60))) := by
  have p1 := pair_f (c / 3600) (by omega)
  have p2 := pair_f (c / 60 % 60) (by omega)
  have p3 := pair_f (c % 60) (by omega)
  have p4 := pair_f (z / 60) (by omega)
  have p5 := pair_f (z % 60) (by omega)
  have e := tdw z 60 _ rfl (big (show z / 60 ≤ 10000000 by omega))
  obtain ⟨q1, q2, q3⟩ := clk_parts c hc
  have e' : wrap64 (Int.tdiv (z : Int) 60) = ((z / 60 : Nat) : Int) := by rw [show (60 : Int) = ((60 : Nat) : Int) from rfl]; exact e
  have e2 : Int.tmod (z : Int) 60 = ((z % 60 : Nat) : Int) := by rw [show (60 : Int) = ((60 : Nat) : Int) from rfl]; exact tm z 60
  have hs : (((B (d2 (c / 3600)) ++ (⟨#[58]⟩ : ByteArray)) ++ B (d2 (c / 60 % 60))) ++ (⟨#[58]⟩ : ByteArray)) ++ B (d2 (c % 60)) = B (clk (c / 3600) (c / 60 % 60) (c % 60)) := by
    apply L_inj
    simp only [L_append, L_B]
    rfl
  unfold lanternlaw14_spell.f
  rw [q1, q2, q3, e', e2, p1, Option.bind_some, p2, Option.bind_some, p3, Option.bind_some, p4, Option.bind_some, p5, Option.bind_some]
  simp only [ByteArray.size_append, size_d2, size_one]
  rw [if_pos (by decide), if_pos (by decide), if_pos (by decide), if_pos (by decide), hs]
theorem size_mon (m : Nat) (h : (monU m).length = 3) : (B (monU m)).size = 3 := by rw [size_B, h]
theorem sum_a (y m d h i s zh zm : Nat) (sg : UInt8) : (((((((((B (d4 y) ++ (⟨#[45]⟩ : ByteArray)) ++ B (d2 m)) ++ (⟨#[45]⟩ : ByteArray)) ++ B (d2 d)) ++ (⟨#[84]⟩ : ByteArray)) ++ B (clk h i s)) ++ (⟨#[sg]⟩ : ByteArray)) ++ B (d2 zh)) ++ (⟨#[58]⟩ : ByteArray)) ++ B (d2 zm) = B (stamp 84 y m d h i s (sg :: (d2 zh ++ 58 :: d2 zm))) := by
  apply L_inj
  simp only [L_append, L_B]
  rfl
theorem sum_b (m y d h i s zh zm : Nat) (sg : UInt8) (hl : (monU m).length = 3) : ((((((((B (d2 d) ++ (⟨#[32]⟩ : ByteArray)) ++ B (monU m)) ++ (⟨#[32]⟩ : ByteArray)) ++ B (d4 y)) ++ (⟨#[32]⟩ : ByteArray)) ++ B (clk h i s)) ++ (⟨#[32, sg]⟩ : ByteArray)) ++ B (d2 zh)) ++ B (d2 zm) = B (text2 (monU m) y d h i s zh zm sg) := by
  apply L_inj
  simp only [L_append, L_B]
  unfold text2
  simp [L, clk]
theorem zmul (z : Nat) : z / 60 * 3600 + z % 60 * 60 = z * 60 := by
  have h := Nat.div_add_mod z 60
  have h2 : z / 60 * 3600 = 60 * (z / 60) * 60 := by rw [Nat.mul_comm 60, Nat.mul_assoc]
  rw [h2, ← Nat.add_mul, h]
theorem cmul (c : Nat) (h : c < 86400) : c / 3600 * 3600 + c / 60 % 60 * 60 + c % 60 = c := by omega
theorem at_eq (Z c z : Nat) (hZ : Z ≤ 3652364) (hc : c < 86400) (hz : z < 1440) :
    wrap64 (wrap64 (wrap64 (((Z : Int) - 719468) * 86400) + (c : Int)) - wrap64 ((z : Int) * 60)) = ((Z : Int) - 719468) * 86400 + (c : Int) - ((z * 60 : Nat) : Int) ∧
    wrap64 (wrap64 (wrap64 (((Z : Int) - 719468) * 86400) + (c : Int)) + wrap64 ((z : Int) * 60)) = ((Z : Int) - 719468) * 86400 + (c : Int) - -((z * 60 : Nat) : Int) := by
  have x0 : z * 60 ≤ 86400 := by omega
  have x1 : (z : Int) * 60 = ((z * 60 : Nat) : Int) := rfl
  generalize z * 60 = Y at *
  obtain ⟨D, hD⟩ : ∃ D : Int, D = ((Z : Int) - 719468) * 86400 := ⟨_, rfl⟩
  have d1 : -100000000000 ≤ D ∧ D ≤ 1000000000000 := by omega
  rw [← hD, x1]
  clear hD x1
  have l1 : -9223372036854775808 ≤ D := by omega
  have l2 : D ≤ 9223372036854775807 := by omega
  have l3 : -9223372036854775808 ≤ D + (c : Int) := by omega
  have l4 : D + (c : Int) ≤ 9223372036854775807 := by omega
  have l5 : -9223372036854775808 ≤ D + (c : Int) - (Y : Int) := by omega
  have l6 : D + (c : Int) - (Y : Int) ≤ 9223372036854775807 := by omega
  have l7 : -9223372036854775808 ≤ D + (c : Int) + (Y : Int) := by omega
  have l8 : D + (c : Int) + (Y : Int) ≤ 9223372036854775807 := by omega
  have l9 : Y ≤ 10000000 := by omega
  have w1 := wi D l1 l2
  have w2 := wi (D + (c : Int)) l3 l4
  have w3 := wz Y (big l9)
  have w4 := wi (D + (c : Int) - (Y : Int)) l5 l6
  have w5 := wi (D + (c : Int) + (Y : Int)) l7 l8
  rw [w1, w2, w3, w4, w5, Int.sub_neg]
  exact ⟨rfl, rfl⟩
theorem size_two (a b : UInt8) : (⟨#[a, b]⟩ : ByteArray).size = 2 := rfl
theorem DateZones (days clock zone : Int) (hd : (Lit.int .i64 days).wf = true) (hc : (Lit.int .u32 clock).wf = true) (hz : (Lit.int .u16 zone).wf = true) : ∃ k, lanternlaw14_DateZones.f k days clock zone = some true := by
  refine ⟨20000, ?_⟩
  generalize hk : 20000 = k
  by_cases c1 : days < -719162 ∨ 2932896 < days
  · unfold lanternlaw14_DateZones.f
    rw [rcivil_no k days c1 (by omega), Option.bind_some]
    dsimp only
    rw [if_pos rfl, awake_f k (by omega)]
    rfl
  · obtain ⟨y, m, d, hv, rfl⟩ := date_of days (by omega) (by omega)
    obtain ⟨c, hcc, hce⟩ : ∃ c : Nat, c < 86400 ∧ Int.tmod clock 86400 = (c : Int) := by
      have h0 : 0 ≤ clock := by simp [Lit.wf, IntKind.min, IntKind.max, IntKind.signed, IntKind.bits] at hc; omega
      obtain ⟨n, rfl⟩ : ∃ n : Nat, clock = n := ⟨clock.toNat, by omega⟩
      exact ⟨n % 86400, Nat.mod_lt _ (by decide), tm n 86400⟩
    obtain ⟨z, hzz, hze⟩ : ∃ z : Nat, z < 1440 ∧ Int.tmod zone 1440 = (z : Int) := by
      have h0 : 0 ≤ zone := by simp [Lit.wf, IntKind.min, IntKind.max, IntKind.signed, IntKind.bits] at hz; omega
      obtain ⟨n, rfl⟩ : ∃ n : Nat, zone = n := ⟨zone.toNat, by omega⟩
      exact ⟨n % 1440, Nat.mod_lt _ (by decide), tm n 1440⟩
    have hv' := hv
    obtain ⟨v1, v2, v3, v4, v5, v6⟩ := hv'
    have vl := (long_bd y m).2
    have hb := daysZ_le y m d hv
    obtain ⟨m1, m2, m3, m4, m5⟩ := mon_all ⟨m, by omega⟩ v3
    dsimp only at m1 m2 m3 m4 m5
    have b1 : c ≤ 10000000 := by omega
    have b2 : z ≤ 10000000 := by omega
    have b3 : 3 * m ≤ 10000000 := by omega
    have b4 : 3 * m - 3 ≤ 10000000 := by omega
    have b5 : ((3 * m : Nat) : Int) - 3 = ((3 * m - 3 : Nat) : Int) := by omega
    have g1 : (0 : Int) ≤ ((3 * m - 3 : Nat) : Int) := by omega
    have g2 : ((3 * m - 3 : Nat) : Int) ≤ ((3 * m : Nat) : Int) := by omega
    have g3 : ((3 * m : Nat) : Int) ≤ 36 := by omega
    have g4 : ¬ (y : Int) = 0 := by omega
    have r1 := rfc_zone k y m d (c / 3600) (c / 60 % 60) (c % 60) (z / 60) (z % 60) 43 (Or.inl rfl) hv (by omega) (by omega) (by omega) (by omega) (by omega) (by omega)
    have r2 := rfc_zone k y m d (c / 3600) (c / 60 % 60) (c % 60) (z / 60) (z % 60) 45 (Or.inr rfl) hv (by omega) (by omega) (by omega) (by omega) (by omega) (by omega)
    have r3 := rfc822 k y m d (c / 3600) (c / 60 % 60) (c % 60) (z / 60) (z % 60) 43 (Or.inl rfl) hv (by omega) (by omega) (by omega) (by omega) (by omega) (by omega)
    have r4 := rfc822 k y m d (c / 3600) (c / 60 % 60) (c % 60) (z / 60) (z % 60) 45 (Or.inr rfl) hv (by omega) (by omega) (by omega) (by omega) (by omega) (by omega)
    rw [zmul, cmul c hcc, if_neg (by decide)] at r1 r3
    rw [zmul, cmul c hcc, if_pos (by decide)] at r2 r4
    have hcv := rcivil_f k y m d hv (by omega)
    have haw := awake_f k (by omega)
    have hsp := spell_f c z hcc hzz
    have hfo := four_f y (by omega)
    have hpm := pair_f m (by omega)
    have hpd := pair_f d (by omega)
    clear hk
    have wc : wrap64 (c : Int) = (c : Int) := wz c (big b1)
    have wzz : wrap64 (z : Int) = (z : Int) := wz z (big b2)
    have u1 : wrap64 (3 * (m : Int)) = ((3 * m : Nat) : Int) := wn (3 * m) rfl (big b3)
    have u2 : wrap64 (((3 * m : Nat) : Int) - 3) = ((3 * m - 3 : Nat) : Int) := wn (3 * m - 3) b5 (big b4)
    obtain ⟨t1, t2⟩ := at_eq (daysZ y m d) c z hb.2 hcc hzz
    unfold lanternlaw14_DateZones.f
    rw [hcv, Option.bind_some]
    dsimp only
    rw [if_neg g4, hce, hze, wc, wzz, hsp, Option.bind_some]
    dsimp only
    rw [hfo, hpm, hpd, u1, u2, Option.bind_some, Option.bind_some, Option.bind_some, Option.bind_some, Option.bind_some, Int.toNat_natCast, Int.toNat_natCast, m1, sum_a, sum_a, sum_b _ _ _ _ _ _ _ _ _ m2, sum_b _ _ _ _ _ _ _ _ _ m2, r1, r2, r3, r4, Option.bind_some, Option.bind_some, Option.bind_some, Option.bind_some, t1, t2]
    simp only [ByteArray.size_append, size_d2, size_d4, size_one, size_two, size_clk, size_mon m m2]
    rw [if_pos (by decide), if_pos (by decide), if_pos (by decide), if_pos (by decide), if_pos (by decide), if_pos (by decide), if_pos (by decide), if_pos g1, if_pos g2, if_pos g3, if_pos (by decide), if_pos (by decide), if_pos (by decide), if_pos (by decide), if_pos (by decide),
      if_pos (by decide), if_pos (by decide), if_pos (by decide), if_pos (by decide), if_pos (by decide), if_pos (by decide), if_pos (by decide), if_pos (by decide), if_pos (by decide), if_pos (by decide), if_pos (by decide), if_pos (by decide)]
    repeat rw [if_pos trivial]
    rw [haw]
    rfl
end Go.Proofs.YtlbgphddhjnlcaaGreatDoor.Q
