/- Times as texts: clocks, and the reading of a time that is written as it must be; the law DatePrints. -/
import Derived.Test.YtlbgphddhjnlcaaGreatDoorA5
set_option linter.unusedSimpArgs false
set_option linter.unusedVariables false
namespace Go.Proofs.YtlbgphddhjnlcaaGreatDoor.Q
open Go Go.RowKit Go.Lib Go.Proofs.YtlbgphddhjnlcaaGreatDoorW.PrintWords Go.Proofs.YtlbgphddhjnlcaaGreatDoorB Go.Proofs.YtlbgphddhjnlcaaGreatDoor.E Go.Proofs.YtlbgphddhjnlcaaGreatDoor.P

theorem big {n : Nat} (h : n ≤ 10000000) : n ≤ 9223372036854775807 := Nat.le_trans h (by decide)
theorem clk1 (h i s : Nat) (h1 : h < 24) (h2 : i < 60) (h3 : s < 60) :
    wrap64 (0 + wrap64 ((h : Int) * 3600)) = ((h * 3600 : Nat) : Int) ∧ wrap64 (((h * 3600 : Nat) : Int) + wrap64 ((i : Int) * 60)) = ((h * 3600 + i * 60 : Nat) : Int) ∧ wrap64 (((h * 3600 + i * 60 : Nat) : Int) + wrap64 ((s : Int) * 1)) = ((h * 3600 + i * 60 + s : Nat) : Int) := by
  have x1 : h * 3600 ≤ 82800 := by omega
  have x2 : i * 60 ≤ 3540 := by omega
  have b1 : (h : Int) * 3600 = ((h * 3600 : Nat) : Int) := rfl
  have b3 : (i : Int) * 60 = ((i * 60 : Nat) : Int) := rfl
  generalize h * 3600 = X at *
  generalize i * 60 = Y at *
  have a1 : X ≤ 10000000 := by omega
  have a2 : Y ≤ 10000000 := by omega
  have a3 : X + Y ≤ 10000000 := by omega
  have a4 : s ≤ 10000000 := by omega
  have a5 : X + Y + s ≤ 10000000 := by omega
  have b2 : 0 + (X : Int) = (X : Int) := by omega
  have b4 : (X : Int) + (Y : Int) = ((X + Y : Nat) : Int) := by omega
  have b5 : (s : Int) * 1 = (s : Int) := by omega
  have b6 : ((X + Y : Nat) : Int) + (s : Int) = ((X + Y + s : Nat) : Int) := by omega
  have c1 := wn _ b1 (big a1)
  have c2 := wn _ b2 (big a1)
  have c3 := wn _ b3 (big a2)
  have c4 := wn _ b4 (big a3)
  have c5 := wn _ b5 (big a4)
  have c6 := wn _ b6 (big a5)
  rw [c1, c2, c3, c4, c5, c6]
  exact ⟨rfl, rfl, rfl⟩
theorem clock_three (k h i s : Nat) (h1 : h < 24) (h2 : i < 60) (h3 : s < 60) (hk : 10 < k) (b : Bool) :
    date_clock.f k (B (d2 h ++ 58 :: (d2 i ++ 58 :: d2 s))) b = some ((h * 3600 + i * 60 + s : Nat) : Int) := by
  obtain ⟨k, rfl⟩ : ∃ j, k = j + 6 := ⟨k - 6, by omega⟩
  have hc : (58 : UInt8) < 48 ∨ (57 : UInt8) < 58 := Or.inr (by decide)
  have e : splitS 58 (d2 h ++ 58 :: (d2 i ++ 58 :: d2 s)) = [d2 h, d2 i, d2 s] := by
    rw [splitS_hit 58 _ _ (d2_ne h (by omega) 58 hc), splitS_hit 58 _ _ (d2_ne i (by omega) 58 hc), splitS_miss 58 _ (d2_ne s (by omega) 58 hc)]
  obtain ⟨q1, q2, q3⟩ := clk1 h i s h1 h2 h3
  have w1 : wrap64 (0 + 1) = 1 := wn 1 rfl (by decide)
  have w2 : wrap64 (1 + 1) = 2 := wn 2 rfl (by decide)
  have w3 : wrap64 (2 + 1) = 3 := wn 3 rfl (by decide)
  have g1 : ¬ (h : Int) < 0 := by omega
  have g2 : ¬ (h : Int) ≥ 24 := by omega
  have g3 : ¬ (i : Int) < 0 := by omega
  have g4 : ¬ (i : Int) ≥ 60 := by omega
  have g5 : ¬ (s : Int) < 0 := by omega
  have g6 : ¬ (s : Int) ≥ 60 := by omega
  have n1 := num2 h (by omega)
  have n2 := num2 i (by omega)
  have n3 := num2 s (by omega)
  unfold date_clock.f
  rw [split_f 58 _ (by rw [size_B]; simp [d2]), L_B, e, Option.bind_some, List.map_cons, List.map_cons, List.map_cons, List.map_nil, if_pos (by rfl), date_clock.j0, if_neg (by simp), Option.bind_some, if_pos (by simp), if_pos (by simp), Option.bind_some]
  show date_clock.l0 (k + 5) [B (d2 h), B (d2 i), B (d2 s)] 0 [24, 60, 60] 3 0 = _
  rw [date_clock.l0, if_pos (by decide), if_pos (by decide), if_pos (by decide), if_pos (by simp), show rdOf ByteArray.empty [B (d2 h), B (d2 i), B (d2 s)] 0 = B (d2 h) from rfl, n1, Option.bind_some, if_neg g1, show rd [24, 60, 60] 0 = 24 from rfl, if_neg g2, Option.bind_some, if_pos (by decide), show rd [3600, 60, 1] 0 = 3600 from rfl, q1, w1,
    date_clock.l0, if_pos (by decide), if_pos (by decide), if_pos (by decide), if_pos (by simp), show rdOf ByteArray.empty [B (d2 h), B (d2 i), B (d2 s)] 1 = B (d2 i) from rfl, n2, Option.bind_some, if_neg g3, show rd [24, 60, 60] 1 = 60 from rfl, if_neg g4, Option.bind_some, if_pos (by decide), show rd [3600, 60, 1] 1 = 60 from rfl, q2, w2,
    date_clock.l0, if_pos (by decide), if_pos (by decide), if_pos (by decide), if_pos (by simp), show rdOf ByteArray.empty [B (d2 h), B (d2 i), B (d2 s)] 2 = B (d2 s) from rfl, n3, Option.bind_some, if_neg g5, show rd [24, 60, 60] 2 = 60 from rfl, if_neg g6, Option.bind_some, if_pos (by decide), show rd [3600, 60, 1] 2 = 1 from rfl, q3, w3,
    date_clock.l0, if_neg (by decide)]
theorem clock_two (k h i : Nat) (h1 : h < 24) (h2 : i < 60) (hk : 10 < k) :
    date_clock.f k (B (d2 h ++ 58 :: d2 i)) false = some ((h * 3600 + i * 60 : Nat) : Int) := by
  obtain ⟨k, rfl⟩ : ∃ j, k = j + 6 := ⟨k - 6, by omega⟩
  have hc : (58 : UInt8) < 48 ∨ (57 : UInt8) < 58 := Or.inr (by decide)
  have e : splitS 58 (d2 h ++ 58 :: d2 i) = [d2 h, d2 i] := by
    rw [splitS_hit 58 _ _ (d2_ne h (by omega) 58 hc), splitS_miss 58 _ (d2_ne i (by omega) 58 hc)]
  obtain ⟨q1, q2, q3⟩ := clk1 h i 0 h1 h2 (by omega)
  have w1 : wrap64 (0 + 1) = 1 := wn 1 rfl (by decide)
  have w2 : wrap64 (1 + 1) = 2 := wn 2 rfl (by decide)
  have g1 : ¬ (h : Int) < 0 := by omega
  have g2 : ¬ (h : Int) ≥ 24 := by omega
  have g3 : ¬ (i : Int) < 0 := by omega
  have g4 : ¬ (i : Int) ≥ 60 := by omega
  have n1 := num2 h (by omega)
  have n2 := num2 i (by omega)
  unfold date_clock.f
  rw [split_f 58 _ (by rw [size_B]; simp [d2]), L_B, e, Option.bind_some, List.map_cons, List.map_cons, List.map_nil, if_neg (by simp), if_neg (by simp), show ((([B (d2 h), B (d2 i)].length : Nat) : Int) != 2) = false from rfl, date_clock.j0, if_neg (by simp), Option.bind_some, if_pos (by simp), if_pos (by simp), Option.bind_some]
  show date_clock.l0 (k + 5) [B (d2 h), B (d2 i)] 0 [24, 60] 2 0 = _
  rw [date_clock.l0, if_pos (by decide), if_pos (by decide), if_pos (by decide), if_pos (by simp), show rdOf ByteArray.empty [B (d2 h), B (d2 i)] 0 = B (d2 h) from rfl, n1, Option.bind_some, if_neg g1, show rd [24, 60] 0 = 24 from rfl, if_neg g2, Option.bind_some, if_pos (by decide), show rd [3600, 60, 1] 0 = 3600 from rfl, q1, w1,
    date_clock.l0, if_pos (by decide), if_pos (by decide), if_pos (by decide), if_pos (by simp), show rdOf ByteArray.empty [B (d2 h), B (d2 i)] 1 = B (d2 i) from rfl, n2, Option.bind_some, if_neg g3, show rd [24, 60] 1 = 60 from rfl, if_neg g4, Option.bind_some, if_pos (by decide), show rd [3600, 60, 1] 1 = 60 from rfl, q2, w2,
    date_clock.l0, if_neg (by decide)]

/-- A time as it is written, what stands behind the seconds besides. -/
def stamp (T : UInt8) (y m d h i s : Nat) (tail : List UInt8) : List UInt8 := d4 y ++ 45 :: (d2 m ++ 45 :: (d2 d ++ T :: (d2 h ++ 58 :: (d2 i ++ 58 :: (d2 s ++ tail)))))
theorem stamp_low (y m d h i s : Nat) (tail : List UInt8) (hy : y < 10000) (hm : m < 100) (hd : d < 100) (hh : h < 100) (hi : i < 100) (hs : s < 100) : (stamp 84 y m d h i s tail).map lowB = stamp 116 y m d h i s (tail.map lowB) := by
  unfold stamp d4
  simp only [List.map_append, List.map_cons, d2_low (y / 100) (by omega), d2_low (y % 100) (by omega), d2_low m hm, d2_low d hd, d2_low h hh, d2_low i hi, d2_low s hs]
  rfl
theorem stamp_length (T : UInt8) (y m d h i s : Nat) (tail : List UInt8) : (stamp T y m d h i s tail).length = 19 + tail.length := by
  simp [stamp, d4, d2]; omega
theorem rfc_head (k y m d h i s : Nat) (tail : List UInt8) (hy : y < 10000) (hm : m < 100) (hd : d < 100) (hh : h < 100) (hi : i < 100) (hs : s < 100) (ht : 1 ≤ tail.length) (ht2 : tail.length ≤ 100) :
    date_Rfc3339.f k (B (stamp 84 y m d h i s tail)) = date_Rfc3339.j0 k (B (stamp 116 y m d h i s (tail.map lowB))) false := by
  have e : lowerOf (B (stamp 84 y m d h i s tail)) = B (stamp 116 y m d h i s (tail.map lowB)) := by
    show B ((L (B (stamp 84 y m d h i s tail))).map lowB) = _
    rw [L_B, stamp_low y m d h i s tail hy hm hd hh hi hs]
  have hsz : (B (stamp 116 y m d h i s (tail.map lowB))).size = 19 + tail.length := by rw [size_B, stamp_length, List.length_map]
  have b1 : bt (B (stamp 116 y m d h i s (tail.map lowB))) 4 = 45 := (bt_B _ _).trans rfl
  have b2 : bt (B (stamp 116 y m d h i s (tail.map lowB))) 7 = 45 := (bt_B _ _).trans rfl
  have b3 : bt (B (stamp 116 y m d h i s (tail.map lowB))) 10 = 116 := (bt_B _ _).trans rfl
  unfold date_Rfc3339.f text_Lower.f
  rw [if_pos (by rw [size_B, stamp_length]; omega), Option.bind_some, e, if_neg (by rw [hsz]; omega), if_pos (by rw [hsz]; omega), b1, if_pos rfl, if_pos (by rw [hsz]; omega), b2, if_pos rfl, if_pos (by rw [hsz]; omega), b3]
  rfl
theorem rfc_j0 (k y m d h i s : Nat) (tl : List UInt8) (hh : h < 24) (hi : i < 60) (hs : s < 60) (hdot : Lib.hasPrefix tl [46] = false) (hk : 20 < k) :
    date_Rfc3339.j0 (k + 1) (B (stamp 116 y m d h i s tl)) false = date_Rfc3339.j1 k (B (stamp 116 y m d h i s tl)) ((h * 3600 + i * 60 + s : Nat) : Int) (B tl) := by
  have hsz : (B (stamp 116 y m d h i s tl)).size = 19 + tl.length := by rw [size_B, stamp_length]
  have e1 : (B (stamp 116 y m d h i s tl)).extract 11 19 = B (d2 h ++ 58 :: (d2 i ++ 58 :: d2 s)) := by
    rw [extract_B]
    rfl
  have e2 : (B (stamp 116 y m d h i s tl)).extract 19 (B (stamp 116 y m d h i s tl)).size = B tl := by
    rw [extract_B, size_B, List.take_length]
    rfl
  rw [date_Rfc3339.j0, if_neg (by simp), if_pos (by decide), if_pos (by rw [hsz]; omega), e1, clock_three k h i s hh hi hs (by omega) true, Option.bind_some, e2]
  unfold strings_CutPrefix.f cutPrefixOf
  rw [Option.bind_some]
  dsimp only
  rw [show Lib.hasPrefix (B tl).data.toList ((⟨#[46]⟩ : ByteArray)).data.toList = false from (congrArg (fun z => Lib.hasPrefix z [46]) (L_B tl)).trans hdot, if_neg (by simp)]
theorem whenE (k y m d c : Nat) (a : Int) (hv : Valid y m d) (hc : c < 90000) (ha1 : -90000 ≤ a) (ha2 : a ≤ 90000) (hk : 10 < k) :
    date_when.f k (y : Int) (m : Int) (d : Int) (c : Int) a = some (((daysZ y m d : Int) - 719468) * 86400 + c - a, 0) := by
  have hb := daysZ_le y m d hv
  have g1 : ¬ (c : Int) < 0 := by omega
  generalize hz : daysZ y m d = Z at *
  have a1 : -9223372036854775808 ≤ ((Z : Int) - 719468) * 86400 := by omega
  have a2 : ((Z : Int) - 719468) * 86400 ≤ 9223372036854775807 := by omega
  have a3 : -9223372036854775808 ≤ ((Z : Int) - 719468) * 86400 + c := by omega
  have a4 : ((Z : Int) - 719468) * 86400 + c ≤ 9223372036854775807 := by omega
  have a5 : -9223372036854775808 ≤ ((Z : Int) - 719468) * 86400 + c - a := by omega
  have a6 : ((Z : Int) - 719468) * 86400 + c - a ≤ 9223372036854775807 := by omega
  have c1 := wi _ a1 a2
  have c2 := wi _ a3 a4
  have c3 := wi _ a5 a6
  unfold date_when.f
  rw [days_f k y m d hv (by omega), Option.bind_some, hz]
  dsimp only
  rw [if_pos rfl, if_neg g1, c1, c2, c3]
theorem rfc_j2 (k y m d h i s c : Nat) (a : Int) (tl : List UInt8) (hv : Valid y m d) (hc : c < 90000) (ha1 : -90000 ≤ a) (ha2 : a ≤ 90000) (hk : 10 < k) :
    date_Rfc3339.j2 (k + 1) (B (stamp 116 y m d h i s tl)) (c : Int) a false = some (((daysZ y m d : Int) - 719468) * 86400 + c - a, 0) := by
  have hv' := hv
  obtain ⟨v1, v2, v3, v4, v5, v6⟩ := hv'
  have vl := (long_bd y m).2
  have hsz : (B (stamp 116 y m d h i s tl)).size = 19 + tl.length := by rw [size_B, stamp_length]
  have e1 : (B (stamp 116 y m d h i s tl)).extract 0 4 = B (d4 y) := by rw [extract_B]; rfl
  have e2 : (B (stamp 116 y m d h i s tl)).extract 5 7 = B (d2 m) := by rw [extract_B]; rfl
  have e3 : (B (stamp 116 y m d h i s tl)).extract 8 10 = B (d2 d) := by rw [extract_B]; rfl
  rw [date_Rfc3339.j2, if_neg (by simp), if_pos (by decide), if_pos (by rw [hsz]; omega), e1, num4 y (by omega), Option.bind_some, if_pos (by decide), if_pos (by rw [hsz]; omega), e2, num2 m (by omega), Option.bind_some, if_pos (by decide), if_pos (by rw [hsz]; omega), e3, num2 d (by omega), Option.bind_some, whenE k y m d c a hv hc ha1 ha2 hk, Option.bind_some]
/-! ### the law DatePrints -/
theorem clk_parts (c : Nat) (hc : c < 86400) : wrap64 (Int.tdiv (c : Int) 3600) = ((c / 3600 : Nat) : Int) ∧ Int.tmod (wrap64 (Int.tdiv (c : Int) 60)) 60 = ((c / 60 % 60 : Nat) : Int) ∧ Int.tmod (c : Int) 60 = ((c % 60 : Nat) : Int) := by
  have a1 : c / 3600 ≤ 10000000 := by omega
  have a2 : c / 60 ≤ 10000000 := by omega
  refine ⟨tdw c 3600 _ rfl (big a1), ?_, tm c 60⟩
  have e := tdw c 60 _ rfl (big a2)
  rw [show (60 : Int) = ((60 : Nat) : Int) from rfl, e, tm]
theorem size_d2 (n : Nat) : (B (d2 n)).size = 2 := by rw [size_B]; rfl
theorem size_d4 (n : Nat) : (B (d4 n)).size = 4 := by rw [size_B]; rfl
theorem size_one (b : UInt8) : (⟨#[b]⟩ : ByteArray).size = 1 := rfl
end Go.Proofs.YtlbgphddhjnlcaaGreatDoor.Q
