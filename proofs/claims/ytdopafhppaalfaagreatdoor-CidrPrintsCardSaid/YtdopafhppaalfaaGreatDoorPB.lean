/- How an address is written, and read back: for CidrPrints. (Printed by wip/gen/gen_p1.py out of XK20.) -/
import Derived.Test.YtdopafhppaalfaaGreatDoorPM
import Derived.Test.YtdopafhppaalfaaGreatDoorL2
set_option linter.unusedSimpArgs false
set_option linter.unusedVariables false
set_option maxRecDepth 10000
namespace Go.Proofs.YtdopafhppaalfaaGreatDoor.Q
open Go Go.RowKit Go.Lib Go.Proofs.YtdopafhppaalfaaGreatDoorW.PrintWords Go.Proofs.YtdopafhppaalfaaGreatDoorW.PrintMore Go.Proofs.YtdopafhppaalfaaGreatDoorB Go.Proofs.YtdopafhppaalfaaGreatDoor.E Go.Proofs.YtdopafhppaalfaaGreatDoorV Go.Proofs.YtdopafhppaalfaaGreatDoor.P

theorem dc_no47 : ∀ d : Fin 16, dc d.val ≠ 47 := by decide
theorem digL_sl (base n : Nat) (hb : 2 ≤ base ∧ base ≤ 16) : ∀ b ∈ digL base n, b ≠ 47 := by
 intro b hb'
 obtain ⟨d, hd, rfl⟩ := digL_mem base hb n b hb'
 exact dc_no47 ⟨d, hd⟩
theorem hexT_sl (ns : List Nat) : ∀ b ∈ hexT ns, b ≠ 47 := by
 intro b hb
 rcases join_mem 58 b _ hb with rfl | ⟨w, hw, h⟩
 ·decide
 ·obtain ⟨n, _, rfl⟩ := List.mem_map.1 hw
  exact digL_sl 16 n (by omega) b h
theorem shortT_sl (a n : Nat) (ns : List Nat) : ∀ b ∈ shortT a n ns, b ≠ 47 := by
 intro b hb
 unfold shortT at hb
 split at hb
 ·exact hexT_sl ns b hb
 ·rcases List.mem_append.1 hb with h | h
  ·exact hexT_sl _ b h
  ·rcases List.mem_cons.1 h with rfl | h
   ·decide
   ·rcases List.mem_cons.1 h with rfl | h
    ·decide
    ·exact hexT_sl _ b h
theorem dotL_sl (a b c d : Nat) : ∀ x ∈ dotL a b c d, x ≠ 47 := by
 intro x hx
 unfold dotL at hx
 simp only [List.mem_append, List.mem_cons] at hx
 rcases hx with h | rfl | h | rfl | h | rfl | h <;> first | decide | exact digL_sl 10 _ (by omega) x h
theorem mapT_sl (a b c d : Nat) : ∀ x ∈ mapT a b c d, x ≠ 47 := by
 intro x hx
 unfold mapT at hx
 simp only [List.mem_cons] at hx
 rcases hx with rfl | rfl | rfl | rfl | rfl | rfl | rfl | h <;> first | decide | exact dotL_sl a b c d x h
/-- An address is written, as its reference writes it; what is written is read back. -/
def Says (b : Bool) (m1 m2 m3 m4 m5 m6 m7 m8 m9 m10 m11 m12 m13 m14 m15 m16 : Nat) : Prop := ∃ t : List UInt8, t.length ≤ 900 ∧ (∀ x ∈ t, x ≠ 47) ∧ ip_Print.f 6000000 b (m1 : Int) (m2 : Int) (m3 : Int) (m4 : Int) (m5 : Int) (m6 : Int) (m7 : Int) (m8 : Int) (m9 : Int) (m10 : Int) (m11 : Int) (m12 : Int) (m13 : Int) (m14 : Int) (m15 : Int) (m16 : Int) = some (B t, 0) ∧ lanternref05_Print.f 6000000 b (m1 : Int) (m2 : Int) (m3 : Int) (m4 : Int) (m5 : Int) (m6 : Int) (m7 : Int) (m8 : Int) (m9 : Int) (m10 : Int) (m11 : Int) (m12 : Int) (m13 : Int) (m14 : Int) (m15 : Int) (m16 : Int) = some (B t) ∧ parseV t = some (b, (m1 : Int), (m2 : Int), (m3 : Int), (m4 : Int), (m5 : Int), (m6 : Int), (m7 : Int), (m8 : Int), (m9 : Int), (m10 : Int), (m11 : Int), (m12 : Int), (m13 : Int), (m14 : Int), (m15 : Int), (m16 : Int))
theorem pat_run {g1 g2 g3 g4 g5 g6 g7 g8 : Nat} {a n : Nat} (h : isRun (pat8 (g1 : Int) (g2 : Int) (g3 : Int) (g4 : Int) (g5 : Int) (g6 : Int) (g7 : Int) (g8 : Int)) a n = true) : ∀ j, a ≤ j → j < a + n → ([g1, g2, g3, g4, g5, g6, g7, g8] : List Nat).getD j 0 = 0 := by
 intro j h1 h2
 have hle := run_le h
 unfold isRun at h
 rw [Bool.and_eq_true] at h
 have hj := List.all_eq_true.1 h.2 j (List.mem_range.2 (by omega))
 rw [if_pos ⟨h1, h2⟩, beq_iff_eq] at hj
 have hj8 : j < 8 := by omega
 have one (g : Nat) : (if decide ((g : Int) = 0) = true then (0 : Int) else 1) = 0 → g = 0 := by
  by_cases e : (g : Int) = 0
  ·intro _; omega
  ·intro hh; simp [e] at hh; omega
 match j, hj8, hj with
 | 0, _, hj => exact one g1 hj
 | 1, _, hj => exact one g2 hj
 | 2, _, hj => exact one g3 hj
 | 3, _, hj => exact one g4 hj
 | 4, _, hj => exact one g5 hj
 | 5, _, hj => exact one g6 hj
 | 6, _, hj => exact one g7 hj
 | 7, _, hj => exact one g8 hj
 | j + 8, hj8, _ => omega
theorem shortT_len (ns : List Nat) (h : ∀ x ∈ ns, x < 65536) (h8 : ns.length = 8) (a n : Nat) : (shortT a n ns).length ≤ 200 := by
 unfold shortT
 split
 ·have := hexT_len4 ns h
  omega
 ·have h1 := hexT_len4 (ns.take a) fun x hx => h x (List.mem_of_mem_take hx)
  have h2 := hexT_len4 (ns.drop (a + n)) fun x hx => h x (List.mem_of_mem_drop hx)
  rw [List.length_take] at h1
  rw [List.length_drop] at h2
  rw [List.length_append]
  simp only [List.length_cons]
  omega
theorem prints_six (m1 m2 m3 m4 m5 m6 m7 m8 m9 m10 m11 m12 m13 m14 m15 m16 : Nat) (h1 : m1 < 256) (h2 : m2 < 256) (h3 : m3 < 256) (h4 : m4 < 256) (h5 : m5 < 256) (h6 : m6 < 256) (h7 : m7 < 256) (h8 : m8 < 256) (h9 : m9 < 256) (h10 : m10 < 256) (h11 : m11 < 256) (h12 : m12 < 256) (h13 : m13 < 256) (h14 : m14 < 256) (h15 : m15 < 256) (h16 : m16 < 256) (hm : mapB (m1 : Int) (m2 : Int) (m3 : Int) (m4 : Int) (m5 : Int) (m6 : Int) (m7 : Int) (m8 : Int) (m9 : Int) (m10 : Int) (m11 : Int) (m12 : Int) = false) : Says true m1 m2 m3 m4 m5 m6 m7 m8 m9 m10 m11 m12 m13 m14 m15 m16 := by
 have hC := Check_f true (m1 : Int) (m2 : Int) (m3 : Int) (m4 : Int) (m5 : Int) (m6 : Int) (m7 : Int) (m8 : Int) (m9 : Int) (m10 : Int) (m11 : Int) (m12 : Int) (m13 : Int) (m14 : Int) (m15 : Int) (m16 : Int)
 rw [Bool.true_or, if_pos rfl] at hC
 have d (x y : Nat) (hx : x < 256) (hy : y < 256) : x * 256 + y < 65536 := by omega
 obtain ⟨a, n, e1, e2, ha, hr⟩ := both_f (m1 * 256 + m2) (m3 * 256 + m4) (m5 * 256 + m6) (m7 * 256 + m8) (m9 * 256 + m10) (m11 * 256 + m12) (m13 * 256 + m14) (m15 * 256 + m16) (d m1 m2 h1 h2) (d m3 m4 h3 h4) (d m5 m6 h5 h6) (d m7 m8 h7 h8) (d m9 m10 h9 h10) (d m11 m12 h11 h12) (d m13 m14 h13 h14) (d m15 m16 h15 h16) 5999991 (by decide)
 have hall : ∀ x ∈ [m1 * 256 + m2, m3 * 256 + m4, m5 * 256 + m6, m7 * 256 + m8, m9 * 256 + m10, m11 * 256 + m12, m13 * 256 + m14, m15 * 256 + m16], x < 65536 := by
  intro x hx
  simp only [List.mem_cons, List.not_mem_nil, or_false] at hx
  rcases hx with rfl | rfl | rfl | rfl | rfl | rfl | rfl | rfl <;> (apply d <;> assumption)
 have hn : n < 2 ∨ a + n ≤ 8 := hr.imp id run_le
 obtain ⟨p, q, hpq, hq, c1, c2, hv⟩ := parse_short (m1 * 256 + m2) (m3 * 256 + m4) [m5 * 256 + m6, m7 * 256 + m8, m9 * 256 + m10, m11 * 256 + m12, m13 * 256 + m14, m15 * 256 + m16] hall rfl a n ha hn
 rw [six_back m1 m2 m3 m4 m5 m6 m7 m8 m9 m10 m11 m12 m13 m14 m15 m16 h2 h4 h6 h8 h10 h12 h14 h16 p q hpq hq (by
  intro j j1 j2
  by_cases h2' : n < 2
  ·obtain ⟨rfl, rfl⟩ := c1 h2'
   omega
  ·obtain ⟨rfl, rfl⟩ := c2 (by omega)
   exact pat_run (hr.resolve_left h2') j j1 j2)] at hv
 refine ⟨_, (by have := shortT_len _ hall rfl a n; omega), (shortT_sl _ _ _), ?_, ?_, hv⟩
 ·have hp := pg_groups true m1 m2 m3 m4 m5 m6 m7 m8 m9 m10 m11 m12 m13 m14 m15 m16 h1 h2 h3 h4 h5 h6 h7 h8 h9 h10 h11 h12 h13 h14 h15 h16 5999991
  rw [ip_Print.f, hC, Option.bind_some, if_pos rfl, if_pos rfl, mapped_f, hm, Option.bind_some, Bool.and_false, if_neg (by decide)]
  exact hp.trans e1
 ·have hp := rg_groups true m1 m2 m3 m4 m5 m6 m7 m8 m9 m10 m11 m12 m13 m14 m15 m16 h1 h2 h3 h4 h5 h6 h7 h8 h9 h10 h11 h12 h13 h14 h15 h16 5999991
  rw [lanternref05_Print.f, if_pos rfl, refMapped_f 6000000 (by decide), hm, Option.bind_some, Bool.false_and, if_neg (by decide)]
  exact hp.trans e2
theorem prints_map (m1 m2 m3 m4 m5 m6 m7 m8 m9 m10 m11 m12 m13 m14 m15 m16 : Nat) (h1 : m1 < 256) (h2 : m2 < 256) (h3 : m3 < 256) (h4 : m4 < 256) (h5 : m5 < 256) (h6 : m6 < 256) (h7 : m7 < 256) (h8 : m8 < 256) (h9 : m9 < 256) (h10 : m10 < 256) (h11 : m11 < 256) (h12 : m12 < 256) (h13 : m13 < 256) (h14 : m14 < 256) (h15 : m15 < 256) (h16 : m16 < 256) (hm : mapB (m1 : Int) (m2 : Int) (m3 : Int) (m4 : Int) (m5 : Int) (m6 : Int) (m7 : Int) (m8 : Int) (m9 : Int) (m10 : Int) (m11 : Int) (m12 : Int) = true) : Says true m1 m2 m3 m4 m5 m6 m7 m8 m9 m10 m11 m12 m13 m14 m15 m16 := by
 have hC := Check_f true (m1 : Int) (m2 : Int) (m3 : Int) (m4 : Int) (m5 : Int) (m6 : Int) (m7 : Int) (m8 : Int) (m9 : Int) (m10 : Int) (m11 : Int) (m12 : Int) (m13 : Int) (m14 : Int) (m15 : Int) (m16 : Int)
 rw [Bool.true_or, if_pos rfl] at hC
 have hv := (parse_map m13 m14 m15 m16 h13 h14 h15 h16).trans (congrArg some (map_back m13 m14 m15 m16))
 have hl := dotL_len m13 m14 m15 m16 h13 h14 h15 h16
 have hd := dots_f m13 m14 m15 m16 h13 h14 h15 h16 6000000 (by decide)
 have hrd := refdots_f true m1 m2 m3 m4 m5 m6 m7 m8 m9 m10 m11 m12 m13 m14 m15 m16 h13 h14 h15 h16 6000000 (by decide)
 have hB : (⟨#[58, 58, 102, 102, 102, 102, 58]⟩ : ByteArray) ++ B (dotL m13 m14 m15 m16) = B (mapT m13 m14 m15 m16) := by
  rw [show (⟨#[58, 58, 102, 102, 102, 102, 58]⟩ : ByteArray) = B [58, 58, 102, 102, 102, 102, 58] from rfl, append_B]
  rfl
 have hz := hm
 simp only [mapB, Bool.and_eq_true, beq_iff_eq] at hz
 refine ⟨mapT m13 m14 m15 m16, (by unfold mapT; simp only [List.length_cons]; omega), (mapT_sl _ _ _ _), ?_, ?_, hv.trans ?_⟩
 ·rw [ip_Print.f, hC, Option.bind_some, if_pos rfl, if_pos rfl, mapped_f, hm, Option.bind_some, Bool.and_true, if_pos rfl, hd, Option.bind_some, if_pos (by rw [size_B]; omega), hB]
 ·rw [lanternref05_Print.f, if_pos rfl, refMapped_f 6000000 (by decide), hm, Option.bind_some, Bool.true_and, if_pos rfl, hrd, Option.bind_some, if_pos (by rw [size_B]; omega), hB]
 ·simp [hz]
theorem prints_four (m1 m2 m3 m4 m5 m6 m7 m8 m9 m10 m11 m12 m13 m14 m15 m16 : Nat) (h1 : m1 < 256) (h2 : m2 < 256) (h3 : m3 < 256) (h4 : m4 < 256) (h5 : m5 < 256) (h6 : m6 < 256) (h7 : m7 < 256) (h8 : m8 < 256) (h9 : m9 < 256) (h10 : m10 < 256) (h11 : m11 < 256) (h12 : m12 < 256) (h13 : m13 < 256) (h14 : m14 < 256) (h15 : m15 < 256) (h16 : m16 < 256) (hz : zB (m1 : Int) (m2 : Int) (m3 : Int) (m4 : Int) (m5 : Int) (m6 : Int) (m7 : Int) (m8 : Int) (m9 : Int) (m10 : Int) (m11 : Int) (m12 : Int) = true) : Says false m1 m2 m3 m4 m5 m6 m7 m8 m9 m10 m11 m12 m13 m14 m15 m16 := by
 have hC := Check_f false (m1 : Int) (m2 : Int) (m3 : Int) (m4 : Int) (m5 : Int) (m6 : Int) (m7 : Int) (m8 : Int) (m9 : Int) (m10 : Int) (m11 : Int) (m12 : Int) (m13 : Int) (m14 : Int) (m15 : Int) (m16 : Int)
 rw [hz, Bool.false_or, if_pos rfl] at hC
 have hv := parse_dotL m13 m14 m15 m16 h13 h14 h15 h16
 have hl := dotL_len m13 m14 m15 m16 h13 h14 h15 h16
 have hd := dots_f m13 m14 m15 m16 h13 h14 h15 h16 6000000 (by decide)
 have hrd := refdots_f false m1 m2 m3 m4 m5 m6 m7 m8 m9 m10 m11 m12 m13 m14 m15 m16 h13 h14 h15 h16 6000000 (by decide)
 have hz' := hz
 simp only [zB, Bool.and_eq_true, beq_iff_eq] at hz'
 refine ⟨dotL m13 m14 m15 m16, (by omega), (dotL_sl _ _ _ _), ?_, ?_, hv.trans ?_⟩
 ·rw [ip_Print.f, hC, Option.bind_some, if_pos rfl, if_neg (by decide), hd, Option.bind_some]
 ·rw [lanternref05_Print.f, if_neg (by decide), hrd, Option.bind_some]
 ·simp [hz', V4T]
theorem says (b : Bool) (m1 m2 m3 m4 m5 m6 m7 m8 m9 m10 m11 m12 m13 m14 m15 m16 : Nat) (h1 : m1 < 256) (h2 : m2 < 256) (h3 : m3 < 256) (h4 : m4 < 256) (h5 : m5 < 256) (h6 : m6 < 256) (h7 : m7 < 256) (h8 : m8 < 256) (h9 : m9 < 256) (h10 : m10 < 256) (h11 : m11 < 256) (h12 : m12 < 256) (h13 : m13 < 256) (h14 : m14 < 256) (h15 : m15 < 256) (h16 : m16 < 256) (h : (b || zB (m1 : Int) (m2 : Int) (m3 : Int) (m4 : Int) (m5 : Int) (m6 : Int) (m7 : Int) (m8 : Int) (m9 : Int) (m10 : Int) (m11 : Int) (m12 : Int)) = true) : Says b m1 m2 m3 m4 m5 m6 m7 m8 m9 m10 m11 m12 m13 m14 m15 m16 := by
 cases b with
 | false => exact prints_four m1 m2 m3 m4 m5 m6 m7 m8 m9 m10 m11 m12 m13 m14 m15 m16 h1 h2 h3 h4 h5 h6 h7 h8 h9 h10 h11 h12 h13 h14 h15 h16 (by rw [Bool.false_or] at h; exact h)
 | true =>
  cases hm : mapB (m1 : Int) (m2 : Int) (m3 : Int) (m4 : Int) (m5 : Int) (m6 : Int) (m7 : Int) (m8 : Int) (m9 : Int) (m10 : Int) (m11 : Int) (m12 : Int) with
  | false => exact prints_six m1 m2 m3 m4 m5 m6 m7 m8 m9 m10 m11 m12 m13 m14 m15 m16 h1 h2 h3 h4 h5 h6 h7 h8 h9 h10 h11 h12 h13 h14 h15 h16 hm
  | true => exact prints_map m1 m2 m3 m4 m5 m6 m7 m8 m9 m10 m11 m12 m13 m14 m15 m16 h1 h2 h3 h4 h5 h6 h7 h8 h9 h10 h11 h12 h13 h14 h15 h16 hm
end Go.Proofs.YtdopafhppaalfaaGreatDoor.Q
set_option linter.unusedSimpArgs false
set_option linter.unusedVariables false
set_option maxRecDepth 10000
namespace Go.Proofs.YtdopafhppaalfaaGreatDoor.Q
open Go Go.RowKit Go.Lib Go.Proofs.YtdopafhppaalfaaGreatDoorW.PrintWords Go.Proofs.YtdopafhppaalfaaGreatDoorW.PrintMore Go.Proofs.YtdopafhppaalfaaGreatDoorB Go.Proofs.YtdopafhppaalfaaGreatDoor.E Go.Proofs.YtdopafhppaalfaaGreatDoorV Go.Proofs.YtdopafhppaalfaaGreatDoor.P Go.Proofs.YtdopafhppaalfaaGreatDoor.G Go.Proofs.YtdopafhppaalfaaGreatDoor.L

theorem par6 : lanternref05_Parse.f 60 (⟨#[58, 58, 102, 102, 102, 102, 58, 49, 48, 46, 48, 46, 48, 46, 49]⟩ : ByteArray) = some (true, 0, 0, 0, 0, 0, 0, 0, 0, 0, 0, 255, 255, 10, 0, 0, 1, true) := by kernel_rfl
theorem par4 : lanternref05_Parse.f 60 (⟨#[56, 46, 56, 46, 56, 46, 56]⟩ : ByteArray) = some (false, 0, 0, 0, 0, 0, 0, 0, 0, 0, 0, 0, 0, 8, 8, 8, 8, true) := by kernel_rfl
theorem al6 : cidr_Allow.f 60 true 0 0 0 0 0 0 0 0 0 0 255 255 10 0 0 1 [] = some 8 := by
 rw [cidr_Allow.f, forb60]
 decide +kernel
theorem al4 : cidr_Allow.f 60 false 0 0 0 0 0 0 0 0 0 0 0 0 8 8 8 8 [] = some 0 := by
 rw [cidr_Allow.f, forb60]
 decide +kernel
theorem aw60 : lanternlaw06_awake.f 60 = some true := by
 rw [lanternlaw06_awake.f, par6, Option.bind_some, par4, Option.bind_some]
 dsimp only
 rw [if_pos rfl, if_pos rfl, al6, Option.bind_some, if_pos rfl, al4, Option.bind_some, if_pos rfl, forb60, Option.bind_some]
 kernel_rfl
theorem awake_f (k : Nat) (hk : 60 ≤ k) : lanternlaw06_awake.f k = some true := up_to lanternlaw06_awake.mono aw60 k hk
theorem idx_slash : ∀ (t r : List UInt8), (∀ x ∈ t, x ≠ 47) → Lib.index (t ++ 47 :: r) [47] = (t.length : Int)
 | [], r, _ => by rw [List.nil_append, Lib.index, if_pos (by simp [List.isPrefixOf])]; rfl
 | b :: t, r, h => by
  rw [List.cons_append, idx_cons b _ _ (by rw [List.isPrefixOf, beq_eq_false_iff_ne.mpr (fun e => h b (List.mem_cons_self ..) e.symm), Bool.false_and]), idx_slash t r (fun x hx => h x (List.mem_cons_of_mem _ hx))]
  unfold bump
  rw [if_neg (by omega)]
  simp
theorem cut_slash (t d : List UInt8) (h : ∀ x ∈ t, x ≠ 47) : Lib.cut (t ++ 47 :: d) [47] = (t, d, true) := by
 unfold Lib.cut
 rw [idx_slash t d h, if_pos (by omega), Int.toNat_natCast, List.take_left]
 simp [List.drop_append]
theorem Cut_f (t d : List UInt8) (ht : t.length ≤ 900) (hd : d.length ≤ 900) (h : ∀ x ∈ t, x ≠ 47) : strings_Cut.f (B (t ++ 47 :: d)) (⟨#[47]⟩ : ByteArray) = some (B t, B d, true) := by
 unfold strings_Cut.f
 rw [if_pos (by rw [size_B, List.length_append, List.length_cons]; omega)]
 unfold cutOf
 rw [show (B (t ++ 47 :: d)).data.toList = t ++ 47 :: d from rfl, show (⟨#[47]⟩ : ByteArray).data.toList = [47] from rfl, cut_slash t d h]
 rfl
theorem net_dig : ∀ n : Fin 129, strconv_Itoa.f (n.val : Int) = some (B (Lib.itoa (n.val : Int))) ∧ strconv_Atoi.f (B (Lib.itoa (n.val : Int))) = some ((n.val : Int), none) ∧ lanternref06_Digits.f 20 (n.val : Int) = some (B (Lib.itoa (n.val : Int))) ∧ (Lib.itoa (n.val : Int)).length ≤ 10 := by decide +kernel
theorem join_slash (t d : List UInt8) : (B t ++ (⟨#[47]⟩ : ByteArray)) ++ B d = B (t ++ 47 :: d) := by
 rw [show (⟨#[47]⟩ : ByteArray) = B [47] from rfl, append_B, append_B, List.append_assoc]
 rfl
theorem prints_no (b : Bool) (m1 m2 m3 m4 m5 m6 m7 m8 m9 m10 m11 m12 m13 m14 m15 m16 : Nat) (n : Int) (hx : byteL [(m1 : Int), (m2 : Int), (m3 : Int), (m4 : Int), (m5 : Int), (m6 : Int), (m7 : Int), (m8 : Int), (m9 : Int), (m10 : Int), (m11 : Int), (m12 : Int), (m13 : Int), (m14 : Int), (m15 : Int), (m16 : Int)]) (h : netB b [(m1 : Int), (m2 : Int), (m3 : Int), (m4 : Int), (m5 : Int), (m6 : Int), (m7 : Int), (m8 : Int), (m9 : Int), (m10 : Int), (m11 : Int), (m12 : Int), (m13 : Int), (m14 : Int), (m15 : Int), (m16 : Int)] n = false) : lanternlaw06_CidrPrints.f 6000000 b (m1 : Int) (m2 : Int) (m3 : Int) (m4 : Int) (m5 : Int) (m6 : Int) (m7 : Int) (m8 : Int) (m9 : Int) (m10 : Int) (m11 : Int) (m12 : Int) (m13 : Int) (m14 : Int) (m15 : Int) (m16 : Int) n = some true := by
 have hC := netCheck_f b (m1 : Int) (m2 : Int) (m3 : Int) (m4 : Int) (m5 : Int) (m6 : Int) (m7 : Int) (m8 : Int) (m9 : Int) (m10 : Int) (m11 : Int) (m12 : Int) (m13 : Int) (m14 : Int) (m15 : Int) (m16 : Int) n hx
 rw [h, if_neg (by decide)] at hC
 have hM := refMay_f 6000000 (by decide) b (m1 : Int) (m2 : Int) (m3 : Int) (m4 : Int) (m5 : Int) (m6 : Int) (m7 : Int) (m8 : Int) (m9 : Int) (m10 : Int) (m11 : Int) (m12 : Int) (m13 : Int) (m14 : Int) (m15 : Int) (m16 : Int) n hx
 rw [h] at hM
 have hP : cidr_Print.f 6000000 b (m1 : Int) (m2 : Int) (m3 : Int) (m4 : Int) (m5 : Int) (m6 : Int) (m7 : Int) (m8 : Int) (m9 : Int) (m10 : Int) (m11 : Int) (m12 : Int) (m13 : Int) (m14 : Int) (m15 : Int) (m16 : Int) n = some ((⟨#[]⟩ : ByteArray), 1) := by rw [cidr_Print.f, hC, Option.bind_some, if_neg (by decide)]
 rw [lanternlaw06_CidrPrints.f, hP, Option.bind_some, hM, Option.bind_some, if_neg (by decide), hC, Option.bind_some, if_pos rfl, if_pos rfl, if_pos (show (⟨#[]⟩ : ByteArray).toList = [] from by rw [toList_L]), awake_f _ (by decide), Option.bind_some]
theorem prints_yes (b : Bool) (m1 m2 m3 m4 m5 m6 m7 m8 m9 m10 m11 m12 m13 m14 m15 m16 n : Nat) (h1 : m1 < 256) (h2 : m2 < 256) (h3 : m3 < 256) (h4 : m4 < 256) (h5 : m5 < 256) (h6 : m6 < 256) (h7 : m7 < 256) (h8 : m8 < 256) (h9 : m9 < 256) (h10 : m10 < 256) (h11 : m11 < 256) (h12 : m12 < 256) (h13 : m13 < 256) (h14 : m14 < 256) (h15 : m15 < 256) (h16 : m16 < 256) (hx : byteL [(m1 : Int), (m2 : Int), (m3 : Int), (m4 : Int), (m5 : Int), (m6 : Int), (m7 : Int), (m8 : Int), (m9 : Int), (m10 : Int), (m11 : Int), (m12 : Int), (m13 : Int), (m14 : Int), (m15 : Int), (m16 : Int)]) (h : netB b [(m1 : Int), (m2 : Int), (m3 : Int), (m4 : Int), (m5 : Int), (m6 : Int), (m7 : Int), (m8 : Int), (m9 : Int), (m10 : Int), (m11 : Int), (m12 : Int), (m13 : Int), (m14 : Int), (m15 : Int), (m16 : Int)] (n : Int) = true) : lanternlaw06_CidrPrints.f 6000000 b (m1 : Int) (m2 : Int) (m3 : Int) (m4 : Int) (m5 : Int) (m6 : Int) (m7 : Int) (m8 : Int) (m9 : Int) (m10 : Int) (m11 : Int) (m12 : Int) (m13 : Int) (m14 : Int) (m15 : Int) (m16 : Int) (n : Int) = some true := by
 have hC := netCheck_f b (m1 : Int) (m2 : Int) (m3 : Int) (m4 : Int) (m5 : Int) (m6 : Int) (m7 : Int) (m8 : Int) (m9 : Int) (m10 : Int) (m11 : Int) (m12 : Int) (m13 : Int) (m14 : Int) (m15 : Int) (m16 : Int) (n : Int) hx
 rw [h, if_pos rfl] at hC
 have hM := refMay_f 6000000 (by decide) b (m1 : Int) (m2 : Int) (m3 : Int) (m4 : Int) (m5 : Int) (m6 : Int) (m7 : Int) (m8 : Int) (m9 : Int) (m10 : Int) (m11 : Int) (m12 : Int) (m13 : Int) (m14 : Int) (m15 : Int) (m16 : Int) (n : Int) hx
 rw [h] at hM
 obtain ⟨hmay, _, hn, _⟩ := netB_range h
 have hb := bt_le b
 have hn2 : n < 129 := by omega
 obtain ⟨d1, d2, d3, d4⟩ := net_dig ⟨n, hn2⟩
 dsimp only at d1 d2 d3 d4
 have d3' := up_to (fun k => lanternref06_Digits.mono (n : Int) k) d3 6000000 (by decide)
 generalize Lib.itoa (n : Int) = d at d1 d2 d3 d4 d3'
 obtain ⟨t, ht, hs, hP, hR, hv⟩ := says b m1 m2 m3 m4 m5 m6 m7 m8 m9 m10 m11 m12 m13 m14 m15 m16 h1 h2 h3 h4 h5 h6 h7 h8 h9 h10 h11 h12 h13 h14 h15 h16 hmay
 have hCP : cidr_Print.f 6000000 b (m1 : Int) (m2 : Int) (m3 : Int) (m4 : Int) (m5 : Int) (m6 : Int) (m7 : Int) (m8 : Int) (m9 : Int) (m10 : Int) (m11 : Int) (m12 : Int) (m13 : Int) (m14 : Int) (m15 : Int) (m16 : Int) (n : Int) = some (B (t ++ 47 :: d), 0) := by
  rw [cidr_Print.f, hC, Option.bind_some, if_pos rfl, hP, Option.bind_some, if_pos (by rw [size_B]; omega), d1, Option.bind_some, if_pos (by rw [show (⟨#[47]⟩ : ByteArray) = B [47] from rfl, append_B, size_B, size_B, List.length_append]; simp only [List.length_cons, List.length_nil]; omega), join_slash]
 have hRP : lanternref06_Print.f 6000000 b (m1 : Int) (m2 : Int) (m3 : Int) (m4 : Int) (m5 : Int) (m6 : Int) (m7 : Int) (m8 : Int) (m9 : Int) (m10 : Int) (m11 : Int) (m12 : Int) (m13 : Int) (m14 : Int) (m15 : Int) (m16 : Int) (n : Int) = some (B (t ++ 47 :: d)) := by
  rw [lanternref06_Print.f, hR, Option.bind_some, if_pos (by rw [size_B]; omega), d3', Option.bind_some, if_pos (by rw [show (⟨#[47]⟩ : ByteArray) = B [47] from rfl, append_B, size_B, size_B, List.length_append]; simp only [List.length_cons, List.length_nil]; omega), join_slash]
 have hPP : cidr_Parse.f 6000000 (B (t ++ 47 :: d)) = some (b, (m1 : Int), (m2 : Int), (m3 : Int), (m4 : Int), (m5 : Int), (m6 : Int), (m7 : Int), (m8 : Int), (m9 : Int), (m10 : Int), (m11 : Int), (m12 : Int), (m13 : Int), (m14 : Int), (m15 : Int), (m16 : Int), (n : Int), 0) := by
  rw [cidr_Parse.f, Cut_f t d ht (by omega) hs, Option.bind_some, Parse_f t (by omega) 6000000 (by decide), hv, Option.bind_some, d2, Option.bind_some]
  dsimp only [parseR, T18]
  rw [if_pos rfl]
  refine (if_pos rfl).trans ?_
  refine (if_pos rfl).trans ?_
  rw [d1, Option.bind_some]
  refine (if_pos rfl).trans ?_
  rw [hC, Option.bind_some]
  exact if_pos rfl
 rw [lanternlaw06_CidrPrints.f, hCP, Option.bind_some, hM, Option.bind_some, if_pos rfl, hPP, Option.bind_some, hC, Option.bind_some, if_pos rfl, if_pos rfl, hRP, Option.bind_some, if_pos rfl, if_pos rfl, if_pos (by simp only [beq_self_eq_true, Bool.and_self]), awake_f _ (by decide), Option.bind_some]
theorem wf_byte {x : Int} (h : (Lit.int .u8 x).wf = true) : ∃ n : Nat, x = (n : Int) ∧ n < 256 := by
 simp [Lit.wf, IntKind.min, IntKind.max, IntKind.signed, IntKind.bits] at h
 exact ⟨x.toNat, by omega, by omega⟩
theorem CidrPrints_wf (b : Bool) (x1 x2 x3 x4 x5 x6 x7 x8 x9 x10 x11 x12 x13 x14 x15 x16 n : Int) (w1 : (Lit.int .u8 x1).wf = true) (w2 : (Lit.int .u8 x2).wf = true) (w3 : (Lit.int .u8 x3).wf = true) (w4 : (Lit.int .u8 x4).wf = true) (w5 : (Lit.int .u8 x5).wf = true) (w6 : (Lit.int .u8 x6).wf = true) (w7 : (Lit.int .u8 x7).wf = true) (w8 : (Lit.int .u8 x8).wf = true) (w9 : (Lit.int .u8 x9).wf = true) (w10 : (Lit.int .u8 x10).wf = true) (w11 : (Lit.int .u8 x11).wf = true) (w12 : (Lit.int .u8 x12).wf = true) (w13 : (Lit.int .u8 x13).wf = true) (w14 : (Lit.int .u8 x14).wf = true) (w15 : (Lit.int .u8 x15).wf = true) (w16 : (Lit.int .u8 x16).wf = true) (wn : (Lit.int .i64 n).wf = true) : ∃ k, lanternlaw06_CidrPrints.f k b x1 x2 x3 x4 x5 x6 x7 x8 x9 x10 x11 x12 x13 x14 x15 x16 n = some true := by
 refine ⟨6000000, ?_⟩
 obtain ⟨m1, rfl, h1⟩ := wf_byte w1
 obtain ⟨m2, rfl, h2⟩ := wf_byte w2
 obtain ⟨m3, rfl, h3⟩ := wf_byte w3
 obtain ⟨m4, rfl, h4⟩ := wf_byte w4
 obtain ⟨m5, rfl, h5⟩ := wf_byte w5
 obtain ⟨m6, rfl, h6⟩ := wf_byte w6
 obtain ⟨m7, rfl, h7⟩ := wf_byte w7
 obtain ⟨m8, rfl, h8⟩ := wf_byte w8
 obtain ⟨m9, rfl, h9⟩ := wf_byte w9
 obtain ⟨m10, rfl, h10⟩ := wf_byte w10
 obtain ⟨m11, rfl, h11⟩ := wf_byte w11
 obtain ⟨m12, rfl, h12⟩ := wf_byte w12
 obtain ⟨m13, rfl, h13⟩ := wf_byte w13
 obtain ⟨m14, rfl, h14⟩ := wf_byte w14
 obtain ⟨m15, rfl, h15⟩ := wf_byte w15
 obtain ⟨m16, rfl, h16⟩ := wf_byte w16
 have hx : byteL [(m1 : Int), (m2 : Int), (m3 : Int), (m4 : Int), (m5 : Int), (m6 : Int), (m7 : Int), (m8 : Int), (m9 : Int), (m10 : Int), (m11 : Int), (m12 : Int), (m13 : Int), (m14 : Int), (m15 : Int), (m16 : Int)] := by
  refine ⟨rfl, fun x hx => ?_⟩
  simp only [List.mem_cons, List.not_mem_nil, or_false] at hx
  rcases hx with rfl | rfl | rfl | rfl | rfl | rfl | rfl | rfl | rfl | rfl | rfl | rfl | rfl | rfl | rfl | rfl <;> (constructor <;> omega)
 cases h : netB b [(m1 : Int), (m2 : Int), (m3 : Int), (m4 : Int), (m5 : Int), (m6 : Int), (m7 : Int), (m8 : Int), (m9 : Int), (m10 : Int), (m11 : Int), (m12 : Int), (m13 : Int), (m14 : Int), (m15 : Int), (m16 : Int)] n with
 | false => exact prints_no b m1 m2 m3 m4 m5 m6 m7 m8 m9 m10 m11 m12 m13 m14 m15 m16 n hx h
 | true =>
  obtain ⟨_, hn0, _, _⟩ := netB_range h
  obtain ⟨q, rfl⟩ := Int.eq_ofNat_of_zero_le hn0
  exact prints_yes b m1 m2 m3 m4 m5 m6 m7 m8 m9 m10 m11 m12 m13 m14 m15 m16 q h1 h2 h3 h4 h5 h6 h7 h8 h9 h10 h11 h12 h13 h14 h15 h16 hx h
end Go.Proofs.YtdopafhppaalfaaGreatDoor.Q
