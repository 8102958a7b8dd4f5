/- strconv.FormatInt at base 16, by hand. -/
import Derived.Test.YtdopafhppaalfaaGreatDoorE
import Derived.LoopTactic
import Derived.Deep.QuietTactic
import Derived.Lib.ItoaMem
set_option linter.unusedVariables false
set_option linter.unusedSimpArgs false
namespace Go.Proofs.YtdopafhppaalfaaGreatDoor.E
open Go Go.RowKit Go.Shelf Go.Lib Go.Proofs.YtdopafhppaalfaaGreatDoorW.PrintWords Go.Proofs.YtdopafhppaalfaaGreatDoorW.PrintLast Go.Proofs.YtdopafhppaalfaaGreatDoorW.PrintMore

theorem tz64_16 (w : World) (hc : w.cell? ⟨5, 15, none⟩ = some (.int .u8 4)) :
    Calls Tryz.prog 103 #[.int .u64 16] w fun e w' => e = .returned (.int .i64 4) ∧ w' = w := by
  have key : IntKind.u64.wrap (Go.bits BinOp.and IntKind.u64 16 (IntKind.u64.wrap (-16)) * 285870213051353865) / 288230376151711744 = 15 := by decide +kernel
  go_enter Tryz.func103, Tryz.ntmps103
  go_wp2_with (simp only [key])
  go_ret
  exact ⟨rfl, rfl⟩
theorem tz_16 (w : World) (hc : w.cell? ⟨5, 15, none⟩ = some (.int .u8 4)) :
    Calls Tryz.prog 92 #[.int .u64 16] w fun e w' => e = .returned (.int .i64 4) ∧ w' = w := by
  have HC := Aside0.mk hc
  clear hc
  go_enter Tryz.func92, Tryz.ntmps92
  go_wp2_with (go_at_call 103; refine (tz64_16 _ HC.out).mono ?_; rintro e w1 ⟨rfl, rfl⟩)
  go_ret
  exact ⟨rfl, rfl⟩
theorem pow2_16 (w : World) :
    Calls Tryz.prog 91 #[.int .i64 16] w fun e w' => e = .returned (.bool true) ∧ w' = w := by
  have key : Go.bits BinOp.and IntKind.i64 16 15 = 0 := by decide +kernel
  go_enter Tryz.func91, Tryz.ntmps91
  go_wp2_with (simp only [key])
  go_ret
  exact ⟨rfl, rfl⟩

def hexS : ByteArray := ⟨#[48, 49, 50, 51, 52, 53, 54, 55, 56, 57, 97, 98, 99, 100, 101, 102, 103, 104, 105, 106, 107, 108, 109, 110, 111, 112, 113, 114, 115, 116, 117, 118, 119, 120, 121, 122]⟩
/-- The array's memory behind so many digits. -/
def digW (w : World) (b n : Nat) : Nat → World
  | 0 => w
  | j + 1 => (digW w b n j).setCell ⟨b, 64 - j, none⟩ (.int .u8 (bt hexS ((n / 16 ^ j % 16 : Nat) : Int)))
theorem zeros65 : Tryz.zeroCells127 = Array.replicate 65 (.int .u8 0) := by kernel_rfl
theorem dig_size (w : World) (b n : Nat) : ∀ j, (digW w b n j).heap.size = w.heap.size
  | 0 => rfl
  | j + 1 => by rw [digW, World.setCell]; simp [dig_size w b n j]
theorem dig_frozen (w : World) (b n : Nat) (x : Addr) : ∀ j, (digW w b n j).frozen? x = w.frozen? x
  | 0 => rfl
  | j + 1 => by rw [digW, World.frozen?_setCell, dig_frozen w b n x j]
theorem dig_cell (w : World) (n : Nat) : ∀ j, j ≤ 65 → ∀ i, i < 65 → (digW (w.alloc (.cells Tryz.zeroCells127 127)) w.heap.size n j).cell? ⟨w.heap.size, i, none⟩ = some (if 65 ≤ i + j then .int .u8 (bt hexS ((n / 16 ^ (64 - i) % 16 : Nat) : Int)) else .int .u8 0)
  | 0, hj, i, hi => by
    rw [digW, World.cell?_alloc_new, if_neg (by omega), zeros65]
    simp [hi]
  | j + 1, hj, i, hi => by
    rw [digW]
    by_cases h : i = 64 - j
    · subst h
      rw [World.cell?_setCell_same _ _ _ (dig_cell w n j (by omega) (64 - j) (by omega)), if_pos (by omega), show 64 - (64 - j) = j from by omega]
    · rw [World.cell?_setCell_other _ _ _ _ (by simp [h]), dig_cell w n j (by omega) i hi]
      by_cases h2 : 65 ≤ i + j
      · rw [if_pos h2, if_pos (by omega)]
      · rw [if_neg h2, if_neg (by omega)]
theorem dig_below (w : World) (n : Nat) : ∀ j, Below w.heap.size w (digW (w.alloc (.cells Tryz.zeroCells127 127)) w.heap.size n j)
  | 0 => below_alloc (Below.refl _ _) _
  | j + 1 => (dig_below w n j).setCell (p := ⟨w.heap.size, 64 - j, none⟩) (Nat.le_refl _) _
theorem and15 (x : Nat) (hx : x < 65536) : Go.bits .and .u64 (x : Int) 15 = ((x % 16 : Nat) : Int) := by
  have := bits_and_u64_nat x 15 (by omega) (by omega)
  rw [show ((15 : Nat) : Int) = 15 from rfl] at this
  rw [this, show (15 : Nat) = 2 ^ 4 - 1 from rfl, Nat.and_two_pow_sub_one_eq_mod]
theorem bt_hex : ∀ d : Fin 16, 0 ≤ bt hexS ((d.val : Nat) : Int) ∧ bt hexS ((d.val : Nat) : Int) < 256 := by decide +kernel
/-- A number's digits in hexadecimal. -/
def hexB (n : Nat) (j : Nat) : List UInt8 := ((List.range (j + 1)).map fun i => UInt8.ofNat (bt hexS ((n / 16 ^ (j - i) % 16 : Nat) : Int)).toNat)
def hexJ (n : Nat) : Nat := if n < 16 then 0 else if n < 256 then 1 else if n < 4096 then 2 else 3
def hexN (n : Nat) : List UInt8 := hexB n (hexJ n)
theorem hexJ_of (n j : Nat) (hn : n < 65536) (hj : j ≤ 4) (h1 : j = 0 ∨ 16 ≤ n / 16 ^ (j - 1)) (h2 : n / 16 ^ j < 16) : hexJ n = j := by
  have p0 : 16 ^ 0 = 1 := rfl
  have p1 : 16 ^ 1 = 16 := rfl
  have p2 : 16 ^ 2 = 256 := rfl
  have p3 : 16 ^ 3 = 4096 := rfl
  have p4 : 16 ^ 4 = 65536 := rfl
  unfold hexJ
  obtain rfl | rfl | rfl | rfl | rfl : j = 0 ∨ j = 1 ∨ j = 2 ∨ j = 3 ∨ j = 4 := by omega
  all_goals (simp only [Nat.reduceSub, p0, p1, p2, p3, p4] at h1 h2; (repeat' split) <;> omega)
theorem hexB_length (n j : Nat) : (hexB n j).length = j + 1 := by simp [hexB]
theorem hexB_at (n j t : Nat) (ht : t < (hexB n j).length) : (((hexB n j)[t]).toNat : Int) = bt hexS ((n / 16 ^ (j - t) % 16 : Nat) : Int) := by
  have hl := hexB_length n j
  obtain ⟨h0, h1⟩ := bt_hex ⟨n / 16 ^ (j - t) % 16, Nat.mod_lt _ (by decide)⟩
  simp only [hexB, List.getElem_map, List.getElem_range, UInt8.toNat_ofNat']
  dsimp only at h0 h1
  omega
theorem cv_hex (w : World) (n j : Nat) (hj : j ≤ 4) :
    (convert 60 9 (.slice (some ⟨w.heap.size, 64 - j, none⟩) (j + 1) (j + 1))).run Tryz.prog (digW (w.alloc (.cells Tryz.zeroCells127 127)) w.heap.size n (j + 1)) = .ok (.string ⟨(hexB n j).toArray⟩) (digW (w.alloc (.cells Tryz.zeroCells127 127)) w.heap.size n (j + 1)) := by
  have h := run_convert_bytes_back (P := Tryz.prog) (digW (w.alloc (.cells Tryz.zeroCells127 127)) w.heap.size n (j + 1)) 60 9 5 ⟨w.heap.size, 64 - j, none⟩ (j + 1) (hexB n j) Tryz.underlying60 Tryz.underlying5 Tryz.underlying9 (fun t ht => by
    have hl := hexB_length n j
    rw [hexB_at n j t ht]
    have hc := dig_cell w n (j + 1) (by omega) (64 - j + t) (by omega)
    rw [if_pos (by omega), show 64 - (64 - j + t) = j - t from by omega] at hc
    rw [Lib.add_plain]
    exact hc)
  rw [hexB_length] at h
  exact h
theorem sl_hex (w : World) (j : Nat) (hj : j ≤ 4) (W : World) : (Instr.sliceAt 127 (.pointer (some ⟨w.heap.size, 0, none⟩)) (some (.int .i64 ((64 - j : Nat) : Int))) none none).run Tryz.prog W = .ok (.slice (some ⟨w.heap.size, 64 - j, none⟩) (j + 1) (j + 1)) W := by
  have hal : Tryz.prog.arrayLen 127 = 65 := by simp [Program.arrayLen, Tryz.underlying127]
  rw [run_sliceAt_array_l W 127 ⟨w.heap.size, 0, none⟩ (by simp [Program.arrayLen, Program.elem, Tryz.underlying127]) .i64 ((64 - j : Nat) : Int) (by omega) (by rw [hal]; omega), hal]
  go_simp
  omega
set_option maxHeartbeats 4000000 in
set_option maxRecDepth 100000 in
theorem formatBits_16 (n : Nat) (hn : n < 65536) (w : World) (hc : w.cell? ⟨5, 15, none⟩ = some (.int .u8 4)) :
    Calls Tryz.prog 74 #[.slice none 0 0, .int .u64 n, .int .i64 16, .bool false, .bool false] w fun e w' => e = .returned (.tuple #[.slice none 0 0, .string ⟨(hexN n).toArray⟩]) ∧ Below w.heap.size w w' := by
  have HC := Aside0.mk hc
  clear hc
  go_enter Tryz.func74, Tryz.ntmps74
  go_wp2_with (first | (go_at_call 91; refine (pow2_16 _).mono ?_; rintro e w1 ⟨rfl, rfl⟩) | (go_at_call 92; refine (tz_16 _ (((below_alloc (Below.refl _ _) _).cell (World.block_lt_of_cell? w _ HC.out)).trans HC.out)).mono ?_; rintro e w1 ⟨rfl, rfl⟩))
  go_loopg [1, 13] 5 (fun kq v1 v13 w' => ∃ (j : Nat), v1 = .int .u64 ((n / 16 ^ j : Nat) : Int) ∧ v13 = .int .i64 ((65 - j : Nat) : Int) ∧ Aside0 (j + kq = 5) ∧ Aside0 (j = 0 ∨ 16 ≤ n / 16 ^ (j - 1)) ∧ w' = digW (w.alloc (.cells Tryz.zeroCells127 127)) w.heap.size n j)
  case atStart => exact ⟨0, by simp, by simp, ⟨rfl⟩, ⟨Or.inl rfl⟩, rfl⟩
  case round =>
    obtain ⟨j, rfl, rfl, HJ, HM, rfl⟩ := hrel
    have hj0 := HJ.out
    obtain ⟨k1, rfl⟩ : ∃ m, gk = m + 1 := by
      refine ⟨gk - 1, ?_⟩
      rcases Nat.eq_zero_or_pos gk with h | h
      · exfalso
        have h5 : j = 5 := by omega
        subst h5
        rcases HM.out with h6 | h6
        · cases h6
        · have p4 : 16 ^ (5 - 1) = 65536 := rfl
          rw [p4] at h6
          omega
      · omega
    have hx : n / 16 ^ j < 65536 := Nat.lt_of_le_of_lt (Nat.div_le_self _ _) hn
    have hW1 : (65 - j : Nat) = 64 - j + 1 := by omega
    have w1 : wrap64 (((65 - j : Nat) : Int) - 1) = ((64 - j : Nat) : Int) := by unfold wrap64; omega
    have b1 : (0 : Int) ≤ ((64 - j : Nat) : Int) := by omega
    have b2 : ((64 - j : Nat) : Int) < 65 := by omega
    have hcell := dig_cell w n j (by omega) (64 - j) (by omega)
    rw [if_neg (by omega)] at hcell
    have hfr : (digW (w.alloc (.cells Tryz.zeroCells127 127)) w.heap.size n j).frozen? ⟨w.heap.size, 64 - j, none⟩ = false := by
      rw [dig_frozen]; exact World.frozen?_alloc_new _ _ _ _
    by_cases hlt : 16 ≤ n / 16 ^ j
    · have c1 : decide (((n / 16 ^ j : Nat) : Int) ≥ 16) = true := decide_eq_true (by omega)
      have a1 := and15 (n / 16 ^ j) hx
      have hdm : n / 16 ^ j % 16 < 16 := Nat.mod_lt _ (by decide)
      have s0 : n / 16 ^ (j + 1) = n / 16 ^ j / 16 := by rw [Nat.div_div_eq_div_mul, ← Nat.pow_succ]
      have hdig : digW (w.alloc (.cells Tryz.zeroCells127 127)) w.heap.size n (j + 1) = (digW (w.alloc (.cells Tryz.zeroCells127 127)) w.heap.size n j).setCell ⟨w.heap.size, 64 - j, none⟩ (.int .u8 (bt hexS ((n / 16 ^ j % 16 : Nat) : Int))) := rfl
      generalize hu : n / 16 ^ j = u at *
      have s1 : (u : Int) / 2 ^ (4 : Int).toNat = ((u / 16 : Nat) : Int) := by
        rw [show ((2 : Int) ^ (4 : Int).toNat) = ((16 : Nat) : Int) from rfl, ← Int.natCast_ediv]
      generalize hd : u % 16 = d at *
      have d1 : (0 : Int) ≤ (d : Int) := by omega
      have d2 : (d : Int) < 36 := by omega
      have d3 : ¬ (36 ≤ d) := by omega
      have d4 : ¬ (65 ≤ 64 - j) := by omega
      have hb : bt hexS (d : Int) = ((hexS[d]'(by show d < 36; omega)).toNat : Int) := by
        unfold bt
        rw [dif_pos (by show (d : Int).toNat < 36; omega)]
        rfl
      rw [hb] at hdig
      have HDIG := Aside0.mk hdig
      have HS0 := Aside0.mk s0
      clear hb hdig s0
      go_wp2
      go_roundg k1
      case rel => exact ⟨j + 1, congrArg (Value.int .u64) (by rw [HS0.out]; omega), congrArg (Value.int .i64) (by omega), ⟨by omega⟩, ⟨Or.inr (by rw [Nat.add_sub_cancel]; omega)⟩, HDIG.out.symm⟩
      case measure => omega
    · have c1 : decide (((n / 16 ^ j : Nat) : Int) ≥ 16) = false := decide_eq_false (by omega)
      have hJ := hexJ_of n j hn (by omega) HM.out (by omega)
      have hdig : digW (w.alloc (.cells Tryz.zeroCells127 127)) w.heap.size n (j + 1) = (digW (w.alloc (.cells Tryz.zeroCells127 127)) w.heap.size n j).setCell ⟨w.heap.size, 64 - j, none⟩ (.int .u8 (bt hexS ((n / 16 ^ j % 16 : Nat) : Int))) := rfl
      rw [Nat.mod_eq_of_lt (by omega)] at hdig
      have HBE := dig_below w n (j + 1)
      generalize hu : n / 16 ^ j = u at *
      have d1 : (0 : Int) ≤ (u : Int) := by omega
      have d2 : (u : Int) < 36 := by omega
      have d3 : ¬ (36 ≤ u) := by omega
      have d4 : ¬ (65 ≤ 64 - j) := by omega
      have hb : bt hexS (u : Int) = ((hexS[u]'(by show u < 36; omega)).toNat : Int) := by
        unfold bt
        rw [dif_pos (by show (u : Int).toNat < 36; omega)]
        rfl
      rw [hb] at hdig
      have hsl := sl_hex w j (by omega)
      have HCV := Aside0.mk (show ∀ W, (hW : W = digW (w.alloc (.cells Tryz.zeroCells127 127)) w.heap.size n (j + 1)) → (convert 60 9 (.slice (some ⟨w.heap.size, 64 - j, none⟩) (j + 1) (j + 1))).run Tryz.prog W = .ok (.string ⟨(hexB n j).toArray⟩) W from fun W hW => by rw [hW]; exact cv_hex w n j (by omega))
      have HD := Aside0.mk hdig
      rw [hdig] at HBE
      have HB := Aside0.mk HBE
      have HJJ := Aside0.mk hJ
      clear HBE hJ hb hdig
      go_wp2
      rw [HCV.out]
      case hW => exact HD.out.symm
      go_wp2
      go_ret2
      refine ⟨?_, HB.out⟩
      show Ending.returned (.tuple #[.slice none 0 0, .string ⟨(hexB n j).toArray⟩]) = _
      unfold hexN
      rw [HJJ.out]
/-- internal/strconv.FormatInt, then strconv.FormatInt, at base 16. -/
theorem formatIntI_16 (n : Nat) (hn : n < 65536) (w : World) (hc : w.cell? ⟨5, 15, none⟩ = some (.int .u8 4)) :
    Calls Tryz.prog 54 #[.int .i64 n, .int .i64 16] w fun e w' => e = .returned (.string ⟨(hexN n).toArray⟩) ∧ Below w.heap.size w w' := by
  have HC := Aside0.mk hc
  clear hc
  have wu : IntKind.u64.wrap ((n : Nat) : Int) = (n : Int) := by rw [IntKind.wrap_u64]; omega
  have c1 : ¬ ((n : Int) < 0) := by omega
  go_enter Tryz.func54, Tryz.ntmps54
  go_wp2_with (go_at_call 74; refine (formatBits_16 n hn _ HC.out).mono ?_; rintro e w1 ⟨rfl, hb1⟩)
  go_ret
  exact ⟨rfl, hb1⟩
def strconv_FormatInt.f (n b : Int) : Option ByteArray := if b = 16 ∧ 0 ≤ n ∧ n < 65536 then some ⟨(hexN n.toNat).toArray⟩ else none
theorem strconv_FormatInt.calls (n b : Int) (r : ByteArray) (w : World) (hLW : LW w) (h : strconv_FormatInt.f n b = some r) :
    Calls Tryz.prog 53 #[.int .i64 n, .int .i64 b] w fun e w' => e = .returned (.string r) ∧ Below w.heap.size w w' := by
  unfold strconv_FormatInt.f at h
  split at h
  · rename_i hc
    obtain ⟨rfl, h0, h1⟩ := hc
    obtain ⟨n, rfl⟩ : ∃ m : Nat, n = m := ⟨n.toNat, by omega⟩
    simp only [Option.some.injEq, Int.toNat_natCast] at h
    subst h
    have hn : n < 65536 := by omega
    have HLW := Aside0.mk hLW
    clear hLW h0 h1
    go_enter Tryz.func53, Tryz.ntmps53
    go_wp2_with (go_at_call 54; refine (formatIntI_16 n hn _ HLW.out.bits).mono ?_; rintro e w1 ⟨rfl, hb1⟩)
    go_ret
    exact ⟨rfl, hb1⟩
  · cases h
end Go.Proofs.YtdopafhppaalfaaGreatDoor.E
