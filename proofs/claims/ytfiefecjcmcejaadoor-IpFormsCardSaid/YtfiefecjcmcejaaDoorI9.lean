/- The law IpForms, plainly. -/
import Derived.Test.YtfiefecjcmcejaaDoorI8
import Derived.Test.YtfiefecjcmcejaaDoorI7
import Derived.Test.YtfiefecjcmcejaaDoorP15
set_option linter.unusedSimpArgs false
set_option linter.unusedVariables false
set_option maxRecDepth 10000
namespace Go.Proofs.YtfiefecjcmcejaaDoor.Q
open Go Go.RowKit Go.Lib Go.Proofs.YtfiefecjcmcejaaDoorW.PrintWords Go.Proofs.YtfiefecjcmcejaaDoorW.PrintMore Go.Proofs.YtfiefecjcmcejaaDoorB Go.Proofs.YtfiefecjcmcejaaDoor.E Go.Proofs.YtfiefecjcmcejaaDoorV Go.Proofs.YtfiefecjcmcejaaDoor.P

def dot (i : Nat) : List UInt8 := if 0 < i then [46] else []
def pw (i : Nat) : Nat := 2 ^ (24 - 8 * i)
theorem sh_e1 (i : Nat) (h : i < 3) : IntKind.u64.wrap (wrap64 (24 - (wrap64 (8 * (i : Int))))) = ((24 - 8 * i : Nat) : Int) := by
  have h1 : wrap64 (8 * (i : Int)) = ((8 * i : Nat) : Int) := wrap_nat (8 * i) (by omega) (by omega)
  have h2 : wrap64 (24 - ((8 * i : Nat) : Int)) = ((24 - 8 * i : Nat) : Int) := wrap_nat (24 - 8 * i) (by omega) (by omega)
  rw [h1, h2]; exact u64n _ (by omega)
theorem sh_e2 (i : Nat) (h : i < 3) : shl .u64 1 ((24 - 8 * i : Nat) : Int) = ((pw i : Nat) : Int) := by
  obtain rfl | rfl | rfl : i = 0 ∨ i = 1 ∨ i = 2 := by omega
  all_goals rfl
theorem sh_e3 (n i : Nat) (h : i < 3) : shr .u64 (n : Int) ((24 - 8 * i : Nat) : Int) = ((n / pw i : Nat) : Int) := by
  obtain rfl | rfl | rfl : i = 0 ∨ i = 1 ∨ i = 2 := by omega
  all_goals exact (Int.natCast_ediv n _).symm
theorem pw_pos (i : Nat) : 0 < pw i := Nat.pow_pos (by decide)
def cg (c0 c1 c2 c3 : Nat) (i : Nat) : Nat := [c0, c1, c2, c3].getD i 0
theorem rd_cg (c0 c1 c2 c3 i : Nat) (h : i < 4) : rd [(c0 : Int), (c1 : Int), (c2 : Int), (c3 : Int)] (i : Int) = ((cg c0 c1 c2 c3 i : Nat) : Int) := by
  obtain rfl | rfl | rfl | rfl : i = 0 ∨ i = 1 ∨ i = 2 ∨ i = 3 := by omega
  all_goals rfl
theorem B_46 : (⟨#[46]⟩ : ByteArray) = B [46] := rfl
theorem forms_put (n K c0 c1 c2 c3 : Nat) (s : List UInt8) (v c left i k : Nat) (hv : v < 4294967296) (hi : i < 4) (hs : s.length ≤ 1000) (hk : 40 ≤ k) (hc : c = cg c0 c1 c2 c3 i) :
    (if ((i : Nat) : Int) > 0 then (if (B s).size + 1 ≤ 9223372036854775807 then (if 0 ≤ ((i : Nat) : Int) then (if ((i : Nat) : Int) < 4 then ((lanternlaw05_form.f k (v : Int) (rd [(c0 : Int), (c1 : Int), (c2 : Int), (c3 : Int)] (i : Int))).bind fun t => (if ((B s) ++ (⟨#[46]⟩ : ByteArray)).size + t.size ≤ 9223372036854775807 then (lanternlaw05_IpForms.l0 k (n : Int) (K : Int) (((B s) ++ (⟨#[46]⟩ : ByteArray)) ++ t) (left : Int) (wrap64 ((i : Int) + 1)) (c0 : Int) (c1 : Int) (c2 : Int) (c3 : Int)) else (none))) else (none)) else (none)) else (none)) else (if 0 ≤ ((i : Nat) : Int) then (if ((i : Nat) : Int) < 4 then ((lanternlaw05_form.f k (v : Int) (rd [(c0 : Int), (c1 : Int), (c2 : Int), (c3 : Int)] (i : Int))).bind fun t => (if (B s).size + t.size ≤ 9223372036854775807 then (lanternlaw05_IpForms.l0 k (n : Int) (K : Int) ((B s) ++ t) (left : Int) (wrap64 ((i : Int) + 1)) (c0 : Int) (c1 : Int) (c2 : Int) (c3 : Int)) else (none))) else (none)) else (none)))
    = lanternlaw05_IpForms.l0 k (n : Int) (K : Int) (B (s ++ dot i ++ formL v c)) (left : Int) ((i + 1 : Nat) : Int) (c0 : Int) (c1 : Int) (c2 : Int) (c3 : Int) := by
  have hl := form_len v c hv
  have hf := form_f v hv c k hk
  rw [rd_cg c0 c1 c2 c3 i hi, ← hc, hf, wn1 i (by omega)]
  unfold dot
  by_cases h : 0 < i
  · rw [if_pos (show ((i : Nat) : Int) > 0 by omega), if_pos (by rw [size_B]; omega), if_pos (by omega), if_pos (by omega), Option.bind_some, B_46, append_B, if_pos (by rw [size_B, size_B, List.length_append]; simp; omega), append_B, if_pos h]
  · rw [if_neg (show ¬ ((i : Nat) : Int) > 0 by omega), if_pos (by omega), if_pos (by omega), Option.bind_some, if_pos (by rw [size_B, size_B]; omega), append_B, if_neg h, List.append_nil]
theorem forms_mid (n K c0 c1 c2 c3 : Nat) (s : List UInt8) (left i k : Nat) (hn : n < 4294967296) (hi : i + 1 < K) (hK : K ≤ 4) (hs : s.length ≤ 1000) (hk : 40 ≤ k) :
    lanternlaw05_IpForms.l0 (k + 1) (n : Int) (K : Int) (B s) (left : Int) (i : Int) (c0 : Int) (c1 : Int) (c2 : Int) (c3 : Int)
    = lanternlaw05_IpForms.l0 k (n : Int) (K : Int) (B (s ++ dot i ++ formL (n / pw i % 256) (cg c0 c1 c2 c3 i))) ((left % pw i : Nat) : Int) ((i + 1 : Nat) : Int) (c0 : Int) (c1 : Int) (c2 : Int) (c3 : Int) := by
  have e4 : Int.tmod ((n / pw i : Nat) : Int) 256 = ((n / pw i % 256 : Nat) : Int) := tmn _ 256
  have hp := pw_pos i
  have hb := Nat.mod_lt (n / pw i) (show 0 < 256 by decide)
  rw [lanternlaw05_IpForms.l0, if_pos (by omega), wnsub K (by omega) (by omega), if_pos (by omega), sh_e1 i (by omega), if_pos (by omega), sh_e2 i (by omega), if_neg (by omega), u64n n (by omega), sh_e3 n i (by omega), e4, tmn left (pw i)]
  exact forms_put n K c0 c1 c2 c3 s _ _ _ i k (by omega) (by omega) hs hk rfl
theorem forms_last (n K c0 c1 c2 c3 : Nat) (s : List UInt8) (left i k : Nat) (hl : left < 4294967296) (hi : i + 1 = K) (hK : K ≤ 4) (hs : s.length ≤ 1000) (hk : 40 ≤ k) :
    lanternlaw05_IpForms.l0 (k + 1) (n : Int) (K : Int) (B s) (left : Int) (i : Int) (c0 : Int) (c1 : Int) (c2 : Int) (c3 : Int)
    = lanternlaw05_IpForms.l0 k (n : Int) (K : Int) (B (s ++ dot i ++ formL left (cg c0 c1 c2 c3 i))) (left : Int) (K : Int) (c0 : Int) (c1 : Int) (c2 : Int) (c3 : Int) := by
  rw [lanternlaw05_IpForms.l0, if_pos (by omega), wnsub K (by omega) (by omega), if_neg (by omega)]
  have := forms_put n K c0 c1 c2 c3 s left _ left i k hl (by omega) hs hk rfl
  rw [hi] at this
  exact this
/-- A text that splits into its parts. -/
theorem splitS_word (c : UInt8) : ∀ w : List UInt8, (∀ b ∈ w, b ≠ c) → splitS c w = [w]
  | [], _ => rfl
  | b :: w, h => by rw [splitS, if_neg (h b (by simp)), splitS_word c w fun x hx => h x (by simp [hx])]
theorem splitS_dot (c : UInt8) (t : List UInt8) : ∀ w : List UInt8, (∀ b ∈ w, b ≠ c) → splitS c (w ++ c :: t) = w :: splitS c t
  | [], _ => by rw [List.nil_append, splitS, if_pos rfl]
  | b :: w, h => by rw [List.cons_append, splitS, if_neg (h b (by simp)), splitS_dot c t w fun x hx => h x (by simp [hx])]
theorem bare_form (t : List UInt8) (v c : Nat) : bare (t ++ formL v c) = t ++ formL v c := by
  unfold bare
  rw [if_neg]
  intro h
  have hne := form_ne v c
  rw [List.getLast?_append, List.getLast?_eq_some_getLast hne, Option.some_or] at h
  exact form_dot v c _ (List.getLast_mem hne) (Option.some.inj h)
theorem looseL1 (v c : Nat) (hv : v < 4294967296) : looseL (formL v c) = some v := by
  unfold looseL
  have := bare_form [] v c
  rw [List.nil_append] at this
  rw [this, splitS_word 46 _ (form_dot v c), looseV, form_part, Option.bind_some, if_pos hv]
theorem looseL2 (a c0 b c1 : Nat) (ha : a < 256) (hb : b < 16777216) : looseL (formL a c0 ++ 46 :: formL b c1) = some (a * 16777216 + b) := by
  unfold looseL
  have := bare_form (formL a c0 ++ [46]) b c1
  rw [List.append_assoc] at this
  rw [show formL a c0 ++ 46 :: formL b c1 = formL a c0 ++ ([46] ++ formL b c1) from rfl, this]
  show looseV (splitS 46 (formL a c0 ++ 46 :: formL b c1)) = _
  rw [splitS_dot 46 _ _ (form_dot a c0), splitS_word 46 _ (form_dot b c1), looseV, form_part, form_part, Option.bind_some, Option.bind_some, if_pos ⟨ha, hb⟩]
theorem looseL3 (a c0 b c1 d c2 : Nat) (ha : a < 256) (hb : b < 256) (hd : d < 65536) : looseL (formL a c0 ++ 46 :: (formL b c1 ++ 46 :: formL d c2)) = some (a * 16777216 + b * 65536 + d) := by
  unfold looseL
  have := bare_form (formL a c0 ++ 46 :: (formL b c1 ++ [46])) d c2
  rw [show formL a c0 ++ 46 :: (formL b c1 ++ [46]) ++ formL d c2 = formL a c0 ++ 46 :: (formL b c1 ++ 46 :: formL d c2) from by simp] at this
  rw [this, splitS_dot 46 _ _ (form_dot a c0), splitS_dot 46 _ _ (form_dot b c1), splitS_word 46 _ (form_dot d c2), looseV, form_part, form_part, form_part, Option.bind_some, Option.bind_some, Option.bind_some, if_pos ⟨ha, hb, hd⟩]
theorem looseL4 (a c0 b c1 d c2 e c3 : Nat) (ha : a < 256) (hb : b < 256) (hd : d < 256) (he : e < 256) : looseL (formL a c0 ++ 46 :: (formL b c1 ++ 46 :: (formL d c2 ++ 46 :: formL e c3))) = some (a * 16777216 + b * 65536 + d * 256 + e) := by
  unfold looseL
  have := bare_form (formL a c0 ++ 46 :: (formL b c1 ++ 46 :: (formL d c2 ++ [46]))) e c3
  rw [show formL a c0 ++ 46 :: (formL b c1 ++ 46 :: (formL d c2 ++ [46])) ++ formL e c3 = formL a c0 ++ 46 :: (formL b c1 ++ 46 :: (formL d c2 ++ 46 :: formL e c3)) from by simp] at this
  rw [this, splitS_dot 46 _ _ (form_dot a c0), splitS_dot 46 _ _ (form_dot b c1), splitS_dot 46 _ _ (form_dot d c2), splitS_word 46 _ (form_dot e c3), looseV, form_part, form_part, form_part, form_part, Option.bind_some, Option.bind_some, Option.bind_some, Option.bind_some, if_pos ⟨ha, hb, hd, he⟩]
theorem forms_end (n K c0 c1 c2 c3 : Nat) (s : List UInt8) (left k : Nat) (hn : n < 4294967296) (hs : s.length ≤ 1000) (hk : 2000100 ≤ k) (h : looseL s = some n) :
    lanternlaw05_IpForms.l0 (k + 1) (n : Int) (K : Int) (B s) (left : Int) (K : Int) (c0 : Int) (c1 : Int) (c2 : Int) (c3 : Int) = some true := by
  have haw := awake_f k (by omega)
  rw [lanternlaw05_IpForms.l0, if_neg (by omega), Loose_f s (by omega) k hk, h, Option.bind_some, u64n n (by omega), refV4_f n hn k (by omega), Option.bind_some, haw]
  dsimp only [looseR, T18]
  simp
theorem IpForms_nat (n c0 c1 c2 c3 d : Nat) (hn : n < 4294967296) : ∃ k, lanternlaw05_IpForms.f k (n : Int) (c0 : Int) (c1 : Int) (c2 : Int) (c3 : Int) (d : Int) = some true := by
  refine ⟨3000005, ?_⟩
  have e1 : wrap64 (Int.tmod (d : Int) 4) = ((d % 4 : Nat) : Int) := by rw [show Int.tmod (d : Int) 4 = ((d % 4 : Nat) : Int) from tmn d 4]; exact wrap_nat (d % 4) rfl (by first | omega | (simp only [p0, p1, p2]; omega))
  have e2 : wrap64 (1 + ((d % 4 : Nat) : Int)) = ((1 + d % 4 : Nat) : Int) := wrap_nat (1 + d % 4) (by first | omega | (simp only [p0, p1, p2]; omega)) (by first | omega | (simp only [p0, p1, p2]; omega))
  have hm := Nat.mod_lt d (show 0 < 4 by decide)
  have p0 : pw 0 = 16777216 := rfl
  have p1 : pw 1 = 65536 := rfl
  have p2 : pw 2 = 256 := rfl
  have hlen (v c : Nat) (h : v < 4294967296) := form_len v c h
  rw [lanternlaw05_IpForms.f, e1, e2, u64n n (by first | omega | (simp only [p0, p1, p2]; omega))]
  show lanternlaw05_IpForms.l0 (3000004 + 1) (n : Int) ((1 + d % 4 : Nat) : Int) (B []) (n : Int) ((0 : Nat) : Int) (c0 : Int) (c1 : Int) (c2 : Int) (c3 : Int) = some true
  have h0 := hlen (n / pw 0 % 256) (cg c0 c1 c2 c3 0) (by first | omega | (simp only [p0, p1, p2]; omega))
  have h1 := hlen (n / pw 1 % 256) (cg c0 c1 c2 c3 1) (by first | omega | (simp only [p0, p1, p2]; omega))
  have h2 := hlen (n / pw 2 % 256) (cg c0 c1 c2 c3 2) (by first | omega | (simp only [p0, p1, p2]; omega))
  obtain h | h | h | h : d % 4 = 0 ∨ d % 4 = 1 ∨ d % 4 = 2 ∨ d % 4 = 3 := by omega
  · have g0 := hlen n (cg c0 c1 c2 c3 0) hn
    rw [h, forms_last n (1 + 0) c0 c1 c2 c3 [] n 0 3000004 hn rfl (by decide) (by simp) (by decide)]
    show lanternlaw05_IpForms.l0 (3000003 + 1) (n : Int) ((1 : Nat) : Int) (B (formL n (cg c0 c1 c2 c3 0))) (n : Int) ((1 : Nat) : Int) (c0 : Int) (c1 : Int) (c2 : Int) (c3 : Int) = some true
    exact forms_end n 1 c0 c1 c2 c3 _ n 3000003 hn (by first | omega | (simp only [p0, p1, p2]; omega)) (by decide) (looseL1 n _ hn)
  · have g0 := hlen (n % pw 0) (cg c0 c1 c2 c3 1) (by first | omega | (simp only [p0, p1, p2]; omega))
    rw [h, forms_mid n (1 + 1) c0 c1 c2 c3 [] n 0 3000004 hn (by decide) (by decide) (by simp) (by decide)]
    show lanternlaw05_IpForms.l0 (3000003 + 1) (n : Int) ((1 + 1 : Nat) : Int) (B (formL (n / pw 0 % 256) (cg c0 c1 c2 c3 0))) ((n % pw 0 : Nat) : Int) ((1 : Nat) : Int) (c0 : Int) (c1 : Int) (c2 : Int) (c3 : Int) = some true
    rw [forms_last n (1 + 1) c0 c1 c2 c3 _ _ 1 3000003 (by first | omega | (simp only [p0, p1, p2]; omega)) rfl (by decide) (by first | omega | (simp only [p0, p1, p2]; omega)) (by decide)]
    refine forms_end n 2 c0 c1 c2 c3 _ _ 3000002 hn ?_ (by decide) ?_
    · simp only [dot, List.length_append]; simp; omega
    · rw [show formL (n / pw 0 % 256) (cg c0 c1 c2 c3 0) ++ dot 1 ++ formL (n % pw 0) (cg c0 c1 c2 c3 1) = formL (n / pw 0 % 256) (cg c0 c1 c2 c3 0) ++ 46 :: formL (n % pw 0) (cg c0 c1 c2 c3 1) from by simp [dot], looseL2 _ _ _ _ (by first | omega | (simp only [p0, p1, p2]; omega)) (by first | omega | (simp only [p0, p1, p2]; omega))]
      simp only [p0, p1, p2]; congr 1; omega
  · have g0 := hlen (n % pw 0 % pw 1) (cg c0 c1 c2 c3 2) (by first | omega | (simp only [p0, p1, p2]; omega))
    rw [h, forms_mid n (1 + 2) c0 c1 c2 c3 [] n 0 3000004 hn (by decide) (by decide) (by simp) (by decide)]
    show lanternlaw05_IpForms.l0 (3000003 + 1) (n : Int) ((1 + 2 : Nat) : Int) (B (formL (n / pw 0 % 256) (cg c0 c1 c2 c3 0))) ((n % pw 0 : Nat) : Int) ((1 : Nat) : Int) (c0 : Int) (c1 : Int) (c2 : Int) (c3 : Int) = some true
    rw [forms_mid n (1 + 2) c0 c1 c2 c3 _ _ 1 3000003 hn (by decide) (by decide) (by first | omega | (simp only [p0, p1, p2]; omega)) (by decide)]
    rw [forms_last n (1 + 2) c0 c1 c2 c3 _ _ 2 3000002 (by first | omega | (simp only [p0, p1, p2]; omega)) rfl (by decide) (by simp only [dot, List.length_append]; simp; omega) (by decide)]
    refine forms_end n 3 c0 c1 c2 c3 _ _ 3000001 hn ?_ (by decide) ?_
    · simp only [dot, List.length_append]; simp; omega
    · rw [show formL (n / pw 0 % 256) (cg c0 c1 c2 c3 0) ++ dot 1 ++ formL (n / pw 1 % 256) (cg c0 c1 c2 c3 1) ++ dot 2 ++ formL (n % pw 0 % pw 1) (cg c0 c1 c2 c3 2) = formL (n / pw 0 % 256) (cg c0 c1 c2 c3 0) ++ 46 :: (formL (n / pw 1 % 256) (cg c0 c1 c2 c3 1) ++ 46 :: formL (n % pw 0 % pw 1) (cg c0 c1 c2 c3 2)) from by simp [dot], looseL3 _ _ _ _ _ _ (by first | omega | (simp only [p0, p1, p2]; omega)) (by first | omega | (simp only [p0, p1, p2]; omega)) (by first | omega | (simp only [p0, p1, p2]; omega))]
      simp only [p0, p1, p2]; congr 1; omega
  · have g0 := hlen (n % pw 0 % pw 1 % pw 2) (cg c0 c1 c2 c3 3) (by first | omega | (simp only [p0, p1, p2]; omega))
    rw [h, forms_mid n (1 + 3) c0 c1 c2 c3 [] n 0 3000004 hn (by decide) (by decide) (by simp) (by decide)]
    show lanternlaw05_IpForms.l0 (3000003 + 1) (n : Int) ((1 + 3 : Nat) : Int) (B (formL (n / pw 0 % 256) (cg c0 c1 c2 c3 0))) ((n % pw 0 : Nat) : Int) ((1 : Nat) : Int) (c0 : Int) (c1 : Int) (c2 : Int) (c3 : Int) = some true
    rw [forms_mid n (1 + 3) c0 c1 c2 c3 _ _ 1 3000003 hn (by decide) (by decide) (by first | omega | (simp only [p0, p1, p2]; omega)) (by decide)]
    rw [forms_mid n (1 + 3) c0 c1 c2 c3 _ _ 2 3000002 hn (by decide) (by decide) (by simp only [dot, List.length_append]; simp; omega) (by decide)]
    rw [forms_last n (1 + 3) c0 c1 c2 c3 _ _ 3 3000001 (by first | omega | (simp only [p0, p1, p2]; omega)) rfl (by decide) (by simp only [dot, List.length_append]; simp; omega) (by decide)]
    refine forms_end n 4 c0 c1 c2 c3 _ _ 3000000 hn ?_ (by decide) ?_
    · simp only [dot, List.length_append]; simp; omega
    · rw [show formL (n / pw 0 % 256) (cg c0 c1 c2 c3 0) ++ dot 1 ++ formL (n / pw 1 % 256) (cg c0 c1 c2 c3 1) ++ dot 2 ++ formL (n / pw 2 % 256) (cg c0 c1 c2 c3 2) ++ dot 3 ++ formL (n % pw 0 % pw 1 % pw 2) (cg c0 c1 c2 c3 3) = formL (n / pw 0 % 256) (cg c0 c1 c2 c3 0) ++ 46 :: (formL (n / pw 1 % 256) (cg c0 c1 c2 c3 1) ++ 46 :: (formL (n / pw 2 % 256) (cg c0 c1 c2 c3 2) ++ 46 :: formL (n % pw 0 % pw 1 % pw 2) (cg c0 c1 c2 c3 3))) from by simp [dot], looseL4 _ _ _ _ _ _ _ _ (by first | omega | (simp only [p0, p1, p2]; omega)) (by first | omega | (simp only [p0, p1, p2]; omega)) (by first | omega | (simp only [p0, p1, p2]; omega)) (by first | omega | (simp only [p0, p1, p2]; omega))]
      simp only [p0, p1, p2]; congr 1; omega
theorem IpForms_law (n c0 c1 c2 c3 d : Int) (hn : 0 ≤ n ∧ n < 4294967296) (h0 : 0 ≤ c0) (h1 : 0 ≤ c1) (h2 : 0 ≤ c2) (h3 : 0 ≤ c3) (hd : 0 ≤ d) : ∃ k, lanternlaw05_IpForms.f k n c0 c1 c2 c3 d = some true := by
  obtain ⟨n, rfl⟩ := Int.eq_ofNat_of_zero_le hn.1
  obtain ⟨c0, rfl⟩ := Int.eq_ofNat_of_zero_le h0
  obtain ⟨c1, rfl⟩ := Int.eq_ofNat_of_zero_le h1
  obtain ⟨c2, rfl⟩ := Int.eq_ofNat_of_zero_le h2
  obtain ⟨c3, rfl⟩ := Int.eq_ofNat_of_zero_le h3
  obtain ⟨d, rfl⟩ := Int.eq_ofNat_of_zero_le hd
  exact IpForms_nat n c0 c1 c2 c3 d (by omega)
theorem wf_u8 {x : Int} (h : (Lit.int .u8 x).wf = true) : 0 ≤ x := by
  simp [Lit.wf, IntKind.min, IntKind.max, IntKind.signed, IntKind.bits] at h
  omega
theorem wf_u32 {x : Int} (h : (Lit.int .u32 x).wf = true) : 0 ≤ x ∧ x < 4294967296 := by
  simp [Lit.wf, IntKind.min, IntKind.max, IntKind.signed, IntKind.bits] at h
  omega
theorem IpForms_wf (n c0 c1 c2 c3 d : Int) (hn : (Lit.int .u32 n).wf = true) (h0 : (Lit.int .u8 c0).wf = true) (h1 : (Lit.int .u8 c1).wf = true) (h2 : (Lit.int .u8 c2).wf = true) (h3 : (Lit.int .u8 c3).wf = true) (hd : (Lit.int .u8 d).wf = true) : ∃ k, lanternlaw05_IpForms.f k n c0 c1 c2 c3 d = some true :=
  IpForms_law n c0 c1 c2 c3 d (wf_u32 hn) (wf_u8 h0) (wf_u8 h1) (wf_u8 h2) (wf_u8 h3) (wf_u8 hd)
end Go.Proofs.YtfiefecjcmcejaaDoor.Q
