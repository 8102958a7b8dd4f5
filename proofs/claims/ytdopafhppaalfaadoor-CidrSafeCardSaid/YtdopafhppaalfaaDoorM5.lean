/- The contract of cidr.Allow, by hand: its plain function, and what it calls. -/
import Derived.Test.YtdopafhppaalfaaDoorM4
import Derived.Test.YtdopafhppaalfaaDoorG3
import Derived.Test.YtdopafhppaalfaaDoorP5
set_option linter.unusedVariables false
set_option linter.unusedSimpArgs false
namespace Go.Proofs.YtdopafhppaalfaaDoor.E
open Go Go.RowKit Go.Shelf Go.Lib Go.Proofs.YtdopafhppaalfaaDoorW.PrintWords Go.Proofs.YtdopafhppaalfaaDoorW.PrintLast Go.Proofs.YtdopafhppaalfaaDoorW.PrintMore Go.Proofs.YtdopafhppaalfaaDoorV Go.Proofs.YtdopafhppaalfaaDoor.P Go.Proofs.YtdopafhppaalfaaDoor.G

def unmapO (a : S24) : Option S24 := match ip_Unmap.f a.f0 a.f1.f0 a.f1.f1 a.f1.f2 a.f1.f3 a.f1.f4 a.f1.f5 a.f1.f6 a.f1.f7 a.f1.f8 a.f1.f9 a.f1.f10 a.f1.f11 a.f1.f12 a.f1.f13 a.f1.f14 a.f1.f15 with
 | some (r0, r1, r2, r3, r4, r5, r6, r7, r8, r9, r10, r11, r12, r13, r14, r15, r16) => some ⟨r0, ⟨r1, r2, r3, r4, r5, r6, r7, r8, r9, r10, r11, r12, r13, r14, r15, r16⟩⟩
 | none => none
def embO (k : Nat) (a : S24) : Option (S24 × Bool) := match ip_Embeds.f k a.f0 a.f1.f0 a.f1.f1 a.f1.f2 a.f1.f3 a.f1.f4 a.f1.f5 a.f1.f6 a.f1.f7 a.f1.f8 a.f1.f9 a.f1.f10 a.f1.f11 a.f1.f12 a.f1.f13 a.f1.f14 a.f1.f15 with
 | some (r0, r1, r2, r3, r4, r5, r6, r7, r8, r9, r10, r11, r12, r13, r14, r15, r16, ok) => some (⟨r0, ⟨r1, r2, r3, r4, r5, r6, r7, r8, r9, r10, r11, r12, r13, r14, r15, r16⟩⟩, ok)
 | none => none
theorem embO_mono (k : Nat) (a : S24) : LeO (embO k a) (embO (k + 1) a) := by
 have h := ip_Embeds.mono (a.f0) (a.f1.f0) (a.f1.f1) (a.f1.f2) (a.f1.f3) (a.f1.f4) (a.f1.f5) (a.f1.f6) (a.f1.f7) (a.f1.f8) (a.f1.f9) (a.f1.f10) (a.f1.f11) (a.f1.f12) (a.f1.f13) (a.f1.f14) (a.f1.f15) k
 unfold embO
 intro r hr
 cases e : ip_Embeds.f k a.f0 a.f1.f0 a.f1.f1 a.f1.f2 a.f1.f3 a.f1.f4 a.f1.f5 a.f1.f6 a.f1.f7 a.f1.f8 a.f1.f9 a.f1.f10 a.f1.f11 a.f1.f12 a.f1.f13 a.f1.f14 a.f1.f15 with
 | none => rw [e] at hr; cases hr
 | some x => rw [e] at hr; rw [h x e]; exact hr
/-- Is something true of some net? (Told only where it is told of each.) -/
def anyO (p : S34 → Option Bool) : List S34 → Option Bool
 | [] => some false
 | x :: t => (p x).bind fun b => (anyO p t).bind fun c => some (b || c)
theorem anyO_some (p : S34 → Option Bool) : ∀ (l : List S34) (r : Bool), anyO p l = some r → (∀ x ∈ l, p x = some ((p x).getD false)) ∧ r = l.any fun x => (p x).getD false
 | [], r, h => ⟨fun x hx => by simp at hx, by simpa [anyO] using h.symm⟩
 | x :: t, r, h => by
  obtain ⟨b, hb, h⟩ := Option.bind_eq_some_iff.1 h
  obtain ⟨c, hc, h⟩ := Option.bind_eq_some_iff.1 h
  obtain rfl := Option.some.inj h
  obtain ⟨i1, i2⟩ := anyO_some p t c hc
  refine ⟨fun y hy => ?_, ?_⟩
  ·rcases List.mem_cons.1 hy with rfl | hy
   ·rw [hb]; rfl
   ·exact i1 y hy
  ·rw [List.any_cons, hb, ← i2]; rfl
def badO (x : S34) : Option Bool := (chkO x).map (· != 0)
def cidr_Allow.l0 : Nat → S24 → List S34 → Option Int
 | 0, _, _ => none
 | k + 1, a, l => (unmapO a).bind fun a1 => (anyO (fun n => hasO n a1) l).bind fun b => if b = true then some 8 else (embO k a1).bind fun r => if r.2 = true then cidr_Allow.l0 k r.1 l else some 0
theorem cidr_Allow.mono_l : ∀ k a l, LeO (cidr_Allow.l0 k a l) (cidr_Allow.l0 (k + 1) a l)
 | 0, a, l => fun r h => by cases h
 | k + 1, a, l => by
  rw [cidr_Allow.l0, cidr_Allow.l0]
  refine LeO.bind (LeO.refl _) fun a1 => LeO.bind (LeO.refl _) fun b => ?_
  split
  ·exact LeO.refl _
  ·refine LeO.bind (embO_mono k a1) fun r => ?_
   split
   ·exact cidr_Allow.mono_l k r.1 l
   ·exact LeO.refl _
def cidr_Allow.f (k : Nat) (a0_0 : Bool) (a0_1 : Int) (a0_2 : Int) (a0_3 : Int) (a0_4 : Int) (a0_5 : Int) (a0_6 : Int) (a0_7 : Int) (a0_8 : Int) (a0_9 : Int) (a0_10 : Int) (a0_11 : Int) (a0_12 : Int) (a0_13 : Int) (a0_14 : Int) (a0_15 : Int) (a0_16 : Int) (l1 : List S34) : Option Int := (ip_Check.f a0_0 a0_1 a0_2 a0_3 a0_4 a0_5 a0_6 a0_7 a0_8 a0_9 a0_10 a0_11 a0_12 a0_13 a0_14 a0_15 a0_16).bind fun e => if e = 0 then (anyO badO l1).bind fun b => (if b = true then some 1 else (cidr_Forbidden.f k).bind fun fl => if fl.length + l1.length ≤ 1000000 then cidr_Allow.l0 k ⟨a0_0, ⟨a0_1, a0_2, a0_3, a0_4, a0_5, a0_6, a0_7, a0_8, a0_9, a0_10, a0_11, a0_12, a0_13, a0_14, a0_15, a0_16⟩⟩ (fl ++ l1) else none) else some 1
theorem cidr_Allow.mono : ∀ x0 x1 x2 x3 x4 x5 x6 x7 x8 x9 x10 x11 x12 x13 x14 x15 x16 l k, LeO (cidr_Allow.f k x0 x1 x2 x3 x4 x5 x6 x7 x8 x9 x10 x11 x12 x13 x14 x15 x16 l) (cidr_Allow.f (k + 1) x0 x1 x2 x3 x4 x5 x6 x7 x8 x9 x10 x11 x12 x13 x14 x15 x16 l) := by
 intro x0 x1 x2 x3 x4 x5 x6 x7 x8 x9 x10 x11 x12 x13 x14 x15 x16 l k
 unfold cidr_Allow.f
 refine LeO.bind (LeO.refl _) fun e => ?_
 split
 ·refine LeO.bind (LeO.refl _) fun b => ?_
  split
  ·exact LeO.refl _
  ·refine LeO.bind (cidr_Forbidden.mono k) fun fl => ?_
   split
   ·exact cidr_Allow.mono_l k _ _
   ·exact LeO.refl _
 ·exact LeO.refl _
theorem unmap_calls (a a1 : S24) (w : World) (hLW : LW w) (h : unmapO a = some a1) : Calls Tryd.prog 23 #[.agg (encS a).toArray] w fun e w' => e = .returned (.agg (encS a1).toArray) ∧ Below w.heap.size w w' := by
 unfold unmapO at h
 split at h
 ·rename_i r0 r1 r2 r3 r4 r5 r6 r7 r8 r9 r10 r11 r12 r13 r14 r15 r16 he
  obtain rfl := Option.some.inj h
  exact ip_Unmap.calls _ _ _ _ _ _ _ _ _ _ _ _ _ _ _ _ _ _ _ _ _ _ _ _ _ _ _ _ _ _ _ _ _ _ w hLW he
 ·cases h
theorem emb_calls (k : Nat) (a a2 : S24) (ok : Bool) (w : World) (hLW : LW w) (h : embO k a = some (a2, ok)) : Calls Tryd.prog 25 #[.agg (encS a).toArray] w fun e w' => e = .returned (.tuple #[.agg (encS a2).toArray, .bool ok]) ∧ Below w.heap.size w w' := by
 unfold embO at h
 split at h
 ·rename_i r0 r1 r2 r3 r4 r5 r6 r7 r8 r9 r10 r11 r12 r13 r14 r15 r16 ok' he
  simp only [Option.some.injEq, Prod.mk.injEq] at h
  obtain ⟨rfl, rfl⟩ := h
  exact ip_Embeds.calls k _ _ _ _ _ _ _ _ _ _ _ _ _ _ _ _ _ _ _ _ _ _ _ _ _ _ _ _ _ _ _ _ _ _ _ w hLW he
 ·cases h
theorem chkA_calls (a : S24) (r : Int) (w : World) (hLW : LW w) (h : ip_Check.f a.f0 a.f1.f0 a.f1.f1 a.f1.f2 a.f1.f3 a.f1.f4 a.f1.f5 a.f1.f6 a.f1.f7 a.f1.f8 a.f1.f9 a.f1.f10 a.f1.f11 a.f1.f12 a.f1.f13 a.f1.f14 a.f1.f15 = some r) : Calls Tryd.prog 19 #[.agg (encS a).toArray] w fun e w' => e = .returned (.int .i64 r) ∧ Below w.heap.size w w' :=
 ip_Check.calls _ _ _ _ _ _ _ _ _ _ _ _ _ _ _ _ _ r w hLW h
/-- Some net that may not be. -/
theorem bad_calls (A : Option Addr) (c : Nat) (l : List S34) (r : Bool) (w : World) (hLW : LW w) (hr : Kd.C k34 w A l.length l) (h : anyO badO l = some r) :
  Calls Tryd.prog 20 #[.slice A l.length c, .func (.func 21) #[] #[]] w fun e w' => e = .returned (.bool r) ∧ Below w.heap.size w w' := by
 obtain ⟨h1, h2⟩ := anyO_some badO l r h
 rw [h2]
 refine hasN_calls 21 #[] (enters_of Tryd.func21 (by kernel_rfl) rfl) (fun x => (badO x).getD false) A c l w hr fun W x hx hW => ?_
 have hb := h1 x hx
 unfold badO at hb
 obtain ⟨e, he, hee⟩ := Option.map_eq_some_iff.1 hb
 refine (lit1_calls x e W (LW.below hLW hW) he).mono ?_
 rintro e w' ⟨rfl, hb⟩
 exact ⟨by rw [hee]; rfl, hb⟩
/-- Some net that has the address. -/
theorem in_calls (B : Nat) (a : S24) (A : Option Addr) (c : Nat) (l : List S34) (r : Bool) (w : World) (hLW : LW w) (hr : Kd.C k34 w A l.length l) (h : anyO (fun n => hasO n a) l = some r) (hb : w.heap[B]? = some (.cells (encS a).toArray 24 (0, 0))) :
  Calls Tryd.prog 20 #[.slice A l.length c, .func (.func 24) #[] #[.pointer (some ⟨B, 0, none⟩)]] w fun e w' => e = .returned (.bool r) ∧ Below w.heap.size w w' := by
 obtain ⟨h1, h2⟩ := anyO_some _ l r h
 rw [h2]
 refine hasN_calls 24 #[.pointer (some ⟨B, 0, none⟩)] (enters_of Tryd.func24 (by kernel_rfl) rfl) (fun x => (hasO x a).getD false) A c l w hr fun W x hx hW => ?_
 exact lit2_calls B x a _ W (LW.below hLW hW) (h1 x hx) (blk_below hb hW)
end Go.Proofs.YtdopafhppaalfaaDoor.E
