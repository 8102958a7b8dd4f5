/- The contract of cidr.Allow, by hand: its plain function, and what it calls. -/
import Derived.Test.YtdopafhppaalfaaGreatDoorM4
import Derived.Test.YtdopafhppaalfaaGreatDoorG3
set_option linter.unusedVariables false
set_option linter.unusedSimpArgs false
namespace Go.Proofs.YtdopafhppaalfaaGreatDoor.E
open Go Go.RowKit Go.Shelf Go.Lib Go.Proofs.YtdopafhppaalfaaGreatDoorW.PrintWords Go.Proofs.YtdopafhppaalfaaGreatDoorW.PrintLast Go.Proofs.YtdopafhppaalfaaGreatDoorW.PrintMore Go.Proofs.YtdopafhppaalfaaGreatDoorV Go.Proofs.YtdopafhppaalfaaGreatDoor.P Go.Proofs.YtdopafhppaalfaaGreatDoor.G

def unmapO (a : S24) : Option S24 := match ip_Unmap.f a.f0 a.f1.f0 a.f1.f1 a.f1.f2 a.f1.f3 a.f1.f4 a.f1.f5 a.f1.f6 a.f1.f7 a.f1.f8 a.f1.f9 a.f1.f10 a.f1.f11 a.f1.f12 a.f1.f13 a.f1.f14 a.f1.f15 with
  | some (r0, r1, r2, r3, r4, r5, r6, r7, r8, r9, r10, r11, r12, r13, r14, r15, r16) => some ⟨r0, ⟨r1, r2, r3, r4, r5, r6, r7, r8, r9, r10, r11, r12, r13, r14, r15, r16⟩⟩
  | none => none
def embO (k : Nat) (a : S24) : Option (S24 × Bool) := match ip_Embeds.f a.f0 a.f1.f0 a.f1.f1 a.f1.f2 a.f1.f3 a.f1.f4 a.f1.f5 a.f1.f6 a.f1.f7 a.f1.f8 a.f1.f9 a.f1.f10 a.f1.f11 a.f1.f12 a.f1.f13 a.f1.f14 a.f1.f15 with
  | some (r0, r1, r2, r3, r4, r5, r6, r7, r8, r9, r10, r11, r12, r13, r14, r15, r16, ok) => some (⟨r0, ⟨r1, r2, r3, r4, r5, r6, r7, r8, r9, r10, r11, r12, r13, r14, r15, r16⟩⟩, ok)
  | none => none
theorem embO_mono (k : Nat) (a : S24) : LeO (embO k a) (embO (k + 1) a) := LeO.refl _
/-- Is something true of some net? (Told only where it is told of each.) -/
def anyO (p : S26 → Option Bool) : List S26 → Option Bool
  | [] => some false
  | x :: t => (p x).bind fun b => (anyO p t).bind fun c => some (b || c)
theorem anyO_some (p : S26 → Option Bool) : ∀ (l : List S26) (r : Bool), anyO p l = some r → (∀ x ∈ l, p x = some ((p x).getD false)) ∧ r = l.any fun x => (p x).getD false
  | [], r, h => ⟨fun x hx => by simp at hx, by simpa [anyO] using h.symm⟩
  | x :: t, r, h => by
    obtain ⟨b, hb, h⟩ := Option.bind_eq_some_iff.1 h
    obtain ⟨c, hc, h⟩ := Option.bind_eq_some_iff.1 h
    obtain rfl := Option.some.inj h
    obtain ⟨i1, i2⟩ := anyO_some p t c hc
    refine ⟨fun y hy => ?_, ?_⟩
    · rcases List.mem_cons.1 hy with rfl | hy
      · rw [hb]; rfl
      · exact i1 y hy
    · rw [List.any_cons, hb, ← i2]; rfl
def badO (x : S26) : Option Bool := (chkO x).map (· != 0)
def cidr_Allow.l0 : Nat → S24 → List S26 → Option Int
  | 0, _, _ => none
  | k + 1, a, l => (unmapO a).bind fun a1 => (anyO (fun n => hasO n a1) l).bind fun b => if b = true then some 8 else (embO k a1).bind fun r => if r.2 = true then cidr_Allow.l0 k r.1 l else some 0
theorem cidr_Allow.mono_l : ∀ k a l, LeO (cidr_Allow.l0 k a l) (cidr_Allow.l0 (k + 1) a l)
  | 0, a, l => fun r h => by cases h
  | k + 1, a, l => by
    rw [cidr_Allow.l0, cidr_Allow.l0]
    refine LeO.bind (LeO.refl _) fun a1 => LeO.bind (LeO.refl _) fun b => ?_
    split
    · exact LeO.refl _
    · refine LeO.bind (embO_mono k a1) fun r => ?_
      split
      · exact cidr_Allow.mono_l k r.1 l
      · exact LeO.refl _
def cidr_Allow.f (k : Nat) (a0_0 : Bool) (a0_1 : Int) (a0_2 : Int) (a0_3 : Int) (a0_4 : Int) (a0_5 : Int) (a0_6 : Int) (a0_7 : Int) (a0_8 : Int) (a0_9 : Int) (a0_10 : Int) (a0_11 : Int) (a0_12 : Int) (a0_13 : Int) (a0_14 : Int) (a0_15 : Int) (a0_16 : Int) (l1 : List S26) : Option Int := (ip_Check.f a0_0 a0_1 a0_2 a0_3 a0_4 a0_5 a0_6 a0_7 a0_8 a0_9 a0_10 a0_11 a0_12 a0_13 a0_14 a0_15 a0_16).bind fun e => if e = 0 then (anyO badO l1).bind fun b => (if b = true then some 1 else (cidr_Forbidden.f k).bind fun fl => if fl.length + l1.length ≤ 1000000 then cidr_Allow.l0 k ⟨a0_0, ⟨a0_1, a0_2, a0_3, a0_4, a0_5, a0_6, a0_7, a0_8, a0_9, a0_10, a0_11, a0_12, a0_13, a0_14, a0_15, a0_16⟩⟩ (fl ++ l1) else none) else some 1
theorem cidr_Allow.mono : ∀ x0 x1 x2 x3 x4 x5 x6 x7 x8 x9 x10 x11 x12 x13 x14 x15 x16 l k, LeO (cidr_Allow.f k x0 x1 x2 x3 x4 x5 x6 x7 x8 x9 x10 x11 x12 x13 x14 x15 x16 l) (cidr_Allow.f (k + 1) x0 x1 x2 x3 x4 x5 x6 x7 x8 x9 x10 x11 x12 x13 x14 x15 x16 l) := by
  intro x0 x1 x2 x3 x4 x5 x6 x7 x8 x9 x10 x11 x12 x13 x14 x15 x16 l k
  unfold cidr_Allow.f
  refine LeO.bind (LeO.refl _) fun e => ?_
  split
  · refine LeO.bind (LeO.refl _) fun b => ?_
    split
    · exact LeO.refl _
    · refine LeO.bind (cidr_Forbidden.mono k) fun fl => ?_
      split
      · exact cidr_Allow.mono_l k _ _
      · exact LeO.refl _
  · exact LeO.refl _
theorem unmap_calls (a a1 : S24) (w : World) (hLW : LW w) (h : unmapO a = some a1) : Calls Tryz.prog 38 #[.agg (encS a).toArray] w fun e w' => e = .returned (.agg (encS a1).toArray) ∧ Below w.heap.size w w' := by
  unfold unmapO at h
  split at h
  · rename_i r0 r1 r2 r3 r4 r5 r6 r7 r8 r9 r10 r11 r12 r13 r14 r15 r16 he
    obtain rfl := Option.some.inj h
    exact ip_Unmap.calls _ _ _ _ _ _ _ _ _ _ _ _ _ _ _ _ _ _ _ _ _ _ _ _ _ _ _ _ _ _ _ _ _ _ w hLW he
  · cases h
theorem emb_calls (k : Nat) (a a2 : S24) (ok : Bool) (w : World) (hLW : LW w) (h : embO k a = some (a2, ok)) : Calls Tryz.prog 41 #[.agg (encS a).toArray] w fun e w' => e = .returned (.tuple #[.agg (encS a2).toArray, .bool ok]) ∧ Below w.heap.size w w' := by
  unfold embO at h
  split at h
  · rename_i r0 r1 r2 r3 r4 r5 r6 r7 r8 r9 r10 r11 r12 r13 r14 r15 r16 ok' he
    simp only [Option.some.injEq, Prod.mk.injEq] at h
    obtain ⟨rfl, rfl⟩ := h
    exact ip_Embeds.calls _ _ _ _ _ _ _ _ _ _ _ _ _ _ _ _ _ _ _ _ _ _ _ _ _ _ _ _ _ _ _ _ _ _ _ w hLW he
  · cases h
theorem chkA_calls (a : S24) (r : Int) (w : World) (hLW : LW w) (h : ip_Check.f a.f0 a.f1.f0 a.f1.f1 a.f1.f2 a.f1.f3 a.f1.f4 a.f1.f5 a.f1.f6 a.f1.f7 a.f1.f8 a.f1.f9 a.f1.f10 a.f1.f11 a.f1.f12 a.f1.f13 a.f1.f14 a.f1.f15 = some r) : Calls Tryz.prog 16 #[.agg (encS a).toArray] w fun e w' => e = .returned (.int .i64 r) ∧ Below w.heap.size w w' :=
  ip_Check.calls _ _ _ _ _ _ _ _ _ _ _ _ _ _ _ _ _ r w hLW h
/-- Some net that may not be. -/
theorem bad_calls (A : Option Addr) (c : Nat) (l : List S26) (r : Bool) (w : World) (hLW : LW w) (hr : Kd.C k26 w A l.length l) (h : anyO badO l = some r) :
    Calls Tryz.prog 36 #[.slice A l.length c, .func (.func 37) #[] #[]] w fun e w' => e = .returned (.bool r) ∧ Below w.heap.size w w' := by
  obtain ⟨h1, h2⟩ := anyO_some badO l r h
  rw [h2]
  refine hasN_calls 37 #[] (enters_of Tryz.func37 (by kernel_rfl) rfl) (fun x => (badO x).getD false) A c l w hr fun W x hx hW => ?_
  have hb := h1 x hx
  unfold badO at hb
  obtain ⟨e, he, hee⟩ := Option.map_eq_some_iff.1 hb
  refine (lit1_calls x e W (LW.below hLW hW) he).mono ?_
  rintro e w' ⟨rfl, hb⟩
  exact ⟨by rw [hee]; rfl, hb⟩
/-- Some net that has the address. -/
theorem in_calls (B : Nat) (a : S24) (A : Option Addr) (c : Nat) (l : List S26) (r : Bool) (w : World) (hLW : LW w) (hr : Kd.C k26 w A l.length l) (h : anyO (fun n => hasO n a) l = some r) (hb : w.heap[B]? = some (.cells (encS a).toArray 24 (0, 0))) :
    Calls Tryz.prog 36 #[.slice A l.length c, .func (.func 39) #[] #[.pointer (some ⟨B, 0, none⟩)]] w fun e w' => e = .returned (.bool r) ∧ Below w.heap.size w w' := by
  obtain ⟨h1, h2⟩ := anyO_some _ l r h
  rw [h2]
  refine hasN_calls 39 #[.pointer (some ⟨B, 0, none⟩)] (enters_of Tryz.func39 (by kernel_rfl) rfl) (fun x => (hasO x a).getD false) A c l w hr fun W x hx hW => ?_
  exact lit2_calls B x a _ W (LW.below hLW hW) (h1 x hx) (blk_below hb hW)
end Go.Proofs.YtdopafhppaalfaaGreatDoor.E
set_option linter.unusedVariables false
set_option linter.unusedSimpArgs false
namespace Go.Proofs.YtdopafhppaalfaaGreatDoor.E
open Go Go.RowKit Go.Shelf Go.Lib Go.Proofs.YtdopafhppaalfaaGreatDoorW.PrintWords Go.Proofs.YtdopafhppaalfaaGreatDoorW.PrintLast Go.Proofs.YtdopafhppaalfaaGreatDoorW.PrintMore Go.Proofs.YtdopafhppaalfaaGreatDoorV Go.Proofs.YtdopafhppaalfaaGreatDoor.P Go.Proofs.YtdopafhppaalfaaGreatDoor.G

theorem infoN2 : (Tryz.prog.info? 26).map (fun i => (i.zero, i.size, i.bytes)) = some (some (.agg #[.bool false, .int .u8 0, .int .u8 0, .int .u8 0, .int .u8 0, .int .u8 0, .int .u8 0, .int .u8 0, .int .u8 0, .int .u8 0, .int .u8 0, .int .u8 0, .int .u8 0, .int .u8 0, .int .u8 0, .int .u8 0, .int .u8 0, .int .i64 0]), 18, 32) := by kernel_rfl
theorem encS_one (x : S24) : (encS x).all (·.oneCell') = true := rfl
theorem k26_KM (w : World) (base : Nat) (ok : Nat → Prop) (x : S26) (cs : List Value) (h : k26.K w x cs) : k26.M w base ok x cs := by
  rw [k26_open h]; exact k26_mkM _ _ _ _
set_option maxHeartbeats 8000000 in
set_option maxRecDepth 100000 in
theorem allow_calls (k : Nat) (a : S24) (A1 : Option Addr) (c1 : Nat) (l1 : List S26) (r : Int) (w : World) (hLW : LW w) (hr1 : Kd.C k26 w A1 l1.length l1) (h : cidr_Allow.f k a.f0 a.f1.f0 a.f1.f1 a.f1.f2 a.f1.f3 a.f1.f4 a.f1.f5 a.f1.f6 a.f1.f7 a.f1.f8 a.f1.f9 a.f1.f10 a.f1.f11 a.f1.f12 a.f1.f13 a.f1.f14 a.f1.f15 l1 = some r) :
    Calls Tryz.prog 19 #[.agg (encS a).toArray, .slice A1 l1.length c1] w fun e w' => e = .returned (.int .i64 r) ∧ Below w.heap.size w w' := by
  unfold cidr_Allow.f at h
  replace h := Option.bind_eq_some_iff.1 h
  obtain ⟨e, he, h⟩ := h
  have HE := Aside0.mk (fun (W : World) (hW : LW W) => chkA_calls a e W hW he)
  have HLW := Aside0.mk hLW
  have HR1 := Aside0.mk hr1
  clear hLW hr1 he
  by_cases c1e : e = 0
  · subst c1e
    rw [if_pos rfl] at h
    replace h := Option.bind_eq_some_iff.1 h
    obtain ⟨b, hb0, h⟩ := h
    have HBAD := Aside0.mk hb0
    clear hb0
    cases b with
    | true =>
      rw [if_pos rfl] at h
      obtain rfl := Option.some.inj h
      go_enter Tryz.func19, Tryz.ntmps19
      go_wp2_with (first | ((with_reducible refine gate_dst (N := 2) rfl ?_); refine box_event ?hg (N := 2) ?hd (cs := (encS a).toArray) (t := 24) ?hr ?_; (case hd => rfl); (case hg => rfl); (case hr => first | (go_simp; done) | (go_simp; rfl)); intro ga hg w2 hbox hb; have BA := Aside0.mk hbox; have HB2 := Aside0.mk hb; clear hbox hb hg) | ((with_reducible refine gate_dst (N := 8) rfl ?_); refine load_box ?hg 24 (.tmp 2) rfl BA.out [] (encS a) [] (by simp) 0 rfl rfl Tryz.underlying24 rfl (by exact infoA') ?_; (case hg => rfl)) | (go_at_call 16; refine (HE.out _ (LW.below HLW.out HB2.out)).mono ?_; rintro e w3 ⟨rfl, hb⟩; have HB3 := Aside0.mk (below_step HB2.out hb); clear hb) | (go_at_call 36; refine (bad_calls A1 c1 l1 true _ (LW.below HLW.out HB3.out) (Kd.C_below HR1.out HB3.out) HBAD.out).mono ?_; rintro e w4 ⟨rfl, hb⟩; have HB4 := Aside0.mk (below_step HB3.out hb); clear hb))
      go_ret
      exact ⟨rfl, HB4.out⟩
    | false =>
      rw [if_neg (by decide)] at h
      replace h := Option.bind_eq_some_iff.1 h
      obtain ⟨fl, hfl, h⟩ := h
      by_cases c2 : fl.length + l1.length ≤ 1000000
      · rw [if_pos c2] at h
        have HFL := Aside0.mk hfl
        have HL := Aside0.mk c2
        have HH := Aside0.mk (show cidr_Allow.l0 k a (fl ++ l1) = some r from h)
        clear hfl c2 h
        go_enter Tryz.func19, Tryz.ntmps19
        go_upto_block 0 with (first | ((with_reducible refine gate_dst (N := 2) rfl ?_); refine box_event ?hg (N := 2) ?hd (cs := (encS a).toArray) (t := 24) ?hr ?_; (case hd => rfl); (case hg => rfl); (case hr => first | (go_simp; done) | (go_simp; rfl)); intro ga hg w2 hbox hb; have HGE := Aside0.mk (show w.heap.size ≤ ga by rw [hg]; exact Nat.le_refl _); have BA := Aside0.mk hbox; have HB2 := Aside0.mk hb; clear hbox hb hg) | ((with_reducible refine gate_dst (N := 8) rfl ?_); refine load_box ?hg 24 (.tmp 2) rfl BA.out [] (encS a) [] (by simp) 0 rfl rfl Tryz.underlying24 rfl (by exact infoA') ?_; (case hg => rfl)) | (go_at_call 16; refine (HE.out _ (LW.below HLW.out HB2.out)).mono ?_; rintro e w3 ⟨rfl, hb⟩; have HB3 := Aside0.mk (below_step HB2.out hb); have BA3 := Aside0.mk (blk_below BA.out hb); clear hb) | (go_at_call 36; refine (bad_calls A1 c1 l1 false _ (LW.below HLW.out HB3.out) (Kd.C_below HR1.out HB3.out) HBAD.out).mono ?_; rintro e w4 ⟨rfl, hb⟩; have HB4 := Aside0.mk (below_step HB3.out hb); have BA4 := Aside0.mk (blk_below BA3.out hb); clear hb) | (go_at_call 20; refine (cidr_Forbidden.calls k fl _ (LW.below HLW.out HB4.out) HFL.out).mono ?_; rintro e w5 ⟨v5, rfl, ho, hb⟩; have HO5 := Aside0.mk ho; have HB5 := Aside0.mk (below_step HB4.out hb); have BA5 := Aside0.mk (blk_below BA4.out hb); have HS45 := Aside0.mk (Below.size hb); clear ho hb) | (at_builtin; refine Kd.R_append_rows k26 (Rr := k26.K w5) (w0 := w) w.heap.size rfl (.tmp 15) (.tmp 16) 48 26 (.agg #[.bool false, .int .u8 0, .int .u8 0, .int .u8 0, .int .u8 0, .int .u8 0, .int .u8 0, .int .u8 0, .int .u8 0, .int .u8 0, .int .u8 0, .int .u8 0, .int .u8 0, .int .u8 0, .int .u8 0, .int .u8 0, .int .u8 0, .int .i64 0]) 32 rfl Tryz.underlying48 infoN2 rfl (by decide) (by decide) v5 fl l1 A1 l1.length c1 (fun _ => True) (fun k => some k ≠ v5.ownBlock) rfl rfl ?hO ?hR (fun x cs h => k26_KM _ _ _ x cs h) (fun k hk => ⟨trivial, hk⟩) (fun _ _ => trivial) ?hB ?hbase ?hl ?_; (case hO => exact Kd.R_lower HO5.out (Below.size HB4.out)); (case hR => exact Kd.C_below HR1.out HB5.out); (case hB => exact HB5.out); (case hbase => exact Below.size HB5.out); (case hl => have := HL.out; omega); intro v6 w6 HO6' HB6' hg6 _; have HO6 := Aside0.mk HO6'; have HB6 := Aside0.mk HB6'; have BA6 := Aside0.mk ((hg6.block ga (blk_lt BA5.out) (Kd.R_ne HO5.out BA5.out (by decide))).trans BA5.out); clear HO6' HB6' hg6))
        obtain ⟨L, hL⟩ : ∃ L, fl ++ l1 = L := ⟨_, rfl⟩
        rw [hL] at HO6 HH
        clear hL
        obtain ⟨A6, c6, e6⟩ := Kd.R_slice HO6.out
        subst e6
        go_wp2
        go_loopg [6, 7] k (fun gg _ _ wr => ∃ x : S24, Aside0 (cidr_Allow.l0 gg x L = some r) ∧ Aside0 (Below w.heap.size w wr) ∧ Aside0 (wr.heap[ga]? = some (.cells (encS x).toArray 24 (0, 0))) ∧ Aside0 (Kd.R k26 26 wr w.heap.size (fun _ => True) (.slice A6 L.length c6) L))
        case atStart => exact ⟨a, HH, HB6, BA6, HO6⟩
        case round =>
          obtain ⟨x, HX, HB, BA, HO⟩ := hrel
          cases gk with
          | zero => exact absurd HX.out (by simp [cidr_Allow.l0])
          | succ m =>
            have hx := HX.out
            rw [cidr_Allow.l0] at hx
            replace hx := Option.bind_eq_some_iff.1 hx
            obtain ⟨a1, hu, hx⟩ := hx
            replace hx := Option.bind_eq_some_iff.1 hx
            obtain ⟨b, hin, hx⟩ := hx
            have HU := Aside0.mk hu
            have HIN := Aside0.mk hin
            clear hu hin
            cases b with
            | true =>
              rw [if_pos rfl] at hx
              obtain rfl := Option.some.inj hx
              go_wp2_with (first | ((with_reducible refine gate_dst (N := 18) rfl ?_); refine load_box ?hg 24 (.tmp 2) rfl BA.out [] (encS x) [] (by simp) 0 rfl rfl Tryz.underlying24 rfl (by exact infoA') ?_; (case hg => rfl)) | (go_at_call 38; refine (unmap_calls x a1 _ (LW.below HLW.out HB.out) HU.out).mono ?_; rintro e w7 ⟨rfl, hb⟩; have HB7 := Aside0.mk (below_step HB.out hb); have BA7 := Aside0.mk (blk_below BA.out hb); have HO7 := Aside0.mk (Kd.R_below HO.out hb); clear hb) | (refine store_all ?hg 24 2 _ rfl rfl ga (encS x) (encS a1) BA7.out rfl rfl ?hl ?hi ?h1 ?_; (case hg => rfl); (case hl => rfl); (case hi => exact infoA'); (case h1 => exact encS_one _); intro w8 hw_; have HB8 := Aside0.mk (show Below w.heap.size w w8 by rw [hw_]; exact below_setC HGE.out (encS a1) 0 HB7.out); have BA8 := Aside0.mk (show w8.heap[ga]? = some (.cells (encS a1).toArray 24 (0, 0)) by rw [hw_]; exact blk_part (encS a1) (encS x) [] [] BA7.out (by simp) rfl (by simp)); have HO8 := Aside0.mk (show Kd.R k26 26 w8 w.heap.size (fun _ => True) (.slice A6 L.length c6) L by rw [hw_]; exact Kd.R_mono (R_farC (g := ga) (fun _ hk => hk.2) (Kd.R_types HO7.out BA7.out (by decide)) (encS a1) 0) (fun _ hk => trivial)); clear hw_) | (go_at_call 36; refine (in_calls ga a1 A6 c6 L true _ (LW.below HLW.out HB8.out) (Kd.R_reads' HO8.out).2.2 HIN.out BA8.out).mono ?_; rintro e w9 ⟨rfl, hb⟩; have HB9 := Aside0.mk (below_step HB8.out hb); have BA9 := Aside0.mk (blk_below BA8.out hb); have HO9 := Aside0.mk (Kd.R_below HO8.out hb); clear hb))
              go_ret
              exact ⟨rfl, HB9.out⟩
            | false =>
              rw [if_neg (by decide)] at hx
              replace hx := Option.bind_eq_some_iff.1 hx
              obtain ⟨⟨a2, ok⟩, hem, hx⟩ := hx
              have HEM := Aside0.mk hem
              clear hem
              cases ok with
              | true =>
                have HX2 := Aside0.mk (show cidr_Allow.l0 m a2 L = some r from hx)
                clear hx
                go_wp2_with (first | ((with_reducible refine gate_dst (N := 18) rfl ?_); refine load_box ?hg 24 (.tmp 2) rfl BA.out [] (encS x) [] (by simp) 0 rfl rfl Tryz.underlying24 rfl (by exact infoA') ?_; (case hg => rfl)) | (go_at_call 38; refine (unmap_calls x a1 _ (LW.below HLW.out HB.out) HU.out).mono ?_; rintro e w7 ⟨rfl, hb⟩; have HB7 := Aside0.mk (below_step HB.out hb); have BA7 := Aside0.mk (blk_below BA.out hb); have HO7 := Aside0.mk (Kd.R_below HO.out hb); clear hb) | (refine store_all ?hg 24 2 _ rfl rfl ga (encS x) (encS a1) BA7.out rfl rfl ?hl ?hi ?h1 ?_; (case hg => rfl); (case hl => rfl); (case hi => exact infoA'); (case h1 => exact encS_one _); intro w8 hw_; have HB8 := Aside0.mk (show Below w.heap.size w w8 by rw [hw_]; exact below_setC HGE.out (encS a1) 0 HB7.out); have BA8 := Aside0.mk (show w8.heap[ga]? = some (.cells (encS a1).toArray 24 (0, 0)) by rw [hw_]; exact blk_part (encS a1) (encS x) [] [] BA7.out (by simp) rfl (by simp)); have HO8 := Aside0.mk (show Kd.R k26 26 w8 w.heap.size (fun _ => True) (.slice A6 L.length c6) L by rw [hw_]; exact Kd.R_mono (R_farC (g := ga) (fun _ hk => hk.2) (Kd.R_types HO7.out BA7.out (by decide)) (encS a1) 0) (fun _ hk => trivial)); clear hw_) | (go_at_call 36; refine (in_calls ga a1 A6 c6 L false _ (LW.below HLW.out HB8.out) (Kd.R_reads' HO8.out).2.2 HIN.out BA8.out).mono ?_; rintro e w9 ⟨rfl, hb⟩; have HB9 := Aside0.mk (below_step HB8.out hb); have BA9 := Aside0.mk (blk_below BA8.out hb); have HO9 := Aside0.mk (Kd.R_below HO8.out hb); clear hb) | ((with_reducible refine gate_dst (N := 24) rfl ?_); refine load_box ?hg 24 (.tmp 2) rfl BA9.out [] (encS a1) [] (by simp) 0 rfl rfl Tryz.underlying24 rfl (by exact infoA') ?_; (case hg => rfl)) | (go_at_call 41; refine (emb_calls m a1 a2 true _ (LW.below HLW.out HB9.out) HEM.out).mono ?_; rintro e w10 ⟨rfl, hb⟩; have HB10 := Aside0.mk (below_step HB9.out hb); have BA10 := Aside0.mk (blk_below BA9.out hb); have HO10 := Aside0.mk (Kd.R_below HO9.out hb); clear hb) | ((with_reducible refine gate_dst (N := 6) rfl ?_); refine box_event ?hg (N := 6) ?hd (cs := #[.bool false, .int .u8 0, .int .u8 0, .int .u8 0, .int .u8 0, .int .u8 0, .int .u8 0, .int .u8 0, .int .u8 0, .int .u8 0, .int .u8 0, .int .u8 0, .int .u8 0, .int .u8 0, .int .u8 0, .int .u8 0, .int .u8 0]) (t := 24) ?hr ?_; (case hd => rfl); (case hg => rfl); (case hr => first | (go_simp; done) | (go_simp; rfl)); intro gi hg w11 hbox hb; have HGI := Aside0.mk (show w.heap.size ≤ gi by rw [hg]; exact Below.size HB10.out); have HNE := Aside0.mk (show ga ≠ gi by rw [hg]; exact Nat.ne_of_lt (blk_lt BA10.out)); have BI11 := Aside0.mk hbox; have HB11 := Aside0.mk (below_step HB10.out hb); have BA11 := Aside0.mk (blk_below BA10.out hb); have HO11 := Aside0.mk (Kd.R_below HO10.out hb); clear hbox hb hg) | (refine store_all ?hg 24 6 _ rfl rfl gi [.bool false, .int .u8 0, .int .u8 0, .int .u8 0, .int .u8 0, .int .u8 0, .int .u8 0, .int .u8 0, .int .u8 0, .int .u8 0, .int .u8 0, .int .u8 0, .int .u8 0, .int .u8 0, .int .u8 0, .int .u8 0, .int .u8 0] (encS a2) BI11.out rfl rfl ?hl ?hi ?h1 ?_; (case hg => rfl); (case hl => rfl); (case hi => exact infoA'); (case h1 => exact encS_one _); intro w12 hw_; have HB12 := Aside0.mk (show Below w.heap.size w w12 by rw [hw_]; exact below_setC HGI.out (encS a2) 0 HB11.out); have BI12 := Aside0.mk (show w12.heap[gi]? = some (.cells (encS a2).toArray 24 (0, 0)) by rw [hw_]; exact blk_part (encS a2) [.bool false, .int .u8 0, .int .u8 0, .int .u8 0, .int .u8 0, .int .u8 0, .int .u8 0, .int .u8 0, .int .u8 0, .int .u8 0, .int .u8 0, .int .u8 0, .int .u8 0, .int .u8 0, .int .u8 0, .int .u8 0, .int .u8 0] [] [] BI11.out (by simp) rfl (by simp)); have HO12 := Aside0.mk (show Kd.R k26 26 w12 w.heap.size (fun _ => True) (.slice A6 L.length c6) L by rw [hw_]; exact Kd.R_mono (R_farC (g := gi) (fun _ hk => hk.2) (Kd.R_types HO11.out BI11.out (by decide)) (encS a2) 0) (fun _ hk => trivial)); have BA12 := Aside0.mk (show w12.heap[ga]? = some (.cells (encS a1).toArray 24 (0, 0)) by rw [hw_]; exact (setCells_far (encS a2) 0 ga HNE.out).trans BA11.out); clear hw_) | ((with_reducible refine gate_dst (N := 30) rfl ?_); refine load_box ?hg 24 (.tmp 6) rfl BI12.out [] (encS a2) [] (by simp) 0 rfl rfl Tryz.underlying24 rfl (by exact infoA') ?_; (case hg => rfl)) | (refine store_all ?hg 24 2 _ rfl rfl ga (encS a1) (encS a2) BA12.out rfl rfl ?hl ?hi ?h1 ?_; (case hg => rfl); (case hl => rfl); (case hi => exact infoA'); (case h1 => exact encS_one _); intro w13 hw_; have HB13 := Aside0.mk (show Below w.heap.size w w13 by rw [hw_]; exact below_setC HGE.out (encS a2) 0 HB12.out); have BA13 := Aside0.mk (show w13.heap[ga]? = some (.cells (encS a2).toArray 24 (0, 0)) by rw [hw_]; exact blk_part (encS a2) (encS a1) [] [] BA12.out (by simp) rfl (by simp)); have HO13 := Aside0.mk (show Kd.R k26 26 w13 w.heap.size (fun _ => True) (.slice A6 L.length c6) L by rw [hw_]; exact Kd.R_mono (R_farC (g := ga) (fun _ hk => hk.2) (Kd.R_types HO12.out BA12.out (by decide)) (encS a2) 0) (fun _ hk => trivial)); clear hw_))
                go_roundg m
                case measure => omega
                case rel => exact ⟨a2, HX2, HB13, BA13, HO13⟩
              | false =>
                obtain rfl := Option.some.inj (show some (0 : Int) = some r from hx)
                clear hx
                go_wp2_with (first | ((with_reducible refine gate_dst (N := 18) rfl ?_); refine load_box ?hg 24 (.tmp 2) rfl BA.out [] (encS x) [] (by simp) 0 rfl rfl Tryz.underlying24 rfl (by exact infoA') ?_; (case hg => rfl)) | (go_at_call 38; refine (unmap_calls x a1 _ (LW.below HLW.out HB.out) HU.out).mono ?_; rintro e w7 ⟨rfl, hb⟩; have HB7 := Aside0.mk (below_step HB.out hb); have BA7 := Aside0.mk (blk_below BA.out hb); have HO7 := Aside0.mk (Kd.R_below HO.out hb); clear hb) | (refine store_all ?hg 24 2 _ rfl rfl ga (encS x) (encS a1) BA7.out rfl rfl ?hl ?hi ?h1 ?_; (case hg => rfl); (case hl => rfl); (case hi => exact infoA'); (case h1 => exact encS_one _); intro w8 hw_; have HB8 := Aside0.mk (show Below w.heap.size w w8 by rw [hw_]; exact below_setC HGE.out (encS a1) 0 HB7.out); have BA8 := Aside0.mk (show w8.heap[ga]? = some (.cells (encS a1).toArray 24 (0, 0)) by rw [hw_]; exact blk_part (encS a1) (encS x) [] [] BA7.out (by simp) rfl (by simp)); have HO8 := Aside0.mk (show Kd.R k26 26 w8 w.heap.size (fun _ => True) (.slice A6 L.length c6) L by rw [hw_]; exact Kd.R_mono (R_farC (g := ga) (fun _ hk => hk.2) (Kd.R_types HO7.out BA7.out (by decide)) (encS a1) 0) (fun _ hk => trivial)); clear hw_) | (go_at_call 36; refine (in_calls ga a1 A6 c6 L false _ (LW.below HLW.out HB8.out) (Kd.R_reads' HO8.out).2.2 HIN.out BA8.out).mono ?_; rintro e w9 ⟨rfl, hb⟩; have HB9 := Aside0.mk (below_step HB8.out hb); have BA9 := Aside0.mk (blk_below BA8.out hb); have HO9 := Aside0.mk (Kd.R_below HO8.out hb); clear hb) | ((with_reducible refine gate_dst (N := 24) rfl ?_); refine load_box ?hg 24 (.tmp 2) rfl BA9.out [] (encS a1) [] (by simp) 0 rfl rfl Tryz.underlying24 rfl (by exact infoA') ?_; (case hg => rfl)) | (go_at_call 41; refine (emb_calls m a1 a2 false _ (LW.below HLW.out HB9.out) HEM.out).mono ?_; rintro e w10 ⟨rfl, hb⟩; have HB10 := Aside0.mk (below_step HB9.out hb); have BA10 := Aside0.mk (blk_below BA9.out hb); have HO10 := Aside0.mk (Kd.R_below HO9.out hb); clear hb) | ((with_reducible refine gate_dst (N := 6) rfl ?_); refine box_event ?hg (N := 6) ?hd (cs := #[.bool false, .int .u8 0, .int .u8 0, .int .u8 0, .int .u8 0, .int .u8 0, .int .u8 0, .int .u8 0, .int .u8 0, .int .u8 0, .int .u8 0, .int .u8 0, .int .u8 0, .int .u8 0, .int .u8 0, .int .u8 0, .int .u8 0]) (t := 24) ?hr ?_; (case hd => rfl); (case hg => rfl); (case hr => first | (go_simp; done) | (go_simp; rfl)); intro gi hg w11 hbox hb; have HGI := Aside0.mk (show w.heap.size ≤ gi by rw [hg]; exact Below.size HB10.out); have HNE := Aside0.mk (show ga ≠ gi by rw [hg]; exact Nat.ne_of_lt (blk_lt BA10.out)); have BI11 := Aside0.mk hbox; have HB11 := Aside0.mk (below_step HB10.out hb); have BA11 := Aside0.mk (blk_below BA10.out hb); have HO11 := Aside0.mk (Kd.R_below HO10.out hb); clear hbox hb hg) | (refine store_all ?hg 24 6 _ rfl rfl gi [.bool false, .int .u8 0, .int .u8 0, .int .u8 0, .int .u8 0, .int .u8 0, .int .u8 0, .int .u8 0, .int .u8 0, .int .u8 0, .int .u8 0, .int .u8 0, .int .u8 0, .int .u8 0, .int .u8 0, .int .u8 0, .int .u8 0] (encS a2) BI11.out rfl rfl ?hl ?hi ?h1 ?_; (case hg => rfl); (case hl => rfl); (case hi => exact infoA'); (case h1 => exact encS_one _); intro w12 hw_; have HB12 := Aside0.mk (show Below w.heap.size w w12 by rw [hw_]; exact below_setC HGI.out (encS a2) 0 HB11.out); have BI12 := Aside0.mk (show w12.heap[gi]? = some (.cells (encS a2).toArray 24 (0, 0)) by rw [hw_]; exact blk_part (encS a2) [.bool false, .int .u8 0, .int .u8 0, .int .u8 0, .int .u8 0, .int .u8 0, .int .u8 0, .int .u8 0, .int .u8 0, .int .u8 0, .int .u8 0, .int .u8 0, .int .u8 0, .int .u8 0, .int .u8 0, .int .u8 0, .int .u8 0] [] [] BI11.out (by simp) rfl (by simp)); have HO12 := Aside0.mk (show Kd.R k26 26 w12 w.heap.size (fun _ => True) (.slice A6 L.length c6) L by rw [hw_]; exact Kd.R_mono (R_farC (g := gi) (fun _ hk => hk.2) (Kd.R_types HO11.out BI11.out (by decide)) (encS a2) 0) (fun _ hk => trivial)); have BA12 := Aside0.mk (show w12.heap[ga]? = some (.cells (encS a1).toArray 24 (0, 0)) by rw [hw_]; exact (setCells_far (encS a2) 0 ga HNE.out).trans BA11.out); clear hw_))
                go_ret
                exact ⟨rfl, HB12.out⟩
      · rw [if_neg c2] at h
        cases h
  · rw [if_neg c1e] at h
    obtain rfl := Option.some.inj h
    have d1 : (e == 0) = false := beq_eq_false_iff_ne.mpr c1e
    have d2 : (e != 0) = true := bne_iff_ne.mpr c1e
    go_enter Tryz.func19, Tryz.ntmps19
    go_wp2_with (first | ((with_reducible refine gate_dst (N := 2) rfl ?_); refine box_event ?hg (N := 2) ?hd (cs := (encS a).toArray) (t := 24) ?hr ?_; (case hd => rfl); (case hg => rfl); (case hr => first | (go_simp; done) | (go_simp; rfl)); intro ga hg w2 hbox hb; have BA := Aside0.mk hbox; have HB2 := Aside0.mk hb; clear hbox hb hg) | ((with_reducible refine gate_dst (N := 8) rfl ?_); refine load_box ?hg 24 (.tmp 2) rfl BA.out [] (encS a) [] (by simp) 0 rfl rfl Tryz.underlying24 rfl (by exact infoA') ?_; (case hg => rfl)) | (go_at_call 16; refine (HE.out _ (LW.below HLW.out HB2.out)).mono ?_; rintro e w3 ⟨rfl, hb⟩; have HB3 := Aside0.mk (below_step HB2.out hb); clear hb))
    go_ret
    exact ⟨rfl, HB3.out⟩
end Go.Proofs.YtdopafhppaalfaaGreatDoor.E
set_option linter.unusedVariables false
namespace Go.Proofs.YtdopafhppaalfaaGreatDoor.E
open Go Go.RowKit Go.Shelf Go.Lib Go.Proofs.YtdopafhppaalfaaGreatDoorW.PrintWords Go.Proofs.YtdopafhppaalfaaGreatDoorW.PrintLast Go.Proofs.YtdopafhppaalfaaGreatDoorW.PrintMore Go.Proofs.YtdopafhppaalfaaGreatDoorV Go.Proofs.YtdopafhppaalfaaGreatDoor.P Go.Proofs.YtdopafhppaalfaaGreatDoor.G

theorem cidr_Allow.calls (k : Nat) (a0_0 : Bool) (a0_1 : Int) (a0_2 : Int) (a0_3 : Int) (a0_4 : Int) (a0_5 : Int) (a0_6 : Int) (a0_7 : Int) (a0_8 : Int) (a0_9 : Int) (a0_10 : Int) (a0_11 : Int) (a0_12 : Int) (a0_13 : Int) (a0_14 : Int) (a0_15 : Int) (a0_16 : Int) (A1 : Option Addr) (c1 : Nat) (l1 : List S26) (r : Int) (w : World) (hLW : LW w) (hr1 : Kd.C k26 w A1 l1.length l1) (hc1 : l1.length ≤ c1) (h : cidr_Allow.f k a0_0 a0_1 a0_2 a0_3 a0_4 a0_5 a0_6 a0_7 a0_8 a0_9 a0_10 a0_11 a0_12 a0_13 a0_14 a0_15 a0_16 l1 = some r) :
    Calls Tryz.prog 19 #[.agg #[.bool a0_0, .int .u8 a0_1, .int .u8 a0_2, .int .u8 a0_3, .int .u8 a0_4, .int .u8 a0_5, .int .u8 a0_6, .int .u8 a0_7, .int .u8 a0_8, .int .u8 a0_9, .int .u8 a0_10, .int .u8 a0_11, .int .u8 a0_12, .int .u8 a0_13, .int .u8 a0_14, .int .u8 a0_15, .int .u8 a0_16], .slice A1 l1.length c1] w fun e w' => e = .returned (.int .i64 r) ∧ Below w.heap.size w w' :=
  allow_calls k ⟨a0_0, ⟨a0_1, a0_2, a0_3, a0_4, a0_5, a0_6, a0_7, a0_8, a0_9, a0_10, a0_11, a0_12, a0_13, a0_14, a0_15, a0_16⟩⟩ A1 c1 l1 r w hLW hr1 h
end Go.Proofs.YtdopafhppaalfaaGreatDoor.E
