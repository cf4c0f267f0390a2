/-
  What the proof of ParseLists leans on, part 3 of 4: walks of the program's functions at the level of values, and plain facts of what they compute.
-/
import Derived.Test.YtjgekbmahhhokaaDoorPParseLists2
namespace Go.Proofs.YtjgekbmahhhokaaDoor.Pa
open Go.RowKit V Pk Go.Proofs.YtjgekbmahhhokaaDoor.Vl Go.Proofs.YtjgekbmahhhokaaDoor.Nm
set_option linter.unusedVariables false
set_option linter.unusedSimpArgs false

variable {G : List (Nat × List Value)}
theorem bind_ns {α β : Type} {r : Rs α} {f : α → Nat → List OpL → Rs β} (h : r.bind f ≠ .stuck) : r ≠ .stuck := fun e => h (by rw [e]; rfl)
theorem lit_le {l : List Tk} {p : Nat} {ops : List OpL} {v : Vl × Bool} {q : Nat} {os : List OpL} (h : litP l p ops = .ok v q os) (hp : p ≤ l.length) : os = ops ∧ q ≤ l.length ∧ (v.2 = true → 0 < q) ∧ p ≤ q := by
 unfold litP gv at h
 split at h
 ·have := isQ_lt ‹_›; cases h; exact ⟨rfl, by omega, fun _ => by omega, by omega⟩
 split at h
 ·have := isQ_lt ‹_›; cases h; exact ⟨rfl, by omega, fun _ => by omega, by omega⟩
 split at h
 ·have := isQ_lt ‹_›; cases h; exact ⟨rfl, by omega, fun _ => by omega, by omega⟩
 split at h
 ·have := ‹_ ∧ _›.1; split at h <;> cases h; exact ⟨rfl, by omega, fun _ => by omega, by omega⟩
 split at h
 ·have := isQ_lt ‹_›; split at h
  ·have := ‹_ ∧ _›.1; cases h; exact ⟨rfl, by omega, fun _ => by omega, by omega⟩
  cases h
 split at h
 ·have := ‹_ ∧ _›.1; cases h; exact ⟨rfl, by omega, fun _ => by omega, by omega⟩
 cases h; exact ⟨rfl, hp, fun h => by simp at h, by omega⟩
theorem name_le {l : List Tk} {p q : Nat} {ops os : List OpL} {s : ByteArray} (h : nameP l p ops = .ok s q os) : os = ops ∧ q = p + 1 ∧ p < l.length := by
 unfold nameP gv at h
 split at h
 ·split at h
  ·cases h
  split at h
  ·cases h
  cases h; exact ⟨rfl, rfl, by assumption⟩
 cases h
theorem mark_yes {l : List Tk} {s : ByteArray} {p : Nat} (h : isQ l p 4 s = true) (ops : List OpL) : markP l s p ops = .ok () (p + 1) ops := by unfold markP; rw [if_pos h]
theorem mark_no {l : List Tk} {s : ByteArray} {p : Nat} (h : isQ l p 4 s = false) (ops : List OpL) : markP l s p ops = .no p (if l.length ≤ p then 7 else 6) := by unfold markP; rw [if_neg (by rw [h]; decide)]; rfl
theorem must_le {l : List Tk} : ∀ {ss : List ByteArray} {p q : Nat} {ops os : List OpL}, mustP l ss p ops = .ok () q os → p ≤ l.length → os = ops ∧ q ≤ l.length ∧ p ≤ q
 | [], p, q, ops, os, h, hp => by unfold mustP at h; cases h; exact ⟨rfl, hp, Nat.le_refl _⟩
 | s :: r, p, q, ops, os, h, hp => by
  unfold mustP at h
  split at h
  ·have h1 := isQ_lt ‹_›
   obtain ⟨h2, h3, h4⟩ := must_le h h1
   exact ⟨h2, h3, by omega⟩
  cases h
def EndX (br : Nat) (l : List Tk) (r : Rs Unit) (S : List Blk) : Prop := ∃ p ops, r = .ok () p ops ∧ ops.length ≤ 40 ∧ 0 < p ∧ p ≤ l.length ∧ PS br l p ops S
def PanX {α : Type} (r : Rs α) (ch : List PanicEntry) : Prop := ∃ q e, r = .no q e ∧ ch = wrC q e
def LC (G : List (Nat × List Value)) (br : Nat) (l : List Tk) (f : Nat) (r : Rs Unit) (p : Nat) (ops : List OpL) : Prop := ∀ (ad : Option Addr) (cap : Nat) (So : List Blk), OwnO ops ad cap So → VX Tryd.prog G f [.v (.pointer (some ⟨br, 0, none⟩))] (⟨br, 70, 3, [.list 3 (l.flatMap cT) l.length, .v (.int .i64 ((p : Nat) : Int)), .v (.slice ad ops.length cap)]⟩ :: So) (fun _ S' => EndX br l r S') (PanX r)
structure AllL (G : List (Nat × List Value)) (br : Nat) (l : List Tk) (n : Nat) : Prop where
 prim : ∀ p ops, p ≤ l.length → ops.length ≤ 40 → exP l n .prim p ops ≠ .stuck → LC G br l 116 (exP l n .prim p ops) p ops
 prod : ∀ p ops, p ≤ l.length → ops.length ≤ 40 → exP l n .prod p ops ≠ .stuck → LC G br l 110 (exP l n .prod p ops) p ops
 sum : ∀ p ops, p ≤ l.length → ops.length ≤ 40 → exP l n .sum p ops ≠ .stuck → LC G br l 107 (exP l n .sum p ops) p ops
 comp : ∀ p ops, p ≤ l.length → ops.length ≤ 40 → exP l n .comp p ops ≠ .stuck → LC G br l 103 (exP l n .comp p ops) p ops
 not : ∀ p ops, p ≤ l.length → ops.length ≤ 40 → exP l n .not p ops ≠ .stuck → LC G br l 98 (exP l n .not p ops) p ops
 and : ∀ p ops, p ≤ l.length → ops.length ≤ 40 → exP l n .and p ops ≠ .stuck → LC G br l 90 (exP l n .and p ops) p ops
 or : ∀ p ops, p ≤ l.length → ops.length ≤ 40 → exP l n .or p ops ≠ .stuck → LC G br l 77 (exP l n .or p ops) p ops
theorem LC.stuck {br : Nat} {l : List Tk} {f : Nat} {r : Rs Unit} {p : Nat} {ops : List OpL} (h : ∀ n, (n = 0 → False) → LC G br l f r p ops) (n : Nat) (hn : n = 0 → r = .stuck) (hr : r ≠ .stuck) : LC G br l f r p ops := h n fun e => hr (hn e)

theorem places39_Pa5 : ∀ w, ((#[{ name := "Kind", type := 3, offset := 0, embedded := false, tag := "", pkgPath := "", byteOffset := 0 }, { name := "Value", type := 37, offset := 1, embedded := false, tag := "", pkgPath := "", byteOffset := 8 }, { name := "Name", type := 9, offset := 4, embedded := false, tag := "", pkgPath := "", byteOffset := 40 }] : Array Field).mapM fun f => do pure (f.offset, ← sizeOf f.type) : Sem (Array (Nat × Nat))).run Tryd.prog w = .ok #[(0, 1), (1, 3), (4, 1)] w := fun w => by simp [Tryd.sizeOf3, Tryd.sizeOf37, Tryd.sizeOf9]

set_option maxHeartbeats 4000000 in
set_option maxRecDepth 100000 in
theorem prod_x {br : Nat} {l : List Tk} (hl : l.length ≤ 100) {n : Nat} (ih : ∀ m, m ≤ n → AllL G br l m) (p : Nat) (ops : List OpL) (hp : p ≤ l.length) (h40 : ops.length ≤ 40) (R : Rs Unit) (hR : R = exP l (n + 1) .prod p ops) (hns : R ≠ .stuck) (ad : Option Addr) (cap : Nat) (So : List Blk) (ho : OwnO ops ad cap So) : VX Tryd.prog G 110 [.v (.pointer (some ⟨br, 0, none⟩))] (⟨br, 70, 3, [.list 3 (l.flatMap cT) l.length, .v (.int .i64 ((p : Nat) : Int)), .v (.slice ad ops.length cap)]⟩ :: So) (fun _ S' => EndX br l R S') (PanX R) := by
 refine VX.body Tryd.func110 rfl Tryd.ntmps110 le_ fun X0 w0 S00 => ?_
 refine CD.seq ?_
 have hR0 : R = (exP l n .prim p ops).bind (fun _ p ops => exP l n .prodL p ops) := hR.trans (by rw [exP])
 refine CD.region ?_
 refine om_ ?_
 have hs1 : exP l n .prim p ops ≠ .stuck := bind_ns (f := fun _ p ops => exP l n .prodL p ops) (by rw [hR0] at hns; exact hns)
 refine OD.callX wp_ rfl rfl rfl Tryd.call116 ((ih _ (by omega)).prim p ops hp h40 hs1 ad cap So ho) ⟨ot, trivial⟩ (perm_all _) (fun ch hch => (Or.inr ⟨ch, rfl, by obtain ⟨q, e, h1, h2⟩ := hch; exact ⟨q, e, hR0.trans (by rw [h1]; rfl), h2⟩⟩ : BodyX _ _ _ _ _ _)) ?_
 rintro _ _ ⟨p1, o1, hr1, hq1, h01, hp1, ad1, cap1, So1, ho1, rfl⟩
 refine OD.perm (S' := ⟨br, 70, 3, [.list 3 (l.flatMap cT) l.length, .v (.int .i64 ((p1 : Nat) : Int)), .v (.slice ad1 o1.length cap1)]⟩ :: So1) (perm_all _).symm ?_
 have hR1 : R = exP l n .prodL p1 o1 := hR0.trans (by rw [hr1]; rfl)
 refine OD.wk (Wk.as_ (n := 11) (l' := [(0, _)]) (S' := (⟨br, 70, 3, [_, _, _]⟩ :: So1)) rfl rfl sl_) ?_
 refine OD.nil ?_
 refine CD.block ?_
 refine lp_ (fun (gh__ : Nat × Nat × List OpL × Option Addr × Nat × List Blk) y__ => match gh__ with | (m, q, os, ad, cap, So) => (m ≤ n) ∧ (R = exP l m .prodL q os) ∧ (os.length ≤ 40) ∧ (0 < q) ∧ (q ≤ l.length) ∧ (OwnO os ad cap So) ∧ y__ = (⟨11, [(0, .v (.pointer (some ⟨br, 0, none⟩)))], (⟨br, 70, 3, [.list 3 (l.flatMap cT) l.length, .v (.int .i64 ((q : Nat) : Int)), .v (.slice ad os.length cap)]⟩ :: So)⟩ : St)) (fun (gh__ : Nat × Nat × List OpL × Option Addr × Nat × List Blk) => match gh__ with | (m, q, os, ad, cap, So) => m) (n, p1, o1, ad1, cap1, So1) ⟨(Nat.le_refl _), hR1, hq1, h01, hp1, ho1, rfl⟩ (Wk.asS rfl (List.Sublist.refl _) sq_) ?_
 rintro ⟨m, q, os, ad, cap, So⟩ _ ⟨hmn, hRl, hql, h0l, hpl, hol, rfl⟩
 rcases m with _ | m
 ·exact absurd hRl hns
 refine CD.seq ?_
 refine sr_ ?_
 refine om_ ?_
 refine OD.call wp_ rfl rfl rfl Tryd.call43 (eat_vc l hl q 4 ⟨#[42]⟩ ad os.length cap br) ⟨ot, opd_const, opd_const, trivial⟩ (List.Perm.refl _) ?_
 rintro _ _ ⟨rfl, rfl⟩
 refine OD.perm (S' := ⟨br, 70, 3, [.list 3 (l.flatMap cT) l.length, .v (.int .i64 (((if isQ l q 4 ⟨#[42]⟩ = true then q + 1 else q) : Nat) : Int)), .v (.slice ad os.length cap)]⟩ :: So) (List.Perm.refl _) ?_
 refine OD.wk (Wk.as_ (n := 11) (l' := [(0, _), (5, _)]) (S' := (⟨br, 70, 3, [_, _, _]⟩ :: So)) rfl rfl sl_) ?_
 refine OD.nil ?_
 refine CD.cond ot (fun hc0 => ?_) (fun hc0 => ?_)
 ·have hc0' := hc0
  (try simp only [V.cnd, ne_eq] at hc0')
  have e0t : isQ l q 4 ⟨#[42]⟩ = true := hc0
  rw [e0t]
  simp only [if_true]
  have hR2 : R = (exP l m .prim (q + 1) os).bind (fun _ p ops => (putP l (opN 10) p ops).bind fun _ p ops => exP l m .prodL p ops) := hRl.trans (by rw [exP, if_pos e0t])
  refine CD.skip ?_
  refine CD.block ?_
  refine sr_ ?_
  refine om_ ?_
  have hs3 : exP l m .prim (q + 1) os ≠ .stuck := bind_ns (f := fun _ p ops => (putP l (opN 10) p ops).bind fun _ p ops => exP l m .prodL p ops) (by rw [hR2] at hns; exact hns)
  refine OD.callX wp_ rfl rfl rfl Tryd.call116 ((ih _ (by omega)).prim (q + 1) os (isQ_lt e0t) hql hs3 ad cap So hol) ⟨ot, trivial⟩ (perm_all _) (fun ch hch => (Or.inr ⟨ch, rfl, by obtain ⟨q, e, h1, h2⟩ := hch; exact ⟨q, e, hR2.trans (by rw [h1]; rfl), h2⟩⟩ : BodyX _ _ _ _ _ _)) ?_
  rintro _ _ ⟨p3, o3, hr3, hq3, h03, hp3, ad3, cap3, So3, ho3, rfl⟩
  refine OD.perm (S' := ⟨br, 70, 3, [.list 3 (l.flatMap cT) l.length, .v (.int .i64 ((p3 : Nat) : Int)), .v (.slice ad3 o3.length cap3)]⟩ :: So3) (perm_all _).symm ?_
  have hR3 : R = (putP l (opN 10) p3 o3).bind fun _ p ops => exP l m .prodL p ops := hR2.trans (by rw [hr3]; rfl)
  refine OD.wk (Wk.as_ (n := 11) (l' := [(0, _)]) (S' := (⟨br, 70, 3, [_, _, _]⟩ :: So3)) rfl rfl sl_) ?_
  refine OD.nil ?_
  refine CD.region ?_
  refine om_ ?_
  refine os_ (still_bld (pl := [(0, _)]) (ds := [_, _, _, _, _]) rfl Tryd.zeroValue39 Tryd.runUnderlying39 places39_Pa5 ⟨rfl, opd_const, trivial⟩ rfl rfl) ?_
  refine OD.callX wp_ rfl rfl rfl Tryd.call91 (put_vx l hl (opN 10) p3 h03 (Nat.le_trans hp3 (by omega)) o3 hq3 ad3 cap3 br So3 ho3) ⟨ot, ot, trivial⟩ (perm_all _) (fun ch hch => (Or.inr ⟨ch, rfl, by obtain ⟨q, e, h1, h2⟩ := hch; exact ⟨q, e, hR3.trans (by rw [h1]; rfl), h2⟩⟩ : BodyX _ _ _ _ _ _)) ?_
  rintro _ _ ⟨o4, hr4, hq4, ad4, cap4, So4, ho4, rfl⟩
  refine OD.perm (S' := ⟨br, 70, 3, [.list 3 (l.flatMap cT) l.length, .v (.int .i64 ((p3 : Nat) : Int)), .v (.slice ad4 o4.length cap4)]⟩ :: So4) (perm_all _).symm ?_
  have hR4 : R = exP l m .prodL p3 o4 := hR3.trans (by rw [hr4]; rfl)
  refine OD.wk (Wk.as_ (n := 11) (l' := [(0, _)]) (S' := (⟨br, 70, 3, [_, _, _]⟩ :: So4)) rfl rfl sl_) ?_
  refine OD.nil ?_
  refine ⟨(m, p3, o4, ad4, cap4, So4), _, ?_, ?_, (by omega), hR4, hq4, h03, hp3, ho4, rfl⟩
  ·first | omega | (simp only []; omega)
  exact Wk.asS (n := 11) rfl (List.Sublist.refl _) sq_
 have hc0' := hc0
 (try simp only [V.cnd, ne_eq] at hc0')
 have e0f : isQ l q 4 ⟨#[42]⟩ = false := hc0
 rw [e0f]
 simp only [Bool.false_eq_true, if_false]
 have hR5 : R = .ok () q os := hRl.trans (by rw [exP, if_neg (F_ e0f)])
 refine CD.exit ?_
 refine Or.inl ?_
 refine ⟨.inl rfl, _, ⟨br, 70, 3, [.list 3 (l.flatMap cT) l.length, .v (.int .i64 ((q : Nat) : Int)), .v (.slice ad os.length cap)]⟩ :: So, su_, ret_none Tryd.results110 , ?_⟩
 exact ⟨q, os, hR5, hql, h0l, hpl, ad, cap, So, hol, rfl⟩

set_option maxHeartbeats 4000000 in
set_option maxRecDepth 100000 in
theorem sum_x {br : Nat} {l : List Tk} (hl : l.length ≤ 100) {n : Nat} (ih : ∀ m, m ≤ n → AllL G br l m) (p : Nat) (ops : List OpL) (hp : p ≤ l.length) (h40 : ops.length ≤ 40) (R : Rs Unit) (hR : R = exP l (n + 1) .sum p ops) (hns : R ≠ .stuck) (ad : Option Addr) (cap : Nat) (So : List Blk) (ho : OwnO ops ad cap So) : VX Tryd.prog G 107 [.v (.pointer (some ⟨br, 0, none⟩))] (⟨br, 70, 3, [.list 3 (l.flatMap cT) l.length, .v (.int .i64 ((p : Nat) : Int)), .v (.slice ad ops.length cap)]⟩ :: So) (fun _ S' => EndX br l R S') (PanX R) := by
 refine VX.body Tryd.func107 rfl Tryd.ntmps107 le_ fun X0 w0 S00 => ?_
 refine CD.seq ?_
 have hR0 : R = (exP l n .prod p ops).bind (fun _ p ops => exP l n .sumL p ops) := hR.trans (by rw [exP])
 refine CD.region ?_
 refine om_ ?_
 have hs1 : exP l n .prod p ops ≠ .stuck := bind_ns (f := fun _ p ops => exP l n .sumL p ops) (by rw [hR0] at hns; exact hns)
 refine OD.callX wp_ rfl rfl rfl Tryd.call110 ((ih _ (by omega)).prod p ops hp h40 hs1 ad cap So ho) ⟨ot, trivial⟩ (perm_all _) (fun ch hch => (Or.inr ⟨ch, rfl, by obtain ⟨q, e, h1, h2⟩ := hch; exact ⟨q, e, hR0.trans (by rw [h1]; rfl), h2⟩⟩ : BodyX _ _ _ _ _ _)) ?_
 rintro _ _ ⟨p1, o1, hr1, hq1, h01, hp1, ad1, cap1, So1, ho1, rfl⟩
 refine OD.perm (S' := ⟨br, 70, 3, [.list 3 (l.flatMap cT) l.length, .v (.int .i64 ((p1 : Nat) : Int)), .v (.slice ad1 o1.length cap1)]⟩ :: So1) (perm_all _).symm ?_
 have hR1 : R = exP l n .sumL p1 o1 := hR0.trans (by rw [hr1]; rfl)
 refine OD.wk (Wk.as_ (n := 20) (l' := [(0, _)]) (S' := (⟨br, 70, 3, [_, _, _]⟩ :: So1)) rfl rfl sl_) ?_
 refine OD.nil ?_
 refine CD.block ?_
 refine lp_ (fun (gh__ : Nat × Nat × List OpL × Option Addr × Nat × List Blk) y__ => match gh__ with | (m, q, os, ad, cap, So) => (m ≤ n) ∧ (R = exP l m .sumL q os) ∧ (os.length ≤ 40) ∧ (0 < q) ∧ (q ≤ l.length) ∧ (OwnO os ad cap So) ∧ y__ = (⟨20, [(0, .v (.pointer (some ⟨br, 0, none⟩)))], (⟨br, 70, 3, [.list 3 (l.flatMap cT) l.length, .v (.int .i64 ((q : Nat) : Int)), .v (.slice ad os.length cap)]⟩ :: So)⟩ : St)) (fun (gh__ : Nat × Nat × List OpL × Option Addr × Nat × List Blk) => match gh__ with | (m, q, os, ad, cap, So) => m) (n, p1, o1, ad1, cap1, So1) ⟨(Nat.le_refl _), hR1, hq1, h01, hp1, ho1, rfl⟩ (Wk.asS rfl (List.Sublist.refl _) sq_) ?_
 rintro ⟨m, q, os, ad, cap, So⟩ _ ⟨hmn, hRl, hql, h0l, hpl, hol, rfl⟩
 rcases m with _ | m
 ·exact absurd hRl hns
 refine CD.block ?_
 refine CD.block ?_
 refine sr_ ?_
 refine om_ ?_
 refine OD.call wp_ rfl rfl rfl Tryd.call43 (eat_vc l hl q 4 ⟨#[43]⟩ ad os.length cap br) ⟨ot, opd_const, opd_const, trivial⟩ (List.Perm.refl _) ?_
 rintro _ _ ⟨rfl, rfl⟩
 refine OD.perm (S' := ⟨br, 70, 3, [.list 3 (l.flatMap cT) l.length, .v (.int .i64 (((if isQ l q 4 ⟨#[43]⟩ = true then q + 1 else q) : Nat) : Int)), .v (.slice ad os.length cap)]⟩ :: So) (List.Perm.refl _) ?_
 refine om_ ?_
 refine OD.wk (Wk.as_ (n := 20) (l' := [(0, _), (4, _)]) (S' := (⟨br, 70, 3, [_, _, _]⟩ :: So)) rfl rfl sl_) ?_
 refine OD.nil ?_
 refine CD.cond ot (fun hc0 => ?_) (fun hc0 => ?_)
 ·have hc0' := hc0
  (try simp only [V.cnd, ne_eq] at hc0')
  have e0t : isQ l q 4 ⟨#[43]⟩ = true := hc0
  rw [e0t]
  simp only [if_true]
  have hR2 : R = (exP l m .prod (q + 1) os).bind (fun _ p ops => (putP l (opN 8) p ops).bind fun _ p ops => exP l m .sumL p ops) := hRl.trans (by rw [exP, if_pos e0t])
  refine sr_ ?_
  refine om_ ?_
  have hs3 : exP l m .prod (q + 1) os ≠ .stuck := bind_ns (f := fun _ p ops => (putP l (opN 8) p ops).bind fun _ p ops => exP l m .sumL p ops) (by rw [hR2] at hns; exact hns)
  refine OD.callX wp_ rfl rfl rfl Tryd.call110 ((ih _ (by omega)).prod (q + 1) os (isQ_lt e0t) hql hs3 ad cap So hol) ⟨ot, trivial⟩ (perm_all _) (fun ch hch => (Or.inr ⟨ch, rfl, by obtain ⟨q, e, h1, h2⟩ := hch; exact ⟨q, e, hR2.trans (by rw [h1]; rfl), h2⟩⟩ : BodyX _ _ _ _ _ _)) ?_
  rintro _ _ ⟨p3, o3, hr3, hq3, h03, hp3, ad3, cap3, So3, ho3, rfl⟩
  refine OD.perm (S' := ⟨br, 70, 3, [.list 3 (l.flatMap cT) l.length, .v (.int .i64 ((p3 : Nat) : Int)), .v (.slice ad3 o3.length cap3)]⟩ :: So3) (perm_all _).symm ?_
  have hR3 : R = (putP l (opN 8) p3 o3).bind fun _ p ops => exP l m .sumL p ops := hR2.trans (by rw [hr3]; rfl)
  refine OD.wk (Wk.as_ (n := 20) (l' := [(0, _)]) (S' := (⟨br, 70, 3, [_, _, _]⟩ :: So3)) rfl rfl sl_) ?_
  refine OD.nil ?_
  refine CD.region ?_
  refine om_ ?_
  refine os_ (still_bld (pl := [(0, _)]) (ds := [_, _, _, _, _]) rfl Tryd.zeroValue39 Tryd.runUnderlying39 places39_Pa5 ⟨rfl, opd_const, trivial⟩ rfl rfl) ?_
  refine OD.callX wp_ rfl rfl rfl Tryd.call91 (put_vx l hl (opN 8) p3 h03 (Nat.le_trans hp3 (by omega)) o3 hq3 ad3 cap3 br So3 ho3) ⟨ot, ot, trivial⟩ (perm_all _) (fun ch hch => (Or.inr ⟨ch, rfl, by obtain ⟨q, e, h1, h2⟩ := hch; exact ⟨q, e, hR3.trans (by rw [h1]; rfl), h2⟩⟩ : BodyX _ _ _ _ _ _)) ?_
  rintro _ _ ⟨o4, hr4, hq4, ad4, cap4, So4, ho4, rfl⟩
  refine OD.perm (S' := ⟨br, 70, 3, [.list 3 (l.flatMap cT) l.length, .v (.int .i64 ((p3 : Nat) : Int)), .v (.slice ad4 o4.length cap4)]⟩ :: So4) (perm_all _).symm ?_
  have hR4 : R = exP l m .sumL p3 o4 := hR3.trans (by rw [hr4]; rfl)
  refine OD.wk (Wk.as_ (n := 20) (l' := [(0, _)]) (S' := (⟨br, 70, 3, [_, _, _]⟩ :: So4)) rfl rfl sl_) ?_
  refine OD.nil ?_
  refine ⟨(m, p3, o4, ad4, cap4, So4), _, ?_, ?_, (by omega), hR4, hq4, h03, hp3, ho4, rfl⟩
  ·first | omega | (simp only []; omega)
  exact Wk.asS (n := 20) rfl (List.Sublist.refl _) sq_
 have hc0' := hc0
 (try simp only [V.cnd, ne_eq] at hc0')
 have e0f : isQ l q 4 ⟨#[43]⟩ = false := hc0
 rw [e0f]
 simp only [Bool.false_eq_true, if_false]
 refine sr_ ?_
 refine om_ ?_
 refine OD.call wp_ rfl rfl rfl Tryd.call43 (eat_vc l hl q 4 ⟨#[45]⟩ ad os.length cap br) ⟨ot, opd_const, opd_const, trivial⟩ (List.Perm.refl _) ?_
 rintro _ _ ⟨rfl, rfl⟩
 refine OD.perm (S' := ⟨br, 70, 3, [.list 3 (l.flatMap cT) l.length, .v (.int .i64 (((if isQ l q 4 ⟨#[45]⟩ = true then q + 1 else q) : Nat) : Int)), .v (.slice ad os.length cap)]⟩ :: So) (List.Perm.refl _) ?_
 refine om_ ?_
 refine OD.wk (Wk.as_ (n := 20) (l' := [(0, _), (12, _)]) (S' := (⟨br, 70, 3, [_, _, _]⟩ :: So)) rfl rfl sl_) ?_
 refine OD.nil ?_
 refine CD.cond ot (fun hc1 => ?_) (fun hc1 => ?_)
 ·have hc1' := hc1
  (try simp only [V.cnd, ne_eq] at hc1')
  have e1t : isQ l q 4 ⟨#[45]⟩ = true := hc1
  rw [e1t]
  simp only [if_true]
  have hR5 : R = (exP l m .prod (q + 1) os).bind (fun _ p ops => (putP l (opN 9) p ops).bind fun _ p ops => exP l m .sumL p ops) := hRl.trans (by rw [exP, if_neg (F_ e0f), if_pos e1t])
  refine sr_ ?_
  refine om_ ?_
  have hs6 : exP l m .prod (q + 1) os ≠ .stuck := bind_ns (f := fun _ p ops => (putP l (opN 9) p ops).bind fun _ p ops => exP l m .sumL p ops) (by rw [hR5] at hns; exact hns)
  refine OD.callX wp_ rfl rfl rfl Tryd.call110 ((ih _ (by omega)).prod (q + 1) os (isQ_lt e1t) hql hs6 ad cap So hol) ⟨ot, trivial⟩ (perm_all _) (fun ch hch => (Or.inr ⟨ch, rfl, by obtain ⟨q, e, h1, h2⟩ := hch; exact ⟨q, e, hR5.trans (by rw [h1]; rfl), h2⟩⟩ : BodyX _ _ _ _ _ _)) ?_
  rintro _ _ ⟨p6, o6, hr6, hq6, h06, hp6, ad6, cap6, So6, ho6, rfl⟩
  refine OD.perm (S' := ⟨br, 70, 3, [.list 3 (l.flatMap cT) l.length, .v (.int .i64 ((p6 : Nat) : Int)), .v (.slice ad6 o6.length cap6)]⟩ :: So6) (perm_all _).symm ?_
  have hR6 : R = (putP l (opN 9) p6 o6).bind fun _ p ops => exP l m .sumL p ops := hR5.trans (by rw [hr6]; rfl)
  refine OD.wk (Wk.as_ (n := 20) (l' := [(0, _)]) (S' := (⟨br, 70, 3, [_, _, _]⟩ :: So6)) rfl rfl sl_) ?_
  refine OD.nil ?_
  refine CD.region ?_
  refine om_ ?_
  refine os_ (still_bld (pl := [(0, _)]) (ds := [_, _, _, _, _]) rfl Tryd.zeroValue39 Tryd.runUnderlying39 places39_Pa5 ⟨rfl, opd_const, trivial⟩ rfl rfl) ?_
  refine OD.callX wp_ rfl rfl rfl Tryd.call91 (put_vx l hl (opN 9) p6 h06 (Nat.le_trans hp6 (by omega)) o6 hq6 ad6 cap6 br So6 ho6) ⟨ot, ot, trivial⟩ (perm_all _) (fun ch hch => (Or.inr ⟨ch, rfl, by obtain ⟨q, e, h1, h2⟩ := hch; exact ⟨q, e, hR6.trans (by rw [h1]; rfl), h2⟩⟩ : BodyX _ _ _ _ _ _)) ?_
  rintro _ _ ⟨o7, hr7, hq7, ad7, cap7, So7, ho7, rfl⟩
  refine OD.perm (S' := ⟨br, 70, 3, [.list 3 (l.flatMap cT) l.length, .v (.int .i64 ((p6 : Nat) : Int)), .v (.slice ad7 o7.length cap7)]⟩ :: So7) (perm_all _).symm ?_
  have hR7 : R = exP l m .sumL p6 o7 := hR6.trans (by rw [hr7]; rfl)
  refine OD.wk (Wk.as_ (n := 20) (l' := [(0, _)]) (S' := (⟨br, 70, 3, [_, _, _]⟩ :: So7)) rfl rfl sl_) ?_
  refine OD.nil ?_
  refine ⟨(m, p6, o7, ad7, cap7, So7), _, ?_, ?_, (by omega), hR7, hq7, h06, hp6, ho7, rfl⟩
  ·first | omega | (simp only []; omega)
  exact Wk.asS (n := 20) rfl (List.Sublist.refl _) sq_
 have hc1' := hc1
 (try simp only [V.cnd, ne_eq] at hc1')
 have e1f : isQ l q 4 ⟨#[45]⟩ = false := hc1
 rw [e1f]
 simp only [Bool.false_eq_true, if_false]
 have hR8 : R = .ok () q os := hRl.trans (by rw [exP, if_neg (F_ e0f), if_neg (F_ e1f)])
 refine CD.ret ?_
 refine Or.inl ?_
 refine ⟨.inr rfl, _, ⟨br, 70, 3, [.list 3 (l.flatMap cT) l.length, .v (.int .i64 ((q : Nat) : Int)), .v (.slice ad os.length cap)]⟩ :: So, su_, ret_none Tryd.results107 , ?_⟩
 exact ⟨q, os, hR8, hql, h0l, hpl, ad, cap, So, hol, rfl⟩

set_option maxHeartbeats 4000000 in
set_option maxRecDepth 100000 in
theorem and_x {br : Nat} {l : List Tk} (hl : l.length ≤ 100) {n : Nat} (ih : ∀ m, m ≤ n → AllL G br l m) (p : Nat) (ops : List OpL) (hp : p ≤ l.length) (h40 : ops.length ≤ 40) (R : Rs Unit) (hR : R = exP l (n + 1) .and p ops) (hns : R ≠ .stuck) (ad : Option Addr) (cap : Nat) (So : List Blk) (ho : OwnO ops ad cap So) : VX Tryd.prog G 90 [.v (.pointer (some ⟨br, 0, none⟩))] (⟨br, 70, 3, [.list 3 (l.flatMap cT) l.length, .v (.int .i64 ((p : Nat) : Int)), .v (.slice ad ops.length cap)]⟩ :: So) (fun _ S' => EndX br l R S') (PanX R) := by
 refine VX.body Tryd.func90 rfl Tryd.ntmps90 le_ fun X0 w0 S00 => ?_
 refine CD.seq ?_
 have hR0 : R = (exP l n .not p ops).bind (fun _ p ops => exP l n .andL p ops) := hR.trans (by rw [exP])
 refine CD.region ?_
 refine om_ ?_
 have hs1 : exP l n .not p ops ≠ .stuck := bind_ns (f := fun _ p ops => exP l n .andL p ops) (by rw [hR0] at hns; exact hns)
 refine OD.callX wp_ rfl rfl rfl Tryd.call98 ((ih _ (by omega)).not p ops hp h40 hs1 ad cap So ho) ⟨ot, trivial⟩ (perm_all _) (fun ch hch => (Or.inr ⟨ch, rfl, by obtain ⟨q, e, h1, h2⟩ := hch; exact ⟨q, e, hR0.trans (by rw [h1]; rfl), h2⟩⟩ : BodyX _ _ _ _ _ _)) ?_
 rintro _ _ ⟨p1, o1, hr1, hq1, h01, hp1, ad1, cap1, So1, ho1, rfl⟩
 refine OD.perm (S' := ⟨br, 70, 3, [.list 3 (l.flatMap cT) l.length, .v (.int .i64 ((p1 : Nat) : Int)), .v (.slice ad1 o1.length cap1)]⟩ :: So1) (perm_all _).symm ?_
 have hR1 : R = exP l n .andL p1 o1 := hR0.trans (by rw [hr1]; rfl)
 refine OD.wk (Wk.as_ (n := 11) (l' := [(0, _)]) (S' := (⟨br, 70, 3, [_, _, _]⟩ :: So1)) rfl rfl sl_) ?_
 refine OD.nil ?_
 refine CD.block ?_
 refine lp_ (fun (gh__ : Nat × Nat × List OpL × Option Addr × Nat × List Blk) y__ => match gh__ with | (m, q, os, ad, cap, So) => (m ≤ n) ∧ (R = exP l m .andL q os) ∧ (os.length ≤ 40) ∧ (0 < q) ∧ (q ≤ l.length) ∧ (OwnO os ad cap So) ∧ y__ = (⟨11, [(0, .v (.pointer (some ⟨br, 0, none⟩)))], (⟨br, 70, 3, [.list 3 (l.flatMap cT) l.length, .v (.int .i64 ((q : Nat) : Int)), .v (.slice ad os.length cap)]⟩ :: So)⟩ : St)) (fun (gh__ : Nat × Nat × List OpL × Option Addr × Nat × List Blk) => match gh__ with | (m, q, os, ad, cap, So) => m) (n, p1, o1, ad1, cap1, So1) ⟨(Nat.le_refl _), hR1, hq1, h01, hp1, ho1, rfl⟩ (Wk.asS rfl (List.Sublist.refl _) sq_) ?_
 rintro ⟨m, q, os, ad, cap, So⟩ _ ⟨hmn, hRl, hql, h0l, hpl, hol, rfl⟩
 rcases m with _ | m
 ·exact absurd hRl hns
 refine CD.seq ?_
 refine sr_ ?_
 refine om_ ?_
 refine OD.call wp_ rfl rfl rfl Tryd.call43 (eat_vc l hl q 1 ⟨#[65, 78, 68]⟩ ad os.length cap br) ⟨ot, opd_const, opd_const, trivial⟩ (List.Perm.refl _) ?_
 rintro _ _ ⟨rfl, rfl⟩
 refine OD.perm (S' := ⟨br, 70, 3, [.list 3 (l.flatMap cT) l.length, .v (.int .i64 (((if isQ l q 1 ⟨#[65, 78, 68]⟩ = true then q + 1 else q) : Nat) : Int)), .v (.slice ad os.length cap)]⟩ :: So) (List.Perm.refl _) ?_
 refine OD.wk (Wk.as_ (n := 11) (l' := [(0, _), (5, _)]) (S' := (⟨br, 70, 3, [_, _, _]⟩ :: So)) rfl rfl sl_) ?_
 refine OD.nil ?_
 refine CD.cond ot (fun hc0 => ?_) (fun hc0 => ?_)
 ·have hc0' := hc0
  (try simp only [V.cnd, ne_eq] at hc0')
  have e0t : isQ l q 1 ⟨#[65, 78, 68]⟩ = true := hc0
  rw [e0t]
  simp only [if_true]
  have hR2 : R = (exP l m .not (q + 1) os).bind (fun _ p ops => (putP l (opN 3) p ops).bind fun _ p ops => exP l m .andL p ops) := hRl.trans (by rw [exP, if_pos e0t])
  refine CD.skip ?_
  refine CD.block ?_
  refine sr_ ?_
  refine om_ ?_
  have hs3 : exP l m .not (q + 1) os ≠ .stuck := bind_ns (f := fun _ p ops => (putP l (opN 3) p ops).bind fun _ p ops => exP l m .andL p ops) (by rw [hR2] at hns; exact hns)
  refine OD.callX wp_ rfl rfl rfl Tryd.call98 ((ih _ (by omega)).not (q + 1) os (isQ_lt e0t) hql hs3 ad cap So hol) ⟨ot, trivial⟩ (perm_all _) (fun ch hch => (Or.inr ⟨ch, rfl, by obtain ⟨q, e, h1, h2⟩ := hch; exact ⟨q, e, hR2.trans (by rw [h1]; rfl), h2⟩⟩ : BodyX _ _ _ _ _ _)) ?_
  rintro _ _ ⟨p3, o3, hr3, hq3, h03, hp3, ad3, cap3, So3, ho3, rfl⟩
  refine OD.perm (S' := ⟨br, 70, 3, [.list 3 (l.flatMap cT) l.length, .v (.int .i64 ((p3 : Nat) : Int)), .v (.slice ad3 o3.length cap3)]⟩ :: So3) (perm_all _).symm ?_
  have hR3 : R = (putP l (opN 3) p3 o3).bind fun _ p ops => exP l m .andL p ops := hR2.trans (by rw [hr3]; rfl)
  refine OD.wk (Wk.as_ (n := 11) (l' := [(0, _)]) (S' := (⟨br, 70, 3, [_, _, _]⟩ :: So3)) rfl rfl sl_) ?_
  refine OD.nil ?_
  refine CD.region ?_
  refine om_ ?_
  refine os_ (still_bld (pl := [(0, _)]) (ds := [_, _, _, _, _]) rfl Tryd.zeroValue39 Tryd.runUnderlying39 places39_Pa5 ⟨rfl, opd_const, trivial⟩ rfl rfl) ?_
  refine OD.callX wp_ rfl rfl rfl Tryd.call91 (put_vx l hl (opN 3) p3 h03 (Nat.le_trans hp3 (by omega)) o3 hq3 ad3 cap3 br So3 ho3) ⟨ot, ot, trivial⟩ (perm_all _) (fun ch hch => (Or.inr ⟨ch, rfl, by obtain ⟨q, e, h1, h2⟩ := hch; exact ⟨q, e, hR3.trans (by rw [h1]; rfl), h2⟩⟩ : BodyX _ _ _ _ _ _)) ?_
  rintro _ _ ⟨o4, hr4, hq4, ad4, cap4, So4, ho4, rfl⟩
  refine OD.perm (S' := ⟨br, 70, 3, [.list 3 (l.flatMap cT) l.length, .v (.int .i64 ((p3 : Nat) : Int)), .v (.slice ad4 o4.length cap4)]⟩ :: So4) (perm_all _).symm ?_
  have hR4 : R = exP l m .andL p3 o4 := hR3.trans (by rw [hr4]; rfl)
  refine OD.wk (Wk.as_ (n := 11) (l' := [(0, _)]) (S' := (⟨br, 70, 3, [_, _, _]⟩ :: So4)) rfl rfl sl_) ?_
  refine OD.nil ?_
  refine ⟨(m, p3, o4, ad4, cap4, So4), _, ?_, ?_, (by omega), hR4, hq4, h03, hp3, ho4, rfl⟩
  ·first | omega | (simp only []; omega)
  exact Wk.asS (n := 11) rfl (List.Sublist.refl _) sq_
 have hc0' := hc0
 (try simp only [V.cnd, ne_eq] at hc0')
 have e0f : isQ l q 1 ⟨#[65, 78, 68]⟩ = false := hc0
 rw [e0f]
 simp only [Bool.false_eq_true, if_false]
 have hR5 : R = .ok () q os := hRl.trans (by rw [exP, if_neg (F_ e0f)])
 refine CD.exit ?_
 refine Or.inl ?_
 refine ⟨.inl rfl, _, ⟨br, 70, 3, [.list 3 (l.flatMap cT) l.length, .v (.int .i64 ((q : Nat) : Int)), .v (.slice ad os.length cap)]⟩ :: So, su_, ret_none Tryd.results90 , ?_⟩
 exact ⟨q, os, hR5, hql, h0l, hpl, ad, cap, So, hol, rfl⟩

set_option maxHeartbeats 4000000 in
set_option maxRecDepth 100000 in
theorem or_x {br : Nat} {l : List Tk} (hl : l.length ≤ 100) {n : Nat} (ih : ∀ m, m ≤ n → AllL G br l m) (p : Nat) (ops : List OpL) (hp : p ≤ l.length) (h40 : ops.length ≤ 40) (R : Rs Unit) (hR : R = exP l (n + 1) .or p ops) (hns : R ≠ .stuck) (ad : Option Addr) (cap : Nat) (So : List Blk) (ho : OwnO ops ad cap So) : VX Tryd.prog G 77 [.v (.pointer (some ⟨br, 0, none⟩))] (⟨br, 70, 3, [.list 3 (l.flatMap cT) l.length, .v (.int .i64 ((p : Nat) : Int)), .v (.slice ad ops.length cap)]⟩ :: So) (fun _ S' => EndX br l R S') (PanX R) := by
 refine VX.body Tryd.func77 rfl Tryd.ntmps77 le_ fun X0 w0 S00 => ?_
 refine CD.seq ?_
 have hR0 : R = (exP l n .and p ops).bind (fun _ p ops => exP l n .orL p ops) := hR.trans (by rw [exP])
 refine CD.region ?_
 refine om_ ?_
 have hs1 : exP l n .and p ops ≠ .stuck := bind_ns (f := fun _ p ops => exP l n .orL p ops) (by rw [hR0] at hns; exact hns)
 refine OD.callX wp_ rfl rfl rfl Tryd.call90 ((ih _ (by omega)).and p ops hp h40 hs1 ad cap So ho) ⟨ot, trivial⟩ (perm_all _) (fun ch hch => (Or.inr ⟨ch, rfl, by obtain ⟨q, e, h1, h2⟩ := hch; exact ⟨q, e, hR0.trans (by rw [h1]; rfl), h2⟩⟩ : BodyX _ _ _ _ _ _)) ?_
 rintro _ _ ⟨p1, o1, hr1, hq1, h01, hp1, ad1, cap1, So1, ho1, rfl⟩
 refine OD.perm (S' := ⟨br, 70, 3, [.list 3 (l.flatMap cT) l.length, .v (.int .i64 ((p1 : Nat) : Int)), .v (.slice ad1 o1.length cap1)]⟩ :: So1) (perm_all _).symm ?_
 have hR1 : R = exP l n .orL p1 o1 := hR0.trans (by rw [hr1]; rfl)
 refine OD.wk (Wk.as_ (n := 11) (l' := [(0, _)]) (S' := (⟨br, 70, 3, [_, _, _]⟩ :: So1)) rfl rfl sl_) ?_
 refine OD.nil ?_
 refine CD.block ?_
 refine lp_ (fun (gh__ : Nat × Nat × List OpL × Option Addr × Nat × List Blk) y__ => match gh__ with | (m, q, os, ad, cap, So) => (m ≤ n) ∧ (R = exP l m .orL q os) ∧ (os.length ≤ 40) ∧ (0 < q) ∧ (q ≤ l.length) ∧ (OwnO os ad cap So) ∧ y__ = (⟨11, [(0, .v (.pointer (some ⟨br, 0, none⟩)))], (⟨br, 70, 3, [.list 3 (l.flatMap cT) l.length, .v (.int .i64 ((q : Nat) : Int)), .v (.slice ad os.length cap)]⟩ :: So)⟩ : St)) (fun (gh__ : Nat × Nat × List OpL × Option Addr × Nat × List Blk) => match gh__ with | (m, q, os, ad, cap, So) => m) (n, p1, o1, ad1, cap1, So1) ⟨(Nat.le_refl _), hR1, hq1, h01, hp1, ho1, rfl⟩ (Wk.asS rfl (List.Sublist.refl _) sq_) ?_
 rintro ⟨m, q, os, ad, cap, So⟩ _ ⟨hmn, hRl, hql, h0l, hpl, hol, rfl⟩
 rcases m with _ | m
 ·exact absurd hRl hns
 refine CD.seq ?_
 refine sr_ ?_
 refine om_ ?_
 refine OD.call wp_ rfl rfl rfl Tryd.call43 (eat_vc l hl q 1 ⟨#[79, 82]⟩ ad os.length cap br) ⟨ot, opd_const, opd_const, trivial⟩ (List.Perm.refl _) ?_
 rintro _ _ ⟨rfl, rfl⟩
 refine OD.perm (S' := ⟨br, 70, 3, [.list 3 (l.flatMap cT) l.length, .v (.int .i64 (((if isQ l q 1 ⟨#[79, 82]⟩ = true then q + 1 else q) : Nat) : Int)), .v (.slice ad os.length cap)]⟩ :: So) (List.Perm.refl _) ?_
 refine OD.wk (Wk.as_ (n := 11) (l' := [(0, _), (5, _)]) (S' := (⟨br, 70, 3, [_, _, _]⟩ :: So)) rfl rfl sl_) ?_
 refine OD.nil ?_
 refine CD.cond ot (fun hc0 => ?_) (fun hc0 => ?_)
 ·have hc0' := hc0
  (try simp only [V.cnd, ne_eq] at hc0')
  have e0t : isQ l q 1 ⟨#[79, 82]⟩ = true := hc0
  rw [e0t]
  simp only [if_true]
  have hR2 : R = (exP l m .and (q + 1) os).bind (fun _ p ops => (putP l (opN 4) p ops).bind fun _ p ops => exP l m .orL p ops) := hRl.trans (by rw [exP, if_pos e0t])
  refine CD.skip ?_
  refine CD.block ?_
  refine sr_ ?_
  refine om_ ?_
  have hs3 : exP l m .and (q + 1) os ≠ .stuck := bind_ns (f := fun _ p ops => (putP l (opN 4) p ops).bind fun _ p ops => exP l m .orL p ops) (by rw [hR2] at hns; exact hns)
  refine OD.callX wp_ rfl rfl rfl Tryd.call90 ((ih _ (by omega)).and (q + 1) os (isQ_lt e0t) hql hs3 ad cap So hol) ⟨ot, trivial⟩ (perm_all _) (fun ch hch => (Or.inr ⟨ch, rfl, by obtain ⟨q, e, h1, h2⟩ := hch; exact ⟨q, e, hR2.trans (by rw [h1]; rfl), h2⟩⟩ : BodyX _ _ _ _ _ _)) ?_
  rintro _ _ ⟨p3, o3, hr3, hq3, h03, hp3, ad3, cap3, So3, ho3, rfl⟩
  refine OD.perm (S' := ⟨br, 70, 3, [.list 3 (l.flatMap cT) l.length, .v (.int .i64 ((p3 : Nat) : Int)), .v (.slice ad3 o3.length cap3)]⟩ :: So3) (perm_all _).symm ?_
  have hR3 : R = (putP l (opN 4) p3 o3).bind fun _ p ops => exP l m .orL p ops := hR2.trans (by rw [hr3]; rfl)
  refine OD.wk (Wk.as_ (n := 11) (l' := [(0, _)]) (S' := (⟨br, 70, 3, [_, _, _]⟩ :: So3)) rfl rfl sl_) ?_
  refine OD.nil ?_
  refine CD.region ?_
  refine om_ ?_
  refine os_ (still_bld (pl := [(0, _)]) (ds := [_, _, _, _, _]) rfl Tryd.zeroValue39 Tryd.runUnderlying39 places39_Pa5 ⟨rfl, opd_const, trivial⟩ rfl rfl) ?_
  refine OD.callX wp_ rfl rfl rfl Tryd.call91 (put_vx l hl (opN 4) p3 h03 (Nat.le_trans hp3 (by omega)) o3 hq3 ad3 cap3 br So3 ho3) ⟨ot, ot, trivial⟩ (perm_all _) (fun ch hch => (Or.inr ⟨ch, rfl, by obtain ⟨q, e, h1, h2⟩ := hch; exact ⟨q, e, hR3.trans (by rw [h1]; rfl), h2⟩⟩ : BodyX _ _ _ _ _ _)) ?_
  rintro _ _ ⟨o4, hr4, hq4, ad4, cap4, So4, ho4, rfl⟩
  refine OD.perm (S' := ⟨br, 70, 3, [.list 3 (l.flatMap cT) l.length, .v (.int .i64 ((p3 : Nat) : Int)), .v (.slice ad4 o4.length cap4)]⟩ :: So4) (perm_all _).symm ?_
  have hR4 : R = exP l m .orL p3 o4 := hR3.trans (by rw [hr4]; rfl)
  refine OD.wk (Wk.as_ (n := 11) (l' := [(0, _)]) (S' := (⟨br, 70, 3, [_, _, _]⟩ :: So4)) rfl rfl sl_) ?_
  refine OD.nil ?_
  refine ⟨(m, p3, o4, ad4, cap4, So4), _, ?_, ?_, (by omega), hR4, hq4, h03, hp3, ho4, rfl⟩
  ·first | omega | (simp only []; omega)
  exact Wk.asS (n := 11) rfl (List.Sublist.refl _) sq_
 have hc0' := hc0
 (try simp only [V.cnd, ne_eq] at hc0')
 have e0f : isQ l q 1 ⟨#[79, 82]⟩ = false := hc0
 rw [e0f]
 simp only [Bool.false_eq_true, if_false]
 have hR5 : R = .ok () q os := hRl.trans (by rw [exP, if_neg (F_ e0f)])
 refine CD.exit ?_
 refine Or.inl ?_
 refine ⟨.inl rfl, _, ⟨br, 70, 3, [.list 3 (l.flatMap cT) l.length, .v (.int .i64 ((q : Nat) : Int)), .v (.slice ad os.length cap)]⟩ :: So, su_, ret_none Tryd.results77 , ?_⟩
 exact ⟨q, os, hR5, hql, h0l, hpl, ad, cap, So, hol, rfl⟩

set_option maxHeartbeats 4000000 in
set_option maxRecDepth 100000 in
theorem not_x {br : Nat} {l : List Tk} (hl : l.length ≤ 100) {n : Nat} (ih : ∀ m, m ≤ n → AllL G br l m) (p : Nat) (ops : List OpL) (hp : p ≤ l.length) (h40 : ops.length ≤ 40) (R : Rs Unit) (hR : R = exP l (n + 1) .not p ops) (hns : R ≠ .stuck) (ad : Option Addr) (cap : Nat) (So : List Blk) (ho : OwnO ops ad cap So) : VX Tryd.prog G 98 [.v (.pointer (some ⟨br, 0, none⟩))] (⟨br, 70, 3, [.list 3 (l.flatMap cT) l.length, .v (.int .i64 ((p : Nat) : Int)), .v (.slice ad ops.length cap)]⟩ :: So) (fun _ S' => EndX br l R S') (PanX R) := by
 refine VX.body Tryd.func98 rfl Tryd.ntmps98 le_ fun X0 w0 S00 => ?_
 refine CD.seq ?_
 refine CD.seq ?_
 have hR0 := hR
 refine CD.region ?_
 refine om_ ?_
 refine OD.call wp_ rfl rfl rfl Tryd.call43 (eat_vc l hl p 1 ⟨#[78, 79, 84]⟩ ad ops.length cap br) ⟨ot, opd_const, opd_const, trivial⟩ (List.Perm.refl _) ?_
 rintro _ _ ⟨rfl, rfl⟩
 refine OD.perm (S' := ⟨br, 70, 3, [.list 3 (l.flatMap cT) l.length, .v (.int .i64 (((if isQ l p 1 ⟨#[78, 79, 84]⟩ = true then p + 1 else p) : Nat) : Int)), .v (.slice ad ops.length cap)]⟩ :: So) (List.Perm.refl _) ?_
 refine OD.wk (Wk.as_ (n := 11) (l' := [(0, _), (3, _)]) (S' := (⟨br, 70, 3, [_, _, _]⟩ :: So)) rfl rfl sl_) ?_
 refine OD.nil ?_
 refine CD.cond ot (fun hc0 => ?_) (fun hc0 => ?_)
 ·have hc0' := hc0
  (try simp only [V.cnd, ne_eq] at hc0')
  have et : isQ l p 1 ⟨#[78, 79, 84]⟩ = true := hc0
  rw [et]
  simp only [if_true]
  have hR1 : R = (exP l n .not (p + 1) ops).bind (fun _ p ops => putP l (opN 5) p ops) := hR0.trans (by rw [exP, if_pos et])
  refine sr_ ?_
  refine om_ ?_
  have hs2 : exP l n .not (p + 1) ops ≠ .stuck := bind_ns (f := fun _ p ops => putP l (opN 5) p ops) (by rw [hR1] at hns; exact hns)
  refine OD.callX wp_ rfl rfl rfl Tryd.call98 ((ih _ (by omega)).not (p + 1) ops (isQ_lt et) h40 hs2 ad cap So ho) ⟨ot, trivial⟩ (perm_all _) (fun ch hch => (Or.inr ⟨ch, rfl, by obtain ⟨q, e, h1, h2⟩ := hch; exact ⟨q, e, hR1.trans (by rw [h1]; rfl), h2⟩⟩ : BodyX _ _ _ _ _ _)) ?_
  rintro _ _ ⟨p2, o2, hr2, hq2, h02, hp2, ad2, cap2, So2, ho2, rfl⟩
  refine OD.perm (S' := ⟨br, 70, 3, [.list 3 (l.flatMap cT) l.length, .v (.int .i64 ((p2 : Nat) : Int)), .v (.slice ad2 o2.length cap2)]⟩ :: So2) (perm_all _).symm ?_
  have hR2 : R = putP l (opN 5) p2 o2 := hR1.trans (by rw [hr2]; rfl)
  refine OD.wk (Wk.as_ (n := 11) (l' := [(0, _)]) (S' := (⟨br, 70, 3, [_, _, _]⟩ :: So2)) rfl rfl sl_) ?_
  refine OD.nil ?_
  refine sr_ ?_
  refine om_ ?_
  refine os_ (still_bld (pl := [(0, _)]) (ds := [_, _, _, _, _]) rfl Tryd.zeroValue39 Tryd.runUnderlying39 places39_Pa5 ⟨rfl, opd_const, trivial⟩ rfl rfl) ?_
  refine OD.callX wp_ rfl rfl rfl Tryd.call91 (put_vx l hl (opN 5) p2 h02 (Nat.le_trans hp2 (by omega)) o2 hq2 ad2 cap2 br So2 ho2) ⟨ot, ot, trivial⟩ (perm_all _) (fun ch hch => (Or.inr ⟨ch, rfl, by obtain ⟨q, e, h1, h2⟩ := hch; exact ⟨q, e, hR2.trans h1, h2⟩⟩ : BodyX _ _ _ _ _ _)) ?_
  rintro _ _ ⟨o3, hr3, hq3, ad3, cap3, So3, ho3, rfl⟩
  refine OD.perm (S' := ⟨br, 70, 3, [.list 3 (l.flatMap cT) l.length, .v (.int .i64 ((p2 : Nat) : Int)), .v (.slice ad3 o3.length cap3)]⟩ :: So3) (perm_all _).symm ?_
  have hR3 : R = .ok () p2 o3 := hR2.trans hr3
  refine OD.wk (Wk.as_ (n := 11) (l' := []) (S' := (⟨br, 70, 3, [_, _, _]⟩ :: So3)) rfl rfl trivial) ?_
  refine OD.nil ?_
  refine CD.ret ?_
  refine Or.inl ?_
  refine ⟨.inr rfl, _, ⟨br, 70, 3, [.list 3 (l.flatMap cT) l.length, .v (.int .i64 ((p2 : Nat) : Int)), .v (.slice ad3 o3.length cap3)]⟩ :: So3, su_, ret_none Tryd.results98 , ?_⟩
  exact ⟨p2, o3, hR3, hq3, h02, hp2, ad3, cap3, So3, ho3, rfl⟩
 have hc0' := hc0
 (try simp only [V.cnd, ne_eq] at hc0')
 have ef : isQ l p 1 ⟨#[78, 79, 84]⟩ = false := hc0
 rw [ef]
 simp only [Bool.false_eq_true, if_false]
 have hR4 : R = exP l n .comp p ops := hR0.trans (by rw [exP, if_neg (F_ ef)])
 refine CD.skip ?_
 refine CD.region ?_
 refine om_ ?_
 have hs5 : exP l n .comp p ops ≠ .stuck := by rw [hR4] at hns; exact hns
 refine OD.callX wp_ rfl rfl rfl Tryd.call103 ((ih _ (by omega)).comp p ops hp h40 hs5 ad cap So ho) ⟨ot, trivial⟩ (perm_all _) (fun ch hch => (Or.inr ⟨ch, rfl, by obtain ⟨q, e, h1, h2⟩ := hch; exact ⟨q, e, hR4.trans h1, h2⟩⟩ : BodyX _ _ _ _ _ _)) ?_
 rintro _ _ ⟨p5, o5, hr5, hq5, h05, hp5, ad5, cap5, So5, ho5, rfl⟩
 refine OD.perm (S' := ⟨br, 70, 3, [.list 3 (l.flatMap cT) l.length, .v (.int .i64 ((p5 : Nat) : Int)), .v (.slice ad5 o5.length cap5)]⟩ :: So5) (perm_all _).symm ?_
 have hR5 : R = .ok () p5 o5 := hR4.trans hr5
 refine OD.wk (Wk.as_ (n := 11) (l' := []) (S' := (⟨br, 70, 3, [_, _, _]⟩ :: So5)) rfl rfl trivial) ?_
 refine OD.nil ?_
 refine Or.inl ?_
 refine ⟨.inl rfl, _, ⟨br, 70, 3, [.list 3 (l.flatMap cT) l.length, .v (.int .i64 ((p5 : Nat) : Int)), .v (.slice ad5 o5.length cap5)]⟩ :: So5, su_, ret_none Tryd.results98 , ?_⟩
 exact ⟨p5, o5, hR5, hq5, h05, hp5, ad5, cap5, So5, ho5, rfl⟩

set_option maxHeartbeats 4000000 in
set_option maxRecDepth 100000 in
theorem prim_x {br : Nat} {l : List Tk} (hl : l.length ≤ 100) (hm : (0, marksC) ∈ G) (hw : (2, wordsC) ∈ G) (ht : ∀ t ∈ l, t.s.size ≤ maxLen ∧ (t.k = 2 → 0 ≤ t.n ∧ t.n ≤ 9223372036854775807)) {n : Nat} (ih : ∀ m, m ≤ n → AllL G br l m) (p : Nat) (ops : List OpL) (hp : p ≤ l.length) (h40 : ops.length ≤ 40) (R : Rs Unit) (hR : R = exP l (n + 1) .prim p ops) (hns : R ≠ .stuck) (ad : Option Addr) (cap : Nat) (So : List Blk) (ho : OwnO ops ad cap So) : VX Tryd.prog G 116 [.v (.pointer (some ⟨br, 0, none⟩))] (⟨br, 70, 3, [.list 3 (l.flatMap cT) l.length, .v (.int .i64 ((p : Nat) : Int)), .v (.slice ad ops.length cap)]⟩ :: So) (fun _ S' => EndX br l R S') (PanX R) := by
 refine VX.body Tryd.func116 rfl Tryd.ntmps116 le_ fun X0 w0 S00 => ?_
 refine CD.seq ?_
 refine CD.seq ?_
 have hR0 : R = (litP l p ops).bind (fun v p ops => if v.2 = true then putP l ⟨1, v.1, ⟨#[]⟩⟩ p ops else (if isQ l p 4 ⟨#[40]⟩ = true then (exP l n .or (p + 1) ops).bind fun _ p ops => markP l ⟨#[41]⟩ p ops else (nameP l p ops).bind fun s p ops => putP l ⟨2, noVl, s⟩ p ops)) := hR.trans (by rw [exP])
 refine CD.region ?_
 refine om_ ?_
 refine OD.callX wp_ rfl rfl rfl Tryd.call76 (literal_vx l hl ht p ad ops.length cap br) ⟨ot, trivial⟩ (List.Perm.refl _) (fun ch hch => (Or.inr ⟨ch, rfl, by obtain ⟨q, e, h1, h2⟩ := hch; exact ⟨q, e, hR0.trans (by rw [h1]; rfl), h2⟩⟩ : BodyX _ _ _ _ _ _)) ?_
 rintro _ _ ⟨v, ok, q, hlit, rfl, rfl⟩
 unfold cV
 refine OD.perm (S' := ⟨br, 70, 3, [.list 3 (l.flatMap cT) l.length, .v (.int .i64 ((q : Nat) : Int)), .v (.slice ad ops.length cap)]⟩ :: So) (List.Perm.refl _) ?_
 have hR1 : R = (if ok = true then putP l ⟨1, v, ⟨#[]⟩⟩ q ops else (if isQ l q 4 ⟨#[40]⟩ = true then (exP l n .or (q + 1) ops).bind fun _ p ops => markP l ⟨#[41]⟩ p ops else (nameP l q ops).bind fun s p ops => putP l ⟨2, noVl, s⟩ p ops)) := hR0.trans (by rw [hlit]; rfl)
 obtain ⟨-, hla, hlb, -⟩ := lit_le (hlit ops) hp
 refine om_ ?_
 refine os_ ex_ ?_
 refine os_ ex_ ?_
 refine OD.alloc (ds := [_, _, _]) wp_ rfl rfl Tryd.zeroValue37 rfl (fun b2 => ?_)
 refine ot_ 0 [_, _, _] Tryd.sizeOf37 ?_
 refine om_ ?_
 refine OD.wk (Wk.as_ (n := 27) (l' := [(0, _), (2, _), (3, _)]) (S' := (⟨b2, 37, 3, [_, _, _]⟩ :: ⟨br, 70, 3, [_, _, _]⟩ :: So)) rfl rfl sl_) ?_
 refine OD.nil ?_
 refine sr_ ?_
 refine om_ ?_
 refine nm_ [0, 2, 10] ?_
 refine CD.cond ot (fun hc0 => ?_) (fun hc0 => ?_)
 ·have hc0' := hc0
  (try simp only [V.cnd, ne_eq] at hc0')
  have hok : ok = true := hc0
  have hR1 : R = putP l ⟨1, v, ⟨#[]⟩⟩ q ops := hR1.trans (by rw [if_pos hok])
  refine sr_ ?_
  refine om_ ?_
  refine os_ (lab_ 0 [_, _, _]) ?_
  refine os_ (still_bld (pl := [(0, _), (1, _)]) (ds := [_, _, _, _, _]) rfl Tryd.zeroValue39 Tryd.runUnderlying39 places39_Pa5 ⟨rfl, opd_const, rfl, ot, trivial⟩ rfl rfl) ?_
  refine OD.wk (Wk.drop _ _ _ (⟨br, 70, 3, [.list 3 (l.flatMap cT) l.length, .v (.int .i64 ((q : Nat) : Int)), .v (.slice ad ops.length cap)]⟩ :: So) (List.Sublist.cons _ (List.Sublist.refl _))) ?_
  refine OD.callX wp_ rfl rfl rfl Tryd.call91 (put_vx l hl ⟨1, v, ⟨#[]⟩⟩ q (hlb hok) (Nat.le_trans hla (by omega)) ops h40 ad cap br So ho) ⟨ot, ot, trivial⟩ (perm_all _) (fun ch hch => (Or.inr ⟨ch, rfl, by obtain ⟨q, e, h1, h2⟩ := hch; exact ⟨q, e, hR1.trans h1, h2⟩⟩ : BodyX _ _ _ _ _ _)) ?_
  rintro _ _ ⟨o2, hr2, hq2, ad2, cap2, So2, ho2, rfl⟩
  refine OD.perm (S' := ⟨br, 70, 3, [.list 3 (l.flatMap cT) l.length, .v (.int .i64 ((q : Nat) : Int)), .v (.slice ad2 o2.length cap2)]⟩ :: So2) (perm_all _).symm ?_
  have hR2 : R = .ok () q o2 := hR1.trans hr2
  refine OD.wk (Wk.as_ (n := 27) (l' := []) (S' := (⟨br, 70, 3, [_, _, _]⟩ :: So2)) rfl rfl trivial) ?_
  refine OD.nil ?_
  refine CD.ret ?_
  refine Or.inl ?_
  refine ⟨.inr rfl, _, ⟨br, 70, 3, [.list 3 (l.flatMap cT) l.length, .v (.int .i64 ((q : Nat) : Int)), .v (.slice ad2 o2.length cap2)]⟩ :: So2, su_, ret_none Tryd.results116 , ?_⟩
  exact ⟨q, o2, hR2, hq2, (hlb hok), hla, ad2, cap2, So2, ho2, rfl⟩
 have hc0' := hc0
 (try simp only [V.cnd, ne_eq] at hc0')
 have hnok : ok = false := hc0
 have hR3 : R = (if isQ l q 4 ⟨#[40]⟩ = true then (exP l n .or (q + 1) ops).bind fun _ p ops => markP l ⟨#[41]⟩ p ops else (nameP l q ops).bind fun s p ops => putP l ⟨2, noVl, s⟩ p ops) := hR1.trans (by rw [if_neg (F_ hnok)])
 refine CD.wk (Wk.drop _ _ _ (⟨br, 70, 3, [.list 3 (l.flatMap cT) l.length, .v (.int .i64 ((q : Nat) : Int)), .v (.slice ad ops.length cap)]⟩ :: So) (List.Sublist.cons _ (List.Sublist.refl _))) ?_
 refine CD.skip ?_
 refine CD.seq ?_
 refine sr_ ?_
 refine om_ ?_
 refine OD.call wp_ rfl rfl rfl Tryd.call43 (eat_vc l hl q 4 ⟨#[40]⟩ ad ops.length cap br) ⟨ot, opd_const, opd_const, trivial⟩ (List.Perm.refl _) ?_
 rintro _ _ ⟨rfl, rfl⟩
 refine OD.perm (S' := ⟨br, 70, 3, [.list 3 (l.flatMap cT) l.length, .v (.int .i64 (((if isQ l q 4 ⟨#[40]⟩ = true then q + 1 else q) : Nat) : Int)), .v (.slice ad ops.length cap)]⟩ :: So) (List.Perm.refl _) ?_
 refine OD.wk (Wk.as_ (n := 27) (l' := [(0, _), (16, _)]) (S' := (⟨br, 70, 3, [_, _, _]⟩ :: So)) rfl rfl sl_) ?_
 refine OD.nil ?_
 refine CD.cond ot (fun hc1 => ?_) (fun hc1 => ?_)
 ·have hc1' := hc1
  (try simp only [V.cnd, ne_eq] at hc1')
  have et : isQ l q 4 ⟨#[40]⟩ = true := hc1
  rw [et]
  simp only [if_true]
  have hR4 : R = (exP l n .or (q + 1) ops).bind (fun _ p ops => markP l ⟨#[41]⟩ p ops) := hR3.trans (by rw [if_pos et])
  refine sr_ ?_
  refine om_ ?_
  have hs5 : exP l n .or (q + 1) ops ≠ .stuck := bind_ns (f := fun _ p ops => markP l ⟨#[41]⟩ p ops) (by rw [hR4] at hns; exact hns)
  refine OD.callX wp_ rfl rfl rfl Tryd.call77 ((ih _ (by omega)).or (q + 1) ops (isQ_lt et) h40 hs5 ad cap So ho) ⟨ot, trivial⟩ (perm_all _) (fun ch hch => (Or.inr ⟨ch, rfl, by obtain ⟨q, e, h1, h2⟩ := hch; exact ⟨q, e, hR4.trans (by rw [h1]; rfl), h2⟩⟩ : BodyX _ _ _ _ _ _)) ?_
  rintro _ _ ⟨p5, o5, hr5, hq5, h05, hp5, ad5, cap5, So5, ho5, rfl⟩
  refine OD.perm (S' := ⟨br, 70, 3, [.list 3 (l.flatMap cT) l.length, .v (.int .i64 ((p5 : Nat) : Int)), .v (.slice ad5 o5.length cap5)]⟩ :: So5) (perm_all _).symm ?_
  have hR5 : R = markP l ⟨#[41]⟩ p5 o5 := hR4.trans (by rw [hr5]; rfl)
  refine OD.wk (Wk.as_ (n := 27) (l' := [(0, _)]) (S' := (⟨br, 70, 3, [_, _, _]⟩ :: So5)) rfl rfl sl_) ?_
  refine OD.nil ?_
  refine sr_ ?_
  refine om_ ?_
  refine OD.callX wp_ rfl rfl rfl Tryd.call49 (mark_vx l hl p5 ⟨#[41]⟩ ad5 o5.length cap5 br) ⟨ot, opd_const, trivial⟩ (List.Perm.refl _) (fun ch hch => (Or.inr ⟨ch, rfl, ⟨_, _, hR5.trans (mark_no hch.1 _), hch.2⟩⟩ : BodyX _ _ _ _ _ _)) ?_
  rintro _ _ ⟨hm6, rfl⟩
  refine OD.perm (S' := ⟨br, 70, 3, [.list 3 (l.flatMap cT) l.length, .v (.int .i64 (((p5 + 1) : Nat) : Int)), .v (.slice ad5 o5.length cap5)]⟩ :: So5) (List.Perm.refl _) ?_
  have hR6 : R = .ok () (p5 + 1) o5 := hR5.trans (mark_yes hm6 _)
  refine OD.wk (Wk.as_ (n := 27) (l' := []) (S' := (⟨br, 70, 3, [_, _, _]⟩ :: So5)) rfl rfl trivial) ?_
  refine OD.nil ?_
  refine CD.ret ?_
  refine Or.inl ?_
  refine ⟨.inr rfl, _, ⟨br, 70, 3, [.list 3 (l.flatMap cT) l.length, .v (.int .i64 (((p5 + 1) : Nat) : Int)), .v (.slice ad5 o5.length cap5)]⟩ :: So5, su_, ret_none Tryd.results116 , ?_⟩
  exact ⟨(p5 + 1), o5, hR6, hq5, (Nat.succ_pos _), (isQ_lt hm6), ad5, cap5, So5, ho5, rfl⟩
 have hc1' := hc1
 (try simp only [V.cnd, ne_eq] at hc1')
 have ef : isQ l q 4 ⟨#[40]⟩ = false := hc1
 rw [ef]
 simp only [Bool.false_eq_true, if_false]
 have hR7 : R = (nameP l q ops).bind (fun s p ops => putP l ⟨2, noVl, s⟩ p ops) := hR3.trans (by rw [if_neg (F_ ef)])
 refine CD.skip ?_
 refine sr_ ?_
 refine om_ ?_
 refine OD.callX wp_ rfl rfl rfl Tryd.call45 (name_vx hm hw l hl ht q ad ops.length cap br) ⟨ot, trivial⟩ (List.Perm.refl _) (fun ch hch => (Or.inr ⟨ch, rfl, by obtain ⟨q, e, h1, h2⟩ := hch; exact ⟨q, e, hR7.trans (by rw [h1]; rfl), h2⟩⟩ : BodyX _ _ _ _ _ _)) ?_
 rintro _ _ ⟨s, hnm, rfl, rfl⟩
 refine OD.perm (S' := ⟨br, 70, 3, [.list 3 (l.flatMap cT) l.length, .v (.int .i64 (((q + 1) : Nat) : Int)), .v (.slice ad ops.length cap)]⟩ :: So) (List.Perm.refl _) ?_
 have hR8 : R = putP l ⟨2, noVl, s⟩ (q + 1) ops := hR7.trans (by rw [hnm]; rfl)
 have hlt := (name_le (hnm [])).2.2
 refine om_ ?_
 refine OD.wk (Wk.as_ (n := 27) (l' := [(0, _), (4, _)]) (S' := (⟨br, 70, 3, [_, _, _]⟩ :: So)) rfl rfl sl_) ?_
 refine OD.nil ?_
 refine CD.region ?_
 refine om_ ?_
 refine om_ ?_
 refine os_ (still_bld (pl := [(0, _), (2, _)]) (ds := [_, _, _, _, _]) rfl Tryd.zeroValue39 Tryd.runUnderlying39 places39_Pa5 ⟨rfl, opd_const, rfl, ot, trivial⟩ rfl rfl) ?_
 refine OD.callX wp_ rfl rfl rfl Tryd.call91 (put_vx l hl ⟨2, noVl, s⟩ (q + 1) (Nat.succ_pos _) (Nat.le_trans hlt (by omega)) ops h40 ad cap br So ho) ⟨ot, ot, trivial⟩ (perm_all _) (fun ch hch => (Or.inr ⟨ch, rfl, by obtain ⟨q, e, h1, h2⟩ := hch; exact ⟨q, e, hR8.trans h1, h2⟩⟩ : BodyX _ _ _ _ _ _)) ?_
 rintro _ _ ⟨o9, hr9, hq9, ad9, cap9, So9, ho9, rfl⟩
 refine OD.perm (S' := ⟨br, 70, 3, [.list 3 (l.flatMap cT) l.length, .v (.int .i64 (((q + 1) : Nat) : Int)), .v (.slice ad9 o9.length cap9)]⟩ :: So9) (perm_all _).symm ?_
 have hR9 : R = .ok () (q + 1) o9 := hR8.trans hr9
 refine OD.wk (Wk.as_ (n := 27) (l' := []) (S' := (⟨br, 70, 3, [_, _, _]⟩ :: So9)) rfl rfl trivial) ?_
 refine OD.nil ?_
 refine Or.inl ?_
 refine ⟨.inl rfl, _, ⟨br, 70, 3, [.list 3 (l.flatMap cT) l.length, .v (.int .i64 (((q + 1) : Nat) : Int)), .v (.slice ad9 o9.length cap9)]⟩ :: So9, su_, ret_none Tryd.results116 , ?_⟩
 exact ⟨(q + 1), o9, hR9, hq9, (Nat.succ_pos _), hlt, ad9, cap9, So9, ho9, rfl⟩

end Go.Proofs.YtjgekbmahhhokaaDoor.Pa

namespace Go.Proofs.YtjgekbmahhhokaaDoor.Pa
open Go.RowKit V Pk Go.Proofs.YtjgekbmahhhokaaDoor.Vl Go.Proofs.YtjgekbmahhhokaaDoor.Nm
set_option linter.unusedVariables false
set_option linter.unusedSimpArgs false

variable {G : List (Nat × List Value)}
theorem take_flat {α : Type} {ls : List (List α)} {j : Nat} (h : j < ls.length) : (ls.take (j + 1)).flatten = (ls.take j).flatten ++ ls[j] := by
 rw [List.take_succ_eq_append_getElem h, List.flatten_append, List.flatten_cons, List.flatten_nil, List.append_nil]
theorem take_flat_len {α : Type} {ls : List (List α)} {j : Nat} (h : j < ls.length) : ((ls.take (j + 1)).flatten).length = ((ls.take j).flatten).length + ls[j].length := by rw [take_flat h, List.length_append]
theorem take_flat_le {α : Type} (ls : List (List α)) (j : Nat) : ((ls.take j).flatten).length ≤ ls.flatten.length := by
 conv => rhs; rw [← List.take_append_drop j ls, List.flatten_append, List.length_append]
 omega
theorem ownL_zero {e sz b cap : Nat} (h : cap ≤ maxLen) : OwnL e sz [] 0 (some ⟨b, 0, none⟩) cap [⟨b, e, cap * sz, []⟩] := .inr ⟨b, rfl, Nat.zero_le _, h, rfl⟩

def cOL (q : List OpL) : List D := [.list 5 (q.flatMap cO) q.length]
theorem info39_Pa6 : (Tryd.prog.info? 39).map (fun i => (i.zero, i.size, i.bytes)) = some (some (.agg #[.int .i64 0, .int .i64 0, .int .i64 0, .string ⟨#[]⟩, .string ⟨#[]⟩]), 5, 56) := by kernel_rfl

set_option maxHeartbeats 4000000 in
set_option maxRecDepth 100000 in
theorem growcO_vc (n : Nat) (h0 : 0 < n) (hn : n ≤ 100000) : VC Tryd.prog G 117 [.v (.slice none 0 0), .v (.int .i64 (n : Nat))] [] (fun r S => ∃ b cap, cap ≤ maxLen ∧ r = .v (.slice (some ⟨b, 0, none⟩) 0 cap) ∧ S = [⟨b, 39, cap * 5, []⟩]) := by
 refine VC.body Tryd.func117 rfl Tryd.ntmps117 le_ fun X0 w0 S00 => ?_
 refine sr_ ?_
 refine om_ ?_
 refine nm_ [0, 1] ?_
 refine CD.seq ?_
 refine sr_ ?_
 refine om_ ?_
 refine os_ bn_ ?_
 refine nm_ [0, 1, 6] ?_
 refine CD.cond ot (fun hc0 => ?_) (fun hc0 => ?_)
 ·exact absurd hc0 (by simp at hc0; omega)
 have hc0' := hc0
 (try simp only [V.cnd, ne_eq] at hc0')
 refine CD.skip ?_
 refine CD.seq ?_
 refine sr_ ?_
 refine om_ ?_
 refine om_ ?_
 refine os_ (still_cap rfl rfl ot Tryd.runUnderlying30) ?_
 refine om_ ?_
 refine os_ (still_r1 (mk := fun y => .call { callee := .builtin .len, args := #[y], argTypes := #[30] }) rfl ot (len_row rfl Tryd.runUnderlying30)) ?_
 refine os_ bn_ ?_
 refine os_ bn_ ?_
 refine om_ ?_
 refine on_ [(0, _), (1, _)] [] ?_
 refine sr_ ?_
 refine om_ ?_
 refine os_ bn_ ?_
 refine nm_ [0, 1, 16] ?_
 refine CD.cond ot (fun hc1 => ?_) (fun hc1 => ?_)
 ·have hc1' := hc1
  (try simp only [V.cnd, ne_eq] at hc1')
  refine CD.region ?_
  refine om_ ?_
  refine om_ ?_
  refine os_ (still_cap rfl rfl ot Tryd.runUnderlying30) ?_
  refine os_ (still_nslice rfl ot rfl ⟨_, _, ot, rfl⟩ Tryd.runUnderlying30 Tryd.sizeOf39) ?_
  refine om_ ?_
  refine OD.appendZ0 (m := n) (sz := 5) wp_ rfl rfl Tryd.underlying30 Tryd.underlying3 info39_Pa6 rfl (by decide) ot (Eq.trans ot (congrArg (fun z => D.v (.int .i64 z)) (show ((n : Nat) : Int) - (0 - 0) = ((n : Nat) : Int) by omega))) h0 (by simp only [maxLen]; omega) (by omega) (fun b cap h1 h2 => ?_)
  refine om_ ?_
  refine os_ (still_r1 (mk := fun y => .call { callee := .builtin .len, args := #[y], argTypes := #[30] }) rfl ot (len_row rfl Tryd.runUnderlying30)) ?_
  refine os_ (still_rs (l := 0) (h := 0) rfl ot trivial ⟨_, ot⟩ (by first | exact sl_row (fun h => by cases h) Tryd.runUnderlying30 Tryd.sizeOf39 (by omega) | exact sl_list (fun _ => rfl) (fun h => by cases h) Tryd.runUnderlying30 Tryd.sizeOf39 (by omega) (by omega))) ?_
  refine om_ ?_
  refine on_ [(0, _)] [_] ?_
  refine sr_ ?_
  refine om_ ?_
  refine om_ ?_
  refine nm_ [4] ?_
  refine CD.ret ?_
  refine ⟨.inr rfl, _, [⟨b, 39, cap * 5, []⟩], List.Sublist.refl _, ret_one Tryd.results117 (res_tmp le_ lk), ?_⟩
  exact ⟨b, cap, h2, rfl, rfl⟩
 exact absurd hc1 (by simp at hc1; omega)

set_option maxHeartbeats 4000000 in
set_option maxRecDepth 100000 in
theorem concatcO_vc (ls : List (List OpL)) (hls : ls.length ≤ 1000) (h0 : 0 < ls.flatten.length) (hn : ls.flatten.length ≤ 100000) : VC Tryd.prog G 111 [.list 1 (ls.flatMap cOL) ls.length] [] (fun r S => ∃ ad cap, r = .v (.slice ad ls.flatten.length cap) ∧ OwnL 39 5 (ls.flatten.flatMap cO) ls.flatten.length ad cap S) := by
 refine VC.body Tryd.func111 rfl Tryd.ntmps111 le_ fun X0 w0 S00 => ?_
 refine sr_ ?_
 refine om_ ?_
 refine nm_ [0] ?_
 refine sr_ ?_
 refine om_ ?_
 refine nm_ [0, 3] ?_
 refine CD.seq ?_
 refine sr_ ?_
 refine om_ ?_
 refine os_ ln_ ?_
 refine om_ ?_
 refine nm_ [0, 3, 9, 10, 11] ?_
 refine CD.block ?_
 refine lp_ (fun (j : Nat) y__ => (j ≤ ls.length) ∧ y__ = (⟨36, [(0, .list 1 (ls.flatMap cOL) ls.length), (3, .v (.int .i64 ((((ls.take j).flatten).length : Nat) : Int))), (9, .list 1 (ls.flatMap cOL) ls.length), (10, .v (.int .i64 (ls.length : Nat))), (11, .v (.int .i64 (j : Nat)))], []⟩ : St)) (fun (j : Nat) => ls.length - j) 0 ⟨(Nat.zero_le _), rfl⟩ (Wk.asS rfl sv_ (by repeat (first | exact trivial | refine ⟨(by (repeat (first | exact look_hit | (apply look_at; focus (first | rfl | (congr 2; omega) | (simp; done))) | (apply look_miss; focus rfl))); done), ?_⟩))) ?_
 rintro j _ ⟨hj, rfl⟩
 refine sr_ ?_
 refine os_ bn_ ?_
 refine nm_ [0, 3, 9, 10, 11, 12] ?_
 refine CD.seq ?_
 refine CD.cond ot (fun hc0 => ?_) (fun hc0 => ?_)
 ·have hc0' := hc0
  (try simp only [V.cnd, ne_eq] at hc0')
  have hlt : j < ls.length := by simp at hc0; omega
  have hsum := take_flat_len hlt
  have hle := take_flat_le ls (j + 1)
  refine CD.skip ?_
  refine CD.seq ?_
  refine CD.block ?_
  refine sr_ ?_
  refine os_ (ix_ 1 (h := by first | exact .l (j := j) rfl hlt | exact .r (j := j) rfl hlt)) ?_
  refine os_ ld_ ?_
  refine om_ ?_
  refine nm_ [0, 3, 5, 9, 10, 11] ?_
  refine sr_ ?_
  refine om_ ?_
  refine om_ ?_
  refine os_ ln_ ?_
  refine os_ (still_bin (r := .int .i64 ((((ls.take (j + 1)).flatten).length : Nat) : Int)) rfl ot ot (bin_add (by rw [show ((((ls.take j).flatten).length : Nat) : Int) + (ls[j].length : Nat) = ((((ls.take (j + 1)).flatten).length : Nat) : Int) by omega]; exact wrap_i64 (by omega) (by omega)))) ?_
  refine om_ ?_
  refine on_ [(0, _), (3, _), (9, _), (10, _), (11, _)] [] ?_
  refine sr_ ?_
  refine om_ ?_
  refine os_ bn_ ?_
  refine nm_ [0, 3, 9, 10, 11, 20] ?_
  refine CD.cond ot (fun hc1 => ?_) (fun hc1 => ?_)
  ·exact absurd hc1 (by simp at hc1; omega)
  have hc1' := hc1
  (try simp only [V.cnd, ne_eq] at hc1')
  refine CD.skip ?_
  refine CD.region ?_
  refine os_ bn_ ?_
  refine om_ ?_
  refine nm_ [0, 3, 9, 10, 11] ?_
  refine ⟨(j + 1), _, ?_, ?_, (by omega), rfl⟩
  ·first | omega | (simp only []; omega)
  exact Wk.asS (n := 36) rfl sv_ (by repeat (first | exact trivial | refine ⟨(by (repeat (first | exact look_hit | (apply look_at; focus (first | rfl | (congr 2; omega) | (simp; done))) | (apply look_miss; focus rfl))); done), ?_⟩))
 have hc0' := hc0
 (try simp only [V.cnd, ne_eq] at hc0')
 obtain rfl : j = ls.length := by simp at hc0; omega
 rw [List.take_length]
 refine CD.exit ?_
 refine sr_ ?_
 refine om_ ?_
 refine OD.call wp_ rfl rfl rfl Tryd.call117 (growcO_vc ls.flatten.length h0 hn) ⟨opd_const, ot, trivial⟩ (List.Perm.refl _) ?_
 rintro _ _ ⟨b, cp, hcp, rfl, rfl⟩
 refine OD.perm (S' := [⟨b, 39, cp * 5, []⟩]) (List.Perm.refl _) ?_
 refine om_ ?_
 refine OD.wk (Wk.as_ (n := 36) (l' := [(0, _), (6, _)]) (S' := ([⟨b, 39, cp * 5, []⟩])) rfl rfl sl_) ?_
 refine OD.nil ?_
 refine CD.seq ?_
 refine sr_ ?_
 refine om_ ?_
 refine os_ ln_ ?_
 refine om_ ?_
 refine nm_ [6, 25, 26, 27] ?_
 refine CD.block ?_
 refine lp_ (fun (gh__ : Nat × Option Addr × Nat × List Blk) y__ => match gh__ with | (j, adx, cpx, Sx) => (j ≤ ls.length) ∧ (OwnL 39 5 (((ls.take j).flatten).flatMap cO) ((ls.take j).flatten).length adx cpx Sx) ∧ y__ = (⟨36, [(6, .v (.slice adx ((ls.take j).flatten).length cpx)), (25, .list 1 (ls.flatMap cOL) ls.length), (26, .v (.int .i64 (ls.length : Nat))), (27, .v (.int .i64 (j : Nat)))], (Sx)⟩ : St)) (fun (gh__ : Nat × Option Addr × Nat × List Blk) => match gh__ with | (j, adx, cpx, Sx) => ls.length - j) (0, (some ⟨b, 0, none⟩), cp, [⟨b, 39, cp * 5, []⟩]) ⟨(Nat.zero_le _), (OwnL.cast (ownL_zero hcp) (by rfl)), rfl⟩ (Wk.asS rfl su_ (by repeat (first | exact trivial | refine ⟨(by (repeat (first | exact look_hit | (apply look_at; focus (first | rfl | (simp; done) | (congr 2; omega) | (apply row_eq; rw [take_flat hlt]) | (apply row_eq; rfl) | (apply row_eq; simp; done))) | (apply look_miss; focus rfl))); done), ?_⟩))) ?_
 rintro ⟨j, adx, cpx, Sx⟩ _ ⟨hj, hox, rfl⟩
 refine sr_ ?_
 refine os_ bn_ ?_
 refine nm_ [6, 25, 26, 27, 28] ?_
 refine CD.seq ?_
 refine CD.cond ot (fun hc2 => ?_) (fun hc2 => ?_)
 ·have hc2' := hc2
  (try simp only [V.cnd, ne_eq] at hc2')
  have hlt : j < ls.length := by simp at hc2; omega
  have hsum := take_flat_len hlt
  have hle := take_flat_le ls (j + 1)
  refine CD.skip ?_
  refine CD.seq ?_
  refine CD.block ?_
  refine sr_ ?_
  refine os_ (ix_ 1 (h := by first | exact .l (j := j) rfl hlt | exact .r (j := j) rfl hlt)) ?_
  refine os_ ld_ ?_
  refine om_ ?_
  refine nm_ [6, 8, 25, 26, 27] ?_
  refine CD.region ?_
  refine om_ ?_
  refine om_ ?_
  refine OD.appendAny (ls := ((ls.take j).flatten)) (new := ls[j]) (Sq := Sx) cO_len cO_one wp_ rfl rfl Tryd.underlying30 info39_Pa6 rfl (by decide) Tryd.runUnderlying30 Tryd.sizeOf39 ot hox (perm_r11 (A := [])) ot (by simp only [maxLen]; omega) (by omega) (fun ad33 cp33 S33 ho33 => ?_)
  refine OD.perm (perm_q11 (A := [])) ?_
  refine om_ ?_
  refine OD.wk (Wk.as_ (n := 36) (l' := [(6, _), (25, _), (26, _), (27, _)]) (S' := (S33)) rfl rfl sl_) ?_
  refine OD.nil ?_
  refine CD.region ?_
  refine os_ bn_ ?_
  refine om_ ?_
  refine nm_ [6, 25, 26, 27] ?_
  refine ⟨((j + 1), ad33, cp33, S33), _, ?_, ?_, (by omega), (OwnL.cast ho33 (by rw [take_flat hlt])), rfl⟩
  ·first | omega | (simp only []; omega)
  exact Wk.asS (n := 36) rfl su_ (by repeat (first | exact trivial | refine ⟨(by (repeat (first | exact look_hit | (apply look_at; focus (first | rfl | (simp; done) | (congr 2; omega) | (apply row_eq; rw [take_flat hlt]) | (apply row_eq; rfl) | (apply row_eq; simp; done))) | (apply look_miss; focus rfl))); done), ?_⟩))
 have hc2' := hc2
 (try simp only [V.cnd, ne_eq] at hc2')
 obtain rfl : j = ls.length := by simp at hc2; omega
 refine CD.exit ?_
 refine sr_ ?_
 refine om_ ?_
 refine om_ ?_
 refine nm_ [2] ?_
 refine CD.ret ?_
 refine ⟨.inr rfl, _, Sx, List.Sublist.refl _, ret_one Tryd.results111 (res_tmp le_ lk), ?_⟩
 have hox' := hox
 rw [List.take_length] at hox'
 exact ⟨adx, cpx, by rw [List.take_length], hox'⟩

theorem swap_len {ops : List OpL} {fr mid : Nat} (h1 : fr ≤ mid) (h2 : mid ≤ ops.length) : (swapP ops fr mid).length = ops.length := by
 unfold swapP; simp only [List.length_append, List.length_take, List.length_drop]; omega
theorem swap_flat (ops : List OpL) (fr mid : Nat) : [ops.take fr, ops.drop mid, (ops.take mid).drop fr].flatten = swapP ops fr mid := by
 unfold swapP; simp

set_option maxHeartbeats 4000000 in
set_option maxRecDepth 100000 in
theorem swap_vc (l : List Tk) (p : Nat) (ops : List OpL) (fr mid : Nat) (h1 : fr ≤ mid) (h2 : mid ≤ ops.length) (h0 : 0 < ops.length) (h40 : ops.length ≤ 40) (ad : Option Addr) (cap br : Nat) (So : List Blk) (ho : OwnO ops ad cap So) : VC Tryd.prog G 108 [.v (.pointer (some ⟨br, 0, none⟩)), .v (.int .i64 (fr : Nat)), .v (.int .i64 (mid : Nat))] (⟨br, 70, 3, [.list 3 (l.flatMap cT) l.length, .v (.int .i64 ((p : Nat) : Int)), .v (.slice ad ops.length cap)]⟩ :: So) (fun r S' => ∃ ad' cap' So', OwnO (swapP ops fr mid) ad' cap' So' ∧ S' = ⟨br, 70, 3, [.list 3 (l.flatMap cT) l.length, .v (.int .i64 ((p : Nat) : Int)), .v (.slice ad' (swapP ops fr mid).length cap')]⟩ :: So') := by
 refine VC.body Tryd.func108 rfl Tryd.ntmps108 le_ fun X0 w0 S00 => ?_
 have hcc := concatcO_vc (G := G) [ops.take fr, ops.drop mid, (ops.take mid).drop fr] (by show 3 ≤ 1000; decide) (by rw [swap_flat, swap_len h1 h2]; exact h0) (by rw [swap_flat, swap_len h1 h2]; omega)
 rw [swap_flat] at hcc
 refine CD.wk (Wk.cover (A := ⟨br, 70, 3, [.list 3 (l.flatMap cT) l.length, .v (.int .i64 ((p : Nat) : Int)), .v (.slice ad ops.length cap)]⟩) (R := []) (Sd := So) (cs' := [.list 3 (l.flatMap cT) l.length, .v (.int .i64 ((p : Nat) : Int)), .list 5 (ops.flatMap cO) ops.length]) (List.Perm.refl _) ⟨view_same, view_same, view_own ho (fm_len cO_len _) (fun _ h => h), trivial⟩) ?_
 refine CD.draw (bks (List.drop 1 _)) kr_ (fun _ h => (List.Sublist.map _ (List.drop_sublist _ _)).subset h) ?_
 refine a0_ 0 rfl mv_ ?_
 refine a0_ 1 rfl mv_ ?_
 refine a0_ 2 rfl nc_ ?_
 refine a0_ 3 rfl (fa_ 2) ?_
 refine a0_ 5 rfl mv_ ?_
 refine a0_ 7 rfl mv_ ?_
 refine a0_ 8 rfl nc_ ?_
 refine a0_ 9 rfl (fa_ 2) ?_
 refine a0_ 11 rfl mv_ ?_
 refine a0_ 13 rfl mv_ ?_
 refine a0_ 14 rfl nc_ ?_
 refine a0_ 15 rfl (fa_ 2) ?_
 refine a0_ 17 rfl mv_ ?_
 refine a0_ 18 rfl mv_ ?_
 refine AD0.later rfl ?_
 refine AD.three (i := 4) (j := 10) (k := 16) kr_ ?_ ?_ ?_
 ·skip
  refine at_ rfl (lb_ 0) ?_
  refine a1_ 6 rfl (still_rs (l := 0) (h := fr) rfl ot trivial ⟨_, ot⟩ (by exact sl_head cO_len (fun h => by cases h) Tryd.runUnderlying30 Tryd.sizeOf39 (by omega))) ?_
  refine AD.two (i := 10) (j := 16) kr_ ?_ ?_
  ·skip
   refine at_ rfl (lb_ 0) ?_
   refine a1_ 12 rfl (still_rs (l := mid) (h := ops.length) rfl ot ⟨_, ot⟩ trivial (by exact sl_tail rfl cO_len (fun h => by cases h) Tryd.runUnderlying30 Tryd.sizeOf39 (by omega))) ?_
   refine AD.one (i := 16) kr_ ?_
   refine at_ rfl (lb_ 0) ?_
   refine a1_ 19 rfl (still_rs (l := fr) (h := mid) rfl ot ⟨_, ot⟩ ⟨_, ot⟩ (by exact sl_list (fun h => by cases h) (fun h => by cases h) Tryd.runUnderlying30 Tryd.sizeOf39 (by omega) (by omega))) ?_
   refine AD.one (i := 20) kr_ ?_
   refine ab_ (numD 0 [_, _, _]) [.slice none 0 0, .slice none 0 0, .slice none 0 0] [_, _, _] Tryd.zeroValue30 Tryd.runUnderlying159 Tryd.sizeOf30 (fun b26 => ?_)
   refine ag_ 0 26 1 3 ?_
   refine AD.one (i := 21) kr_ ?_
   refine AStep.call rfl wp_ rfl rfl rfl Tryd.call111 hcc ⟨Eq.trans ot (by rw [fm_drop cO_len, fm_take cO_len, show (ops.drop fr).take (mid - fr) = (ops.take mid).drop fr from (List.drop_take).symm, show mid - fr = ((ops.take mid).drop fr).length from by rw [List.length_drop, List.length_take]; omega]; rfl), trivial⟩ (List.Perm.refl _) (by intro b hb; cases hb) ?_
   rintro _ S27 ⟨ad27, cap27, rfl, ho27⟩
   refine AD.perm (S' := ⟨br, 70, 3, [.list 3 (l.flatMap cT) l.length, .v (.int .i64 ((p : Nat) : Int)), .list 5 (ops.flatMap cO) ops.length]⟩ :: S27) (List.perm_append_comm) ?_
   refine a1_ 22 rfl nc_ ?_
   refine a1_ 23 rfl (fa_ 2) ?_
   refine AD.one (i := 24) kr_ ?_
   refine as_ 0 [_, _, _] Tryd.sizeOf30 ?_
   refine AD.wk (y := ⟨30, [], (⟨br, 70, 3, [_, _, _]⟩ :: S27)⟩) (Wk.as_ rfl rfl trivial) rfl ?_
   refine AD.done kr_ ?_
   refine ⟨.inl rfl, _, ⟨br, 70, 3, [.list 3 (l.flatMap cT) l.length, .v (.int .i64 ((p : Nat) : Int)), .v (.slice ad27 (swapP ops fr mid).length cap27)]⟩ :: S27, List.Sublist.refl _, ret_none Tryd.results108 , ?_⟩
   exact ⟨ad27, cap27, S27, ho27, rfl⟩
  refine at_ rfl (lb_ 0) ?_
  refine a1_ 19 rfl (still_rs (l := fr) (h := mid) rfl ot ⟨_, ot⟩ ⟨_, ot⟩ (by exact sl_list (fun h => by cases h) (fun h => by cases h) Tryd.runUnderlying30 Tryd.sizeOf39 (by omega) (by omega))) ?_
  refine AD.one (i := 10) kr_ ?_
  refine at_ rfl (lb_ 0) ?_
  refine a1_ 12 rfl (still_rs (l := mid) (h := ops.length) rfl ot ⟨_, ot⟩ trivial (by exact sl_tail rfl cO_len (fun h => by cases h) Tryd.runUnderlying30 Tryd.sizeOf39 (by omega))) ?_
  refine AD.one (i := 20) kr_ ?_
  refine ab_ (numD 0 [_, _, _]) [.slice none 0 0, .slice none 0 0, .slice none 0 0] [_, _, _] Tryd.zeroValue30 Tryd.runUnderlying159 Tryd.sizeOf30 (fun b26 => ?_)
  refine ag_ 0 26 1 3 ?_
  refine AD.one (i := 21) kr_ ?_
  refine AStep.call rfl wp_ rfl rfl rfl Tryd.call111 hcc ⟨Eq.trans ot (by rw [fm_drop cO_len, fm_take cO_len, show (ops.drop fr).take (mid - fr) = (ops.take mid).drop fr from (List.drop_take).symm, show mid - fr = ((ops.take mid).drop fr).length from by rw [List.length_drop, List.length_take]; omega]; rfl), trivial⟩ (List.Perm.refl _) (by intro b hb; cases hb) ?_
  rintro _ S27 ⟨ad27, cap27, rfl, ho27⟩
  refine AD.perm (S' := ⟨br, 70, 3, [.list 3 (l.flatMap cT) l.length, .v (.int .i64 ((p : Nat) : Int)), .list 5 (ops.flatMap cO) ops.length]⟩ :: S27) (List.perm_append_comm) ?_
  refine a1_ 22 rfl nc_ ?_
  refine a1_ 23 rfl (fa_ 2) ?_
  refine AD.one (i := 24) kr_ ?_
  refine as_ 0 [_, _, _] Tryd.sizeOf30 ?_
  refine AD.wk (y := ⟨30, [], (⟨br, 70, 3, [_, _, _]⟩ :: S27)⟩) (Wk.as_ rfl rfl trivial) rfl ?_
  refine AD.done kr_ ?_
  refine ⟨.inl rfl, _, ⟨br, 70, 3, [.list 3 (l.flatMap cT) l.length, .v (.int .i64 ((p : Nat) : Int)), .v (.slice ad27 (swapP ops fr mid).length cap27)]⟩ :: S27, List.Sublist.refl _, ret_none Tryd.results108 , ?_⟩
  exact ⟨ad27, cap27, S27, ho27, rfl⟩
 ·skip
  refine at_ rfl (lb_ 0) ?_
  refine a1_ 12 rfl (still_rs (l := mid) (h := ops.length) rfl ot ⟨_, ot⟩ trivial (by exact sl_tail rfl cO_len (fun h => by cases h) Tryd.runUnderlying30 Tryd.sizeOf39 (by omega))) ?_
  refine AD.two (i := 4) (j := 16) kr_ ?_ ?_
  ·skip
   refine at_ rfl (lb_ 0) ?_
   refine a1_ 6 rfl (still_rs (l := 0) (h := fr) rfl ot trivial ⟨_, ot⟩ (by exact sl_head cO_len (fun h => by cases h) Tryd.runUnderlying30 Tryd.sizeOf39 (by omega))) ?_
   refine AD.one (i := 16) kr_ ?_
   refine at_ rfl (lb_ 0) ?_
   refine a1_ 19 rfl (still_rs (l := fr) (h := mid) rfl ot ⟨_, ot⟩ ⟨_, ot⟩ (by exact sl_list (fun h => by cases h) (fun h => by cases h) Tryd.runUnderlying30 Tryd.sizeOf39 (by omega) (by omega))) ?_
   refine AD.one (i := 20) kr_ ?_
   refine ab_ (numD 0 [_, _, _]) [.slice none 0 0, .slice none 0 0, .slice none 0 0] [_, _, _] Tryd.zeroValue30 Tryd.runUnderlying159 Tryd.sizeOf30 (fun b26 => ?_)
   refine ag_ 0 26 1 3 ?_
   refine AD.one (i := 21) kr_ ?_
   refine AStep.call rfl wp_ rfl rfl rfl Tryd.call111 hcc ⟨Eq.trans ot (by rw [fm_drop cO_len, fm_take cO_len, show (ops.drop fr).take (mid - fr) = (ops.take mid).drop fr from (List.drop_take).symm, show mid - fr = ((ops.take mid).drop fr).length from by rw [List.length_drop, List.length_take]; omega]; rfl), trivial⟩ (List.Perm.refl _) (by intro b hb; cases hb) ?_
   rintro _ S27 ⟨ad27, cap27, rfl, ho27⟩
   refine AD.perm (S' := ⟨br, 70, 3, [.list 3 (l.flatMap cT) l.length, .v (.int .i64 ((p : Nat) : Int)), .list 5 (ops.flatMap cO) ops.length]⟩ :: S27) (List.perm_append_comm) ?_
   refine a1_ 22 rfl nc_ ?_
   refine a1_ 23 rfl (fa_ 2) ?_
   refine AD.one (i := 24) kr_ ?_
   refine as_ 0 [_, _, _] Tryd.sizeOf30 ?_
   refine AD.wk (y := ⟨30, [], (⟨br, 70, 3, [_, _, _]⟩ :: S27)⟩) (Wk.as_ rfl rfl trivial) rfl ?_
   refine AD.done kr_ ?_
   refine ⟨.inl rfl, _, ⟨br, 70, 3, [.list 3 (l.flatMap cT) l.length, .v (.int .i64 ((p : Nat) : Int)), .v (.slice ad27 (swapP ops fr mid).length cap27)]⟩ :: S27, List.Sublist.refl _, ret_none Tryd.results108 , ?_⟩
   exact ⟨ad27, cap27, S27, ho27, rfl⟩
  refine at_ rfl (lb_ 0) ?_
  refine a1_ 19 rfl (still_rs (l := fr) (h := mid) rfl ot ⟨_, ot⟩ ⟨_, ot⟩ (by exact sl_list (fun h => by cases h) (fun h => by cases h) Tryd.runUnderlying30 Tryd.sizeOf39 (by omega) (by omega))) ?_
  refine AD.one (i := 4) kr_ ?_
  refine at_ rfl (lb_ 0) ?_
  refine a1_ 6 rfl (still_rs (l := 0) (h := fr) rfl ot trivial ⟨_, ot⟩ (by exact sl_head cO_len (fun h => by cases h) Tryd.runUnderlying30 Tryd.sizeOf39 (by omega))) ?_
  refine AD.one (i := 20) kr_ ?_
  refine ab_ (numD 0 [_, _, _]) [.slice none 0 0, .slice none 0 0, .slice none 0 0] [_, _, _] Tryd.zeroValue30 Tryd.runUnderlying159 Tryd.sizeOf30 (fun b26 => ?_)
  refine ag_ 0 26 1 3 ?_
  refine AD.one (i := 21) kr_ ?_
  refine AStep.call rfl wp_ rfl rfl rfl Tryd.call111 hcc ⟨Eq.trans ot (by rw [fm_drop cO_len, fm_take cO_len, show (ops.drop fr).take (mid - fr) = (ops.take mid).drop fr from (List.drop_take).symm, show mid - fr = ((ops.take mid).drop fr).length from by rw [List.length_drop, List.length_take]; omega]; rfl), trivial⟩ (List.Perm.refl _) (by intro b hb; cases hb) ?_
  rintro _ S27 ⟨ad27, cap27, rfl, ho27⟩
  refine AD.perm (S' := ⟨br, 70, 3, [.list 3 (l.flatMap cT) l.length, .v (.int .i64 ((p : Nat) : Int)), .list 5 (ops.flatMap cO) ops.length]⟩ :: S27) (List.perm_append_comm) ?_
  refine a1_ 22 rfl nc_ ?_
  refine a1_ 23 rfl (fa_ 2) ?_
  refine AD.one (i := 24) kr_ ?_
  refine as_ 0 [_, _, _] Tryd.sizeOf30 ?_
  refine AD.wk (y := ⟨30, [], (⟨br, 70, 3, [_, _, _]⟩ :: S27)⟩) (Wk.as_ rfl rfl trivial) rfl ?_
  refine AD.done kr_ ?_
  refine ⟨.inl rfl, _, ⟨br, 70, 3, [.list 3 (l.flatMap cT) l.length, .v (.int .i64 ((p : Nat) : Int)), .v (.slice ad27 (swapP ops fr mid).length cap27)]⟩ :: S27, List.Sublist.refl _, ret_none Tryd.results108 , ?_⟩
  exact ⟨ad27, cap27, S27, ho27, rfl⟩
 refine at_ rfl (lb_ 0) ?_
 refine a1_ 19 rfl (still_rs (l := fr) (h := mid) rfl ot ⟨_, ot⟩ ⟨_, ot⟩ (by exact sl_list (fun h => by cases h) (fun h => by cases h) Tryd.runUnderlying30 Tryd.sizeOf39 (by omega) (by omega))) ?_
 refine AD.two (i := 4) (j := 10) kr_ ?_ ?_
 ·skip
  refine at_ rfl (lb_ 0) ?_
  refine a1_ 6 rfl (still_rs (l := 0) (h := fr) rfl ot trivial ⟨_, ot⟩ (by exact sl_head cO_len (fun h => by cases h) Tryd.runUnderlying30 Tryd.sizeOf39 (by omega))) ?_
  refine AD.one (i := 10) kr_ ?_
  refine at_ rfl (lb_ 0) ?_
  refine a1_ 12 rfl (still_rs (l := mid) (h := ops.length) rfl ot ⟨_, ot⟩ trivial (by exact sl_tail rfl cO_len (fun h => by cases h) Tryd.runUnderlying30 Tryd.sizeOf39 (by omega))) ?_
  refine AD.one (i := 20) kr_ ?_
  refine ab_ (numD 0 [_, _, _]) [.slice none 0 0, .slice none 0 0, .slice none 0 0] [_, _, _] Tryd.zeroValue30 Tryd.runUnderlying159 Tryd.sizeOf30 (fun b26 => ?_)
  refine ag_ 0 26 1 3 ?_
  refine AD.one (i := 21) kr_ ?_
  refine AStep.call rfl wp_ rfl rfl rfl Tryd.call111 hcc ⟨Eq.trans ot (by rw [fm_drop cO_len, fm_take cO_len, show (ops.drop fr).take (mid - fr) = (ops.take mid).drop fr from (List.drop_take).symm, show mid - fr = ((ops.take mid).drop fr).length from by rw [List.length_drop, List.length_take]; omega]; rfl), trivial⟩ (List.Perm.refl _) (by intro b hb; cases hb) ?_
  rintro _ S27 ⟨ad27, cap27, rfl, ho27⟩
  refine AD.perm (S' := ⟨br, 70, 3, [.list 3 (l.flatMap cT) l.length, .v (.int .i64 ((p : Nat) : Int)), .list 5 (ops.flatMap cO) ops.length]⟩ :: S27) (List.perm_append_comm) ?_
  refine a1_ 22 rfl nc_ ?_
  refine a1_ 23 rfl (fa_ 2) ?_
  refine AD.one (i := 24) kr_ ?_
  refine as_ 0 [_, _, _] Tryd.sizeOf30 ?_
  refine AD.wk (y := ⟨30, [], (⟨br, 70, 3, [_, _, _]⟩ :: S27)⟩) (Wk.as_ rfl rfl trivial) rfl ?_
  refine AD.done kr_ ?_
  refine ⟨.inl rfl, _, ⟨br, 70, 3, [.list 3 (l.flatMap cT) l.length, .v (.int .i64 ((p : Nat) : Int)), .v (.slice ad27 (swapP ops fr mid).length cap27)]⟩ :: S27, List.Sublist.refl _, ret_none Tryd.results108 , ?_⟩
  exact ⟨ad27, cap27, S27, ho27, rfl⟩
 refine at_ rfl (lb_ 0) ?_
 refine a1_ 12 rfl (still_rs (l := mid) (h := ops.length) rfl ot ⟨_, ot⟩ trivial (by exact sl_tail rfl cO_len (fun h => by cases h) Tryd.runUnderlying30 Tryd.sizeOf39 (by omega))) ?_
 refine AD.one (i := 4) kr_ ?_
 refine at_ rfl (lb_ 0) ?_
 refine a1_ 6 rfl (still_rs (l := 0) (h := fr) rfl ot trivial ⟨_, ot⟩ (by exact sl_head cO_len (fun h => by cases h) Tryd.runUnderlying30 Tryd.sizeOf39 (by omega))) ?_
 refine AD.one (i := 20) kr_ ?_
 refine ab_ (numD 0 [_, _, _]) [.slice none 0 0, .slice none 0 0, .slice none 0 0] [_, _, _] Tryd.zeroValue30 Tryd.runUnderlying159 Tryd.sizeOf30 (fun b26 => ?_)
 refine ag_ 0 26 1 3 ?_
 refine AD.one (i := 21) kr_ ?_
 refine AStep.call rfl wp_ rfl rfl rfl Tryd.call111 hcc ⟨Eq.trans ot (by rw [fm_drop cO_len, fm_take cO_len, show (ops.drop fr).take (mid - fr) = (ops.take mid).drop fr from (List.drop_take).symm, show mid - fr = ((ops.take mid).drop fr).length from by rw [List.length_drop, List.length_take]; omega]; rfl), trivial⟩ (List.Perm.refl _) (by intro b hb; cases hb) ?_
 rintro _ S27 ⟨ad27, cap27, rfl, ho27⟩
 refine AD.perm (S' := ⟨br, 70, 3, [.list 3 (l.flatMap cT) l.length, .v (.int .i64 ((p : Nat) : Int)), .list 5 (ops.flatMap cO) ops.length]⟩ :: S27) (List.perm_append_comm) ?_
 refine a1_ 22 rfl nc_ ?_
 refine a1_ 23 rfl (fa_ 2) ?_
 refine AD.one (i := 24) kr_ ?_
 refine as_ 0 [_, _, _] Tryd.sizeOf30 ?_
 refine AD.wk (y := ⟨30, [], (⟨br, 70, 3, [_, _, _]⟩ :: S27)⟩) (Wk.as_ rfl rfl trivial) rfl ?_
 refine AD.done kr_ ?_
 refine ⟨.inl rfl, _, ⟨br, 70, 3, [.list 3 (l.flatMap cT) l.length, .v (.int .i64 ((p : Nat) : Int)), .v (.slice ad27 (swapP ops fr mid).length cap27)]⟩ :: S27, List.Sublist.refl _, ret_none Tryd.results108 , ?_⟩
 exact ⟨ad27, cap27, S27, ho27, rfl⟩

end Go.Proofs.YtjgekbmahhhokaaDoor.Pa

namespace Go.Proofs.YtjgekbmahhhokaaDoor.Pa
open Go.RowKit V Pk Go.Proofs.YtjgekbmahhhokaaDoor.Vl Go.Proofs.YtjgekbmahhhokaaDoor.Nm
set_option linter.unusedVariables false
set_option linter.unusedSimpArgs false

variable {G : List (Nat × List Value)}
theorem bind_inv {α β : Type} {r : Rs α} {f : α → Nat → List OpL → Rs β} {v : β} {p : Nat} {os : List OpL} (h : r.bind f = .ok v p os) : ∃ a q o, r = .ok a q o ∧ f a q o = .ok v p os := by
 cases r with
 | ok a q o => exact ⟨a, q, o, rfl, h⟩
 | no q e => cases h
 | stuck => cases h
theorem put_inv {l : List Tk} {o : OpL} {p q : Nat} {ops os : List OpL} {u : Unit} (h : putP l o p ops = .ok u q os) : q = p ∧ os = ops ++ [o] ∧ ops.length ≠ 40 := by
 unfold putP gv at h
 split at h
 ·cases h
 cases h; exact ⟨rfl, rfl, by assumption⟩
theorem mark_inv {l : List Tk} {s : ByteArray} {p q : Nat} {ops os : List OpL} {u : Unit} (h : markP l s p ops = .ok u q os) : q = p + 1 ∧ os = ops ∧ isQ l p 4 s = true := by
 unfold markP gv at h
 split at h
 ·cases h; exact ⟨rfl, rfl, by assumption⟩
 cases h
theorem swap_pre {ops o1 o2 : List OpL} (h1 : ops <+: o1) (h2 : o1 <+: o2) : ops <+: swapP o2 ops.length o1.length := by
 obtain ⟨a, rfl⟩ := h1; obtain ⟨b, rfl⟩ := h2
 unfold swapP
 rw [List.append_assoc, List.append_assoc, List.take_left' rfl]
 exact ⟨_, rfl⟩
theorem lit_lt {l : List Tk} {p : Nat} {ops : List OpL} {v : Vl × Bool} {q : Nat} {os : List OpL} (h : litP l p ops = .ok v q os) (hv : v.2 = true) : p + 1 ≤ q := by
 unfold litP gv at h
 split at h
 ·cases h; omega
 split at h
 ·cases h; omega
 split at h
 ·cases h; omega
 split at h
 ·split at h <;> cases h; omega
 split at h
 ·split at h
  ·cases h; omega
  cases h
 split at h
 ·cases h; omega
 cases h; cases hv
def wL : Lv → Nat
 | .prodL | .sumL | .andL | .orL => 0
 | _ => 1
def Gr (l : List Tk) (w v p q : Nat) (ops os : List OpL) : Prop := ops <+: os ∧ q ≤ l.length ∧ p + w ≤ q ∧ ops.length + v ≤ os.length
theorem Gr.trans {l : List Tk} {w w' v v' p p1 q : Nat} {ops o1 os : List OpL} (h : Gr l w v p p1 ops o1) (k : Gr l w' v' p1 q o1 os) : Gr l w v p q ops os := ⟨h.1.trans k.1, k.2.1, by have := h.2.2.1; have := k.2.2.1; omega, by have := h.2.2.2; have := k.2.2.2; omega⟩
theorem Gr.step {l : List Tk} {w v p q : Nat} {ops os : List OpL} (h : Gr l w v (p + 1) q ops os) : Gr l 1 v p q ops os := ⟨h.1, h.2.1, by have := h.2.2.1; omega, h.2.2.2⟩
theorem Gr.put {l : List Tk} {w v p q r : Nat} {o : OpL} {ops os o2 : List OpL} {u : Unit} (h : Gr l w v p q ops os) (k : putP l o q os = .ok u r o2) : Gr l w 1 p r ops o2 := by
 obtain ⟨rfl, rfl, -⟩ := put_inv k
 exact ⟨h.1.trans ⟨_, rfl⟩, h.2.1, h.2.2.1, by have := h.1.length_le; rw [List.length_append]; show _ ≤ _ + 1; omega⟩
theorem Gr.less {l : List Tk} {w v p q : Nat} {ops os : List OpL} (h : Gr l w v p q ops os) : Gr l 0 0 p q ops os := ⟨h.1, h.2.1, by have := h.2.2.1; omega, h.1.length_le⟩
theorem exP_step {l : List Tk} {k : Int} {s : ByteArray} {f g : Nat → List OpL → Rs Unit} {o : OpL} {p q : Nat} {ops os : List OpL} {u : Unit} (hq : isQ l p k s = true) (h : ((f (p + 1) ops).bind fun _ p ops => (putP l o p ops).bind fun _ p ops => g p ops) = .ok u q os)
  (hf : ∀ {p q : Nat} {ops os : List OpL} {u : Unit}, f p ops = .ok u q os → p ≤ l.length → Gr l 1 1 p q ops os) (hg : ∀ {p q : Nat} {ops os : List OpL} {u : Unit}, g p ops = .ok u q os → p ≤ l.length → Gr l 0 0 p q ops os) : Gr l 0 0 p q ops os := by
 obtain ⟨_, p1, o1, h1, h2⟩ := bind_inv h
 obtain ⟨_, p2, o2, h3, h4⟩ := bind_inv h2
 have g1 := (hf h1 (isQ_lt hq)).put h3
 exact (g1.trans (hg h4 g1.2.1)).step.less
theorem exP_gr {l : List Tk} : ∀ (n : Nat) (lv : Lv) {p q : Nat} {ops os : List OpL} {u : Unit}, exP l n lv p ops = .ok u q os → p ≤ l.length → Gr l (wL lv) (wL lv) p q ops os
 | 0, _, _, _, _, _, _, h, _ => by cases h
 | n + 1, .prim, p, q, ops, os, u, h, hp => by
  rw [exP] at h
  obtain ⟨v, p1, o1, h1, h2⟩ := bind_inv h
  obtain ⟨rfl, hl1, hl0, hl2⟩ := lit_le h1 hp
  split at h2
  ·have hlt := lit_lt h1 (by assumption)
   exact Gr.put (v := 0) ⟨List.prefix_refl _, hl1, hlt, Nat.le_refl _⟩ h2
  split at h2
  ·obtain ⟨_, p2, o2, h3, h4⟩ := bind_inv h2
   obtain ⟨rfl, rfl, hq⟩ := mark_inv h4
   have g := exP_gr n .or h3 (isQ_lt (by assumption))
   exact ⟨g.1, isQ_lt hq, by have := g.2.2.1; show p + 1 ≤ _; omega, g.2.2.2⟩
  obtain ⟨s, p2, o2, h3, h4⟩ := bind_inv h2
  obtain ⟨rfl, rfl, hlt⟩ := name_le h3
  exact Gr.put (v := 0) ⟨List.prefix_refl _, hlt, by show p + 1 ≤ p1 + 1; omega, Nat.le_refl _⟩ h4
 | n + 1, .prod, p, q, ops, os, u, h, hp => by
  rw [exP] at h
  obtain ⟨_, p1, o1, h1, h2⟩ := bind_inv h
  have g := exP_gr n .prim h1 hp
  exact g.trans (exP_gr n .prodL h2 g.2.1)
 | n + 1, .sum, p, q, ops, os, u, h, hp => by
  rw [exP] at h
  obtain ⟨_, p1, o1, h1, h2⟩ := bind_inv h
  have g := exP_gr n .prod h1 hp
  exact g.trans (exP_gr n .sumL h2 g.2.1)
 | n + 1, .comp, p, q, ops, os, u, h, hp => by
  rw [exP] at h
  obtain ⟨_, p1, o1, h1, h2⟩ := bind_inv h
  have g1 := exP_gr n .sum h1 hp
  split at h2
  ·rename_i hq
   obtain ⟨_, p2, o2, h3, h4⟩ := bind_inv h2
   obtain ⟨_, p3, o3, h5, h6⟩ := bind_inv h4
   have hlt := isQ_lt hq
   have hle : (if isQ l (p1 + 1) 1 ⟨#[78, 79, 84]⟩ = true then p1 + 2 else p1 + 1) ≤ l.length := by
    split
    ·exact isQ_lt (by assumption)
    omega
   obtain ⟨rfl, e2, e3⟩ := must_le h3 hle
   have g2 : Gr l 0 0 p1 p2 o2 o2 := ⟨List.prefix_refl _, e2, by split at e3 <;> omega, Nat.le_refl _⟩
   have g3 := (g1.trans g2).put h5
   split at h6
   ·exact g3.put h6
   cases h6; exact g3
  split at h2
  ·cases h2; exact g1
  obtain ⟨_, p2, o2, h3, h4⟩ := bind_inv h2
  obtain ⟨_, p3, o3, h5, h6⟩ := bind_inv h4
  have hm := List.find?_some (by assumption)
  have g2 := exP_gr n .sum h3 (isQ_lt (by simpa using hm))
  have g3 : Gr l 1 1 p p3 ops o3 := by
   have hpr : ∀ b : Bool, ops <+: (if b = true then swapP o2 ops.length o1.length else o2) := by
    intro b; split
    ·exact swap_pre g1.1 g2.1
    exact g1.1.trans g2.1
   exact Gr.put (v := 0) (q := p2) ⟨hpr _, g2.2.1, by have := g1.2.2.1; have := g2.2.2.1; simp only [wL] at *; omega, (hpr _).length_le⟩ h5
  split at h6
  ·exact g3.put h6
  cases h6; exact g3
 | n + 1, .not, p, q, ops, os, u, h, hp => by
  rw [exP] at h
  split at h
  ·obtain ⟨_, p1, o1, h1, h2⟩ := bind_inv h
   exact ((exP_gr n .not h1 (isQ_lt (by assumption))).put h2).step
  exact exP_gr n .comp h hp
 | n + 1, .and, p, q, ops, os, u, h, hp => by
  rw [exP] at h
  obtain ⟨_, p1, o1, h1, h2⟩ := bind_inv h
  have g := exP_gr n .not h1 hp
  exact g.trans (exP_gr n .andL h2 g.2.1)
 | n + 1, .or, p, q, ops, os, u, h, hp => by
  rw [exP] at h
  obtain ⟨_, p1, o1, h1, h2⟩ := bind_inv h
  have g := exP_gr n .and h1 hp
  exact g.trans (exP_gr n .orL h2 g.2.1)
 | n + 1, .prodL, p, q, ops, os, u, h, hp => by
  rw [exP] at h
  split at h
  ·exact exP_step (by assumption) h (fun h hp => exP_gr n .prim h hp) (fun h hp => exP_gr n .prodL h hp)
  cases h; exact ⟨List.prefix_refl _, hp, Nat.le_refl _, Nat.le_refl _⟩
 | n + 1, .sumL, p, q, ops, os, u, h, hp => by
  rw [exP] at h
  split at h
  ·exact exP_step (by assumption) h (fun h hp => exP_gr n .prod h hp) (fun h hp => exP_gr n .sumL h hp)
  split at h
  ·exact exP_step (by assumption) h (fun h hp => exP_gr n .prod h hp) (fun h hp => exP_gr n .sumL h hp)
  cases h; exact ⟨List.prefix_refl _, hp, Nat.le_refl _, Nat.le_refl _⟩
 | n + 1, .andL, p, q, ops, os, u, h, hp => by
  rw [exP] at h
  split at h
  ·exact exP_step (by assumption) h (fun h hp => exP_gr n .not h hp) (fun h hp => exP_gr n .andL h hp)
  cases h; exact ⟨List.prefix_refl _, hp, Nat.le_refl _, Nat.le_refl _⟩
 | n + 1, .orL, p, q, ops, os, u, h, hp => by
  rw [exP] at h
  split at h
  ·exact exP_step (by assumption) h (fun h hp => exP_gr n .and h hp) (fun h hp => exP_gr n .orL h hp)
  cases h; exact ⟨List.prefix_refl _, hp, Nat.le_refl _, Nat.le_refl _⟩

def compK (l : List Tk) (n : Nat) (fr : Nat) (p1 : Nat) (ops1 : List OpL) : Rs Unit :=
 if isQ l p1 1 ⟨#[73, 83]⟩ = true then (mustP l [wNULL] (if isQ l (p1 + 1) 1 ⟨#[78, 79, 84]⟩ = true then p1 + 2 else p1 + 1) ops1).bind fun _ p2 ops2 =>
  (putP l (opN 11) p2 ops2).bind fun _ p3 ops3 => if isQ l (p1 + 1) 1 ⟨#[78, 79, 84]⟩ = true then putP l (opN 5) p3 ops3 else .ok () p3 ops3
 else match marksP.find? fun m => isQ l p1 4 m.1 with
  | none => .ok () p1 ops1
  | some m => (exP l n .sum (p1 + 1) ops1).bind fun _ p2 ops2 => (putP l (opN m.2.1) p2 (if m.2.2.1 = true then swapP ops2 fr ops1.length else ops2)).bind fun _ p3 ops3 => if m.2.2.2 = true then putP l (opN 5) p3 ops3 else .ok () p3 ops3
theorem comp_eq {l : List Tk} {n p : Nat} {ops : List OpL} : exP l (n + 1) .comp p ops = (exP l n .sum p ops).bind (fun _ p1 o1 => compK l n ops.length p1 o1) := by rw [exP]; rfl
def cmpC : List Value := marksP.flatMap fun m => [.string m.1, .int .i64 m.2.1, .bool m.2.2.1, .bool m.2.2.2]
theorem cmp_at {j : Nat} (h : j < 6) : ((cmpC.map D.v).drop (j * 4)).take 4 = [.v (.string (marksP[j]'h).1), .v (.int .i64 (marksP[j]'h).2.1), .v (.bool (marksP[j]'h).2.2.1), .v (.bool (marksP[j]'h).2.2.2)] := by
 rcases j with _ | _ | _ | _ | _ | _ | j <;> first | rfl | omega
theorem find_no {j : Nat} (h : j < 6) {f : ByteArray × Int × Bool × Bool → Bool} (hf : f (marksP[j]'h) = false) : (marksP.drop j).find? f = (marksP.drop (j + 1)).find? f := by
 rw [List.drop_eq_getElem_cons (l := marksP) (i := j) h, List.find?_cons, hf]
theorem find_yes {j : Nat} (h : j < 6) {f : ByteArray × Int × Bool × Bool → Bool} (hf : f (marksP[j]'h) = true) : (marksP.drop j).find? f = some (marksP[j]'h) := by
 rw [List.drop_eq_getElem_cons (l := marksP) (i := j) h, List.find?_cons, hf]
theorem comp_T {l : List Tk} {n fr p1 : Nat} {o1 : List OpL} (h : isQ l p1 1 ⟨#[73, 83]⟩ = true) : compK l n fr p1 o1 = (mustP l [wNULL] (if isQ l (p1 + 1) 1 ⟨#[78, 79, 84]⟩ = true then p1 + 1 + 1 else p1 + 1) o1).bind fun _ p2 ops2 => (putP l (opN 11) p2 ops2).bind fun _ p3 ops3 => if isQ l (p1 + 1) 1 ⟨#[78, 79, 84]⟩ = true then putP l (opN 5) p3 ops3 else .ok () p3 ops3 := by unfold compK; rw [if_pos h]
theorem comp_N {l : List Tk} {n fr p1 : Nat} {o1 : List OpL} (h : isQ l p1 1 ⟨#[73, 83]⟩ = false) (hf : (marksP.find? fun m => isQ l p1 4 m.1) = none) : compK l n fr p1 o1 = .ok () p1 o1 := by unfold compK; rw [if_neg (F_ h), hf]
theorem comp_S {l : List Tk} {n fr p1 : Nat} {o1 : List OpL} {m : ByteArray × Int × Bool × Bool} (h : isQ l p1 1 ⟨#[73, 83]⟩ = false) (hf : (marksP.find? fun m => isQ l p1 4 m.1) = some m) : compK l n fr p1 o1 = (exP l n .sum (p1 + 1) o1).bind fun _ p2 ops2 => (putP l (opN m.2.1) p2 (if m.2.2.1 = true then swapP ops2 fr o1.length else ops2)).bind fun _ p3 ops3 => if m.2.2.2 = true then putP l (opN 5) p3 ops3 else .ok () p3 ops3 := by unfold compK; rw [if_neg (F_ h), hf]

theorem places39_Pa7 : ∀ w, ((#[{ name := "Kind", type := 3, offset := 0, embedded := false, tag := "", pkgPath := "", byteOffset := 0 }, { name := "Value", type := 37, offset := 1, embedded := false, tag := "", pkgPath := "", byteOffset := 8 }, { name := "Name", type := 9, offset := 4, embedded := false, tag := "", pkgPath := "", byteOffset := 40 }] : Array Field).mapM fun f => do pure (f.offset, ← sizeOf f.type) : Sem (Array (Nat × Nat))).run Tryd.prog w = .ok #[(0, 1), (1, 3), (4, 1)] w := fun w => by simp [Tryd.sizeOf3, Tryd.sizeOf37, Tryd.sizeOf9]

set_option maxHeartbeats 4000000 in
set_option maxRecDepth 100000 in
theorem comp_x {br : Nat} {l : List Tk} (hl : l.length ≤ 100) (hk : (5, cmpC) ∈ G) {n : Nat} (ih : ∀ m, m ≤ n → AllL G br l m) (p : Nat) (ops : List OpL) (hp : p ≤ l.length) (h40 : ops.length ≤ 40) (R : Rs Unit) (hR : R = exP l (n + 1) .comp p ops) (hns : R ≠ .stuck) (ad : Option Addr) (cap : Nat) (So : List Blk) (ho : OwnO ops ad cap So) : VX Tryd.prog G 103 [.v (.pointer (some ⟨br, 0, none⟩))] (⟨br, 70, 3, [.list 3 (l.flatMap cT) l.length, .v (.int .i64 ((p : Nat) : Int)), .v (.slice ad ops.length cap)]⟩ :: So) (fun _ S' => EndX br l R S') (PanX R) := by
 refine VX.body Tryd.func103 rfl Tryd.ntmps103 le_ fun X0 w0 S00 => ?_
 refine CD.seq ?_
 have hR0 := hR.trans comp_eq
 refine CD.region ?_
 refine om_ ?_
 refine os_ nc_ ?_
 refine os_ (fa_ 2) ?_
 refine os_ (lb_ 0) ?_
 refine os_ ln_ ?_
 refine om_ ?_
 refine nm_ [0, 2] ?_
 refine sr_ ?_
 refine om_ ?_
 have hs1 : exP l n .sum p ops ≠ .stuck := bind_ns (f := fun _ p1 o1 => compK l n ops.length p1 o1) (by rw [hR0] at hns; exact hns)
 refine OD.callX wp_ rfl rfl rfl Tryd.call107 ((ih _ (by omega)).sum p ops hp h40 hs1 ad cap So ho) ⟨ot, trivial⟩ (perm_all _) (fun ch hch => (Or.inr ⟨ch, rfl, by obtain ⟨q, e, h1, h2⟩ := hch; exact ⟨q, e, hR0.trans (by rw [h1]; rfl), h2⟩⟩ : BodyX _ _ _ _ _ _)) ?_
 rintro _ _ ⟨p1, o1, hr1, hq1, h01, hp1, ad1, cap1, So1, ho1, rfl⟩
 refine OD.perm (S' := ⟨br, 70, 3, [.list 3 (l.flatMap cT) l.length, .v (.int .i64 ((p1 : Nat) : Int)), .v (.slice ad1 o1.length cap1)]⟩ :: So1) (perm_all _).symm ?_
 have hR1 : R = compK l n ops.length p1 o1 := hR0.trans (by rw [hr1]; rfl)
 have hlen1 := (exP_gr _ _ hr1 hp).1.length_le
 refine OD.wk (Wk.as_ (n := 61) (l' := [(0, _), (2, _)]) (S' := (⟨br, 70, 3, [_, _, _]⟩ :: So1)) rfl rfl sl_) ?_
 refine OD.nil ?_
 refine CD.seq ?_
 refine sr_ ?_
 refine om_ ?_
 refine OD.call wp_ rfl rfl rfl Tryd.call43 (eat_vc l hl p1 1 ⟨#[73, 83]⟩ ad1 o1.length cap1 br) ⟨ot, opd_const, opd_const, trivial⟩ (List.Perm.refl _) ?_
 rintro _ _ ⟨rfl, rfl⟩
 refine OD.perm (S' := ⟨br, 70, 3, [.list 3 (l.flatMap cT) l.length, .v (.int .i64 (((if isQ l p1 1 ⟨#[73, 83]⟩ = true then p1 + 1 else p1) : Nat) : Int)), .v (.slice ad1 o1.length cap1)]⟩ :: So1) (List.Perm.refl _) ?_
 refine OD.wk (Wk.as_ (n := 61) (l' := [(0, _), (2, _), (15, _)]) (S' := (⟨br, 70, 3, [_, _, _]⟩ :: So1)) rfl rfl sl_) ?_
 refine OD.nil ?_
 refine CD.cond ot (fun hc0 => ?_) (fun hc0 => ?_)
 ·have hc0' := hc0
  (try simp only [V.cnd, ne_eq] at hc0')
  have et : isQ l p1 1 ⟨#[73, 83]⟩ = true := hc0
  rw [et]
  simp only [if_true]
  have hR2 : R = (mustP l [wNULL] (if isQ l (p1 + 1) 1 ⟨#[78, 79, 84]⟩ = true then (p1 + 1) + 1 else (p1 + 1)) o1).bind (fun _ p2 ops2 => (putP l (opN 11) p2 ops2).bind fun _ p3 ops3 => if isQ l (p1 + 1) 1 ⟨#[78, 79, 84]⟩ = true then putP l (opN 5) p3 ops3 else .ok () p3 ops3) := hR1.trans (comp_T et)
  refine sr_ ?_
  refine om_ ?_
  refine OD.call wp_ rfl rfl rfl Tryd.call43 (eat_vc l hl (p1 + 1) 1 ⟨#[78, 79, 84]⟩ ad1 o1.length cap1 br) ⟨ot, opd_const, opd_const, trivial⟩ (List.Perm.refl _) ?_
  rintro _ _ ⟨rfl, rfl⟩
  refine OD.perm (S' := ⟨br, 70, 3, [.list 3 (l.flatMap cT) l.length, .v (.int .i64 (((if isQ l (p1 + 1) 1 ⟨#[78, 79, 84]⟩ = true then (p1 + 1) + 1 else (p1 + 1)) : Nat) : Int)), .v (.slice ad1 o1.length cap1)]⟩ :: So1) (List.Perm.refl _) ?_
  refine om_ ?_
  refine OD.wk (Wk.as_ (n := 61) (l' := [(0, _), (3, _)]) (S' := (⟨br, 70, 3, [_, _, _]⟩ :: So1)) rfl rfl sl_) ?_
  refine OD.nil ?_
  refine sr_ ?_
  refine om_ ?_
  refine ob_ (numD 0 [_]) [.string ⟨#[]⟩] [_] Tryd.zeroValue9 Tryd.runUnderlying29 Tryd.sizeOf9 (fun b19 => ?_)
  refine og_ 0 19 1 1 ?_
  have hle3 : (if isQ l (p1 + 1) 1 ⟨#[78, 79, 84]⟩ = true then (p1 + 1) + 1 else (p1 + 1)) ≤ l.length := by (split; exact isQ_lt (by assumption); exact (isQ_lt et))
  refine OD.callX wp_ rfl rfl rfl Tryd.call44 (must_vx l hl [wNULL] (by decide) (if isQ l (p1 + 1) 1 ⟨#[78, 79, 84]⟩ = true then (p1 + 1) + 1 else (p1 + 1)) ad1 o1.length cap1 br) ⟨ot, by exact rfl, trivial⟩ (List.Perm.refl _) (fun ch hch => (Or.inr ⟨ch, rfl, by obtain ⟨q, e, h1, h2⟩ := hch; exact ⟨q, e, hR2.trans (by rw [h1]; rfl), h2⟩⟩ : BodyX _ _ _ _ _ _)) ?_
  rintro _ _ ⟨p3, hr3, rfl⟩
  refine OD.perm (S' := ⟨br, 70, 3, [.list 3 (l.flatMap cT) l.length, .v (.int .i64 ((p3 : Nat) : Int)), .v (.slice ad1 o1.length cap1)]⟩ :: So1) (List.Perm.refl _) ?_
  obtain ⟨-, hp3, h03⟩ := must_le (hr3 []) hle3
  have h13 : 0 < p3 := by (split at h03 <;> omega)
  have hR3 : R = (putP l (opN 11) p3 o1).bind (fun _ p3 ops3 => if isQ l (p1 + 1) 1 ⟨#[78, 79, 84]⟩ = true then putP l (opN 5) p3 ops3 else .ok () p3 ops3) := hR2.trans (by rw [hr3]; rfl)
  refine OD.wk (Wk.as_ (n := 61) (l' := [(0, _), (3, _)]) (S' := (⟨br, 70, 3, [_, _, _]⟩ :: So1)) rfl rfl sl_) ?_
  refine OD.nil ?_
  refine sr_ ?_
  refine om_ ?_
  refine os_ (still_bld (pl := [(0, _)]) (ds := [_, _, _, _, _]) rfl Tryd.zeroValue39 Tryd.runUnderlying39 places39_Pa7 ⟨rfl, opd_const, trivial⟩ rfl rfl) ?_
  refine OD.callX wp_ rfl rfl rfl Tryd.call91 (put_vx l hl (opN 11) p3 h13 (Nat.le_trans hp3 (by omega)) o1 hq1 ad1 cap1 br So1 ho1) ⟨ot, ot, trivial⟩ (perm_all _) (fun ch hch => (Or.inr ⟨ch, rfl, by obtain ⟨q, e, h1, h2⟩ := hch; exact ⟨q, e, hR3.trans (by rw [h1]; rfl), h2⟩⟩ : BodyX _ _ _ _ _ _)) ?_
  rintro _ _ ⟨o4, hr4, hq4, ad4, cap4, So4, ho4, rfl⟩
  refine OD.perm (S' := ⟨br, 70, 3, [.list 3 (l.flatMap cT) l.length, .v (.int .i64 ((p3 : Nat) : Int)), .v (.slice ad4 o4.length cap4)]⟩ :: So4) (perm_all _).symm ?_
  have hR4 : R = if isQ l (p1 + 1) 1 ⟨#[78, 79, 84]⟩ = true then putP l (opN 5) p3 o4 else .ok () p3 o4 := hR3.trans (by rw [hr4]; rfl)
  refine OD.wk (Wk.as_ (n := 61) (l' := [(0, _), (3, _)]) (S' := (⟨br, 70, 3, [_, _, _]⟩ :: So4)) rfl rfl sl_) ?_
  refine OD.nil ?_
  refine CD.seq ?_
  refine sr_ ?_
  refine om_ ?_
  refine nm_ [0, 24] ?_
  refine CD.cond ot (fun hc1 => ?_) (fun hc1 => ?_)
  ·have hc1' := hc1
   (try simp only [V.cnd, ne_eq] at hc1')
   have hR5 : R = putP l (opN 5) p3 o4 := hR4.trans (by rw [if_pos hc1])
   refine CD.region ?_
   refine om_ ?_
   refine os_ (still_bld (pl := [(0, _)]) (ds := [_, _, _, _, _]) rfl Tryd.zeroValue39 Tryd.runUnderlying39 places39_Pa7 ⟨rfl, opd_const, trivial⟩ rfl rfl) ?_
   refine OD.callX wp_ rfl rfl rfl Tryd.call91 (put_vx l hl (opN 5) p3 h13 (Nat.le_trans hp3 (by omega)) o4 hq4 ad4 cap4 br So4 ho4) ⟨ot, ot, trivial⟩ (perm_all _) (fun ch hch => (Or.inr ⟨ch, rfl, by obtain ⟨q, e, h1, h2⟩ := hch; exact ⟨q, e, hR5.trans h1, h2⟩⟩ : BodyX _ _ _ _ _ _)) ?_
   rintro _ _ ⟨o6, hr6, hq6, ad6, cap6, So6, ho6, rfl⟩
   refine OD.perm (S' := ⟨br, 70, 3, [.list 3 (l.flatMap cT) l.length, .v (.int .i64 ((p3 : Nat) : Int)), .v (.slice ad6 o6.length cap6)]⟩ :: So6) (perm_all _).symm ?_
   have hR6 : R = .ok () p3 o6 := hR5.trans hr6
   refine OD.wk (Wk.as_ (n := 61) (l' := []) (S' := (⟨br, 70, 3, [_, _, _]⟩ :: So6)) rfl rfl trivial) ?_
   refine OD.nil ?_
   refine CD.ret ?_
   refine Or.inl ?_
   refine ⟨.inr rfl, _, ⟨br, 70, 3, [.list 3 (l.flatMap cT) l.length, .v (.int .i64 ((p3 : Nat) : Int)), .v (.slice ad6 o6.length cap6)]⟩ :: So6, su_, ret_none Tryd.results103 , ?_⟩
   exact ⟨p3, o6, hR6, hq6, h13, hp3, ad6, cap6, So6, ho6, rfl⟩
  have hR7 : R = .ok () p3 o4 := hR4.trans (by rw [if_neg (F_ hc1)])
  refine CD.skip ?_
  refine CD.ret ?_
  refine Or.inl ?_
  refine ⟨.inr rfl, _, ⟨br, 70, 3, [.list 3 (l.flatMap cT) l.length, .v (.int .i64 ((p3 : Nat) : Int)), .v (.slice ad4 o4.length cap4)]⟩ :: So4, su_, ret_none Tryd.results103 , ?_⟩
  exact ⟨p3, o4, hR7, hq4, h13, hp3, ad4, cap4, So4, ho4, rfl⟩
 have hc0' := hc0
 (try simp only [V.cnd, ne_eq] at hc0')
 have ef : isQ l p1 1 ⟨#[73, 83]⟩ = false := hc0
 rw [ef]
 simp only [Bool.false_eq_true, if_false]
 refine CD.skip ?_
 refine sr_ ?_
 refine os_ (still_r1 (mk := Op.load 150) rfl opd_glob (by exact ld_tabs hk Tryd.isAgg150 Tryd.sizeOf150 rfl)) ?_
 refine om_ ?_
 refine OD.wk (Wk.as_ (n := 61) (l' := [(0, _), (2, _), (28, _), (29, _)]) (S' := (⟨br, 70, 3, [_, _, _]⟩ :: So1)) rfl rfl sl_) ?_
 refine OD.nil ?_
 refine CD.block ?_
 refine lp_ (fun (j : Nat) y__ => (j ≤ 6) ∧ (marksP.find? (fun m : ByteArray × Int × Bool × Bool => isQ l p1 4 m.1) = (marksP.drop j).find? (fun m : ByteArray × Int × Bool × Bool => isQ l p1 4 m.1)) ∧ y__ = (⟨61, [(0, .v (.pointer (some ⟨br, 0, none⟩))), (2, .v (.int .i64 (ops.length : Nat))), (28, .agg (cmpC.map .v)), (29, .v (.int .i64 (j : Nat)))], (⟨br, 70, 3, [.list 3 (l.flatMap cT) l.length, .v (.int .i64 ((p1 : Nat) : Int)), .v (.slice ad1 o1.length cap1)]⟩ :: So1)⟩ : St)) (fun (j : Nat) => 6 - j) 0 ⟨(Nat.zero_le _), (by rw [List.drop_zero]), rfl⟩ (Wk.asS rfl sv_ sq_) ?_
 rintro j _ ⟨hj6, hfd, rfl⟩
 refine sr_ ?_
 refine os_ bn_ ?_
 refine nm_ [0, 2, 28, 29, 30] ?_
 refine CD.seq ?_
 refine CD.cond ot (fun hc2 => ?_) (fun hc2 => ?_)
 ·have hc2' := hc2
  (try simp only [V.cnd, ne_eq] at hc2')
  have hlt : j < 6 := by simp at hc2; omega
  refine CD.skip ?_
  refine CD.seq ?_
  refine CD.block ?_
  refine sr_ ?_
  refine os_ (still_vidxs (j := j) rfl ot ot Tryd.runUnderlying150 Tryd.sizeOf149 Tryd.isAgg149 rfl hlt (cmp_at hlt)) ?_
  refine OD.alloc (ds := [_, _, _, _]) wp_ rfl rfl Tryd.zeroValue149 rfl (fun b5 => ?_)
  refine ot_ 0 [_, _, _, _] Tryd.sizeOf149 ?_
  refine OD.wk (Wk.as_ (n := 61) (l' := [(0, _), (2, _), (5, _), (28, _), (29, _)]) (S' := (⟨b5, 149, 4, [_, _, _, _]⟩ :: ⟨br, 70, 3, [_, _, _]⟩ :: So1)) rfl rfl sl_) ?_
  refine OD.nil ?_
  refine CD.seq ?_
  refine sr_ ?_
  refine om_ ?_
  refine os_ (fa_ 0) ?_
  refine os_ (lb_ 0) ?_
  refine OD.call wp_ rfl rfl rfl Tryd.call43 (eat_vc l hl p1 4 (marksP[j]'hlt).1 ad1 o1.length cap1 br) ⟨ot, opd_const, ot, trivial⟩ (List.Perm.swap _ _ _) ?_
  rintro _ _ ⟨rfl, rfl⟩
  refine OD.perm (S' := ⟨b5, 149, 4, [_, _, _, _]⟩ :: ⟨br, 70, 3, [.list 3 (l.flatMap cT) l.length, .v (.int .i64 (((if isQ l p1 4 (marksP[j]'hlt).1 = true then p1 + 1 else p1) : Nat) : Int)), .v (.slice ad1 o1.length cap1)]⟩ :: So1) (List.Perm.swap _ _ _) ?_
  refine os_ un_ ?_
  refine OD.wk (Wk.as_ (n := 61) (l' := [(0, _), (2, _), (5, _), (28, _), (29, _), (36, _)]) (S' := (⟨b5, 149, 4, [_, _, _, _]⟩ :: ⟨br, 70, 3, [_, _, _]⟩ :: So1)) rfl rfl sl_) ?_
  refine OD.nil ?_
  refine CD.cond ot (fun hc3 => ?_) (fun hc3 => ?_)
  ·have hc3' := hc3
   (try simp only [V.cnd, ne_eq] at hc3')
   have emf : isQ l p1 4 (marksP[j]'hlt).1 = false := by simpa using hc3
   rw [emf]
   simp only [Bool.false_eq_true, if_false]
   refine CD.exit ?_
   refine CD.region ?_
   refine os_ bn_ ?_
   refine om_ ?_
   refine nm_ [0, 2, 28, 29] ?_
   refine ⟨(j + 1), _, ?_, ?_, (by omega), (hfd.trans (find_no (f := (fun m : ByteArray × Int × Bool × Bool => isQ l p1 4 m.1)) hlt emf)), rfl⟩
   ·first | omega | (simp only []; omega)
   exact Wk.asS (n := 61) rfl sv_ sq_
  have hc3' := hc3
  (try simp only [V.cnd, ne_eq] at hc3')
  have emt : isQ l p1 4 (marksP[j]'hlt).1 = true := by simpa using hc3
  rw [emt]
  simp only [if_true]
  have hR8 : R = (exP l n .sum (p1 + 1) o1).bind (fun _ p2 ops2 => (putP l (opN (marksP[j]'hlt).2.1) p2 (if (marksP[j]'hlt).2.2.1 = true then swapP ops2 ops.length o1.length else ops2)).bind fun _ p3 ops3 => if (marksP[j]'hlt).2.2.2 = true then putP l (opN 5) p3 ops3 else .ok () p3 ops3) := hR1.trans (comp_S ef (hfd.trans (find_yes (f := (fun m : ByteArray × Int × Bool × Bool => isQ l p1 4 m.1)) hlt emt)))
  refine CD.skip ?_
  refine sr_ ?_
  refine om_ ?_
  refine os_ nc_ ?_
  refine os_ (fa_ 2) ?_
  refine os_ (lb_ 1) ?_
  refine os_ ln_ ?_
  refine om_ ?_
  refine nm_ [0, 2, 5, 6] ?_
  refine sr_ ?_
  refine om_ ?_
  have hple := (isQ_lt emt)
  have hs9 : exP l n .sum (p1 + 1) o1 ≠ .stuck := bind_ns (f := fun _ p2 ops2 => (putP l (opN (marksP[j]'hlt).2.1) p2 (if (marksP[j]'hlt).2.2.1 = true then swapP ops2 ops.length o1.length else ops2)).bind (fun _ p3 ops3 => if (marksP[j]'hlt).2.2.2 = true then putP l (opN 5) p3 ops3 else .ok () p3 ops3)) (by rw [hR8] at hns; exact hns)
  refine OD.callX wp_ rfl rfl rfl Tryd.call107 ((ih _ (by omega)).sum (p1 + 1) o1 (isQ_lt emt) hq1 hs9 ad1 cap1 So1 ho1) ⟨ot, trivial⟩ (List.perm_append_comm (l₁ := [_])) (fun ch hch => (Or.inr ⟨ch, rfl, by obtain ⟨q, e, h1, h2⟩ := hch; exact ⟨q, e, hR8.trans (by rw [h1]; rfl), h2⟩⟩ : BodyX _ _ _ _ _ _)) ?_
  rintro _ _ ⟨p9, o9, hr9, hq9, h09, hp9, ad9, cap9, So9, ho9, rfl⟩
  refine OD.perm (S' := ⟨b5, 149, 4, [_, _, _, _]⟩ :: ⟨br, 70, 3, [.list 3 (l.flatMap cT) l.length, .v (.int .i64 ((p9 : Nat) : Int)), .v (.slice ad9 o9.length cap9)]⟩ :: So9) (List.perm_append_comm (l₂ := [_])) ?_
  have hR9 : R = (putP l (opN (marksP[j]'hlt).2.1) p9 (if (marksP[j]'hlt).2.2.1 = true then swapP o9 ops.length o1.length else o9)).bind (fun _ p3 ops3 => if (marksP[j]'hlt).2.2.2 = true then putP l (opN 5) p3 ops3 else .ok () p3 ops3) := hR8.trans (by rw [hr9]; rfl)
  have hgr9 := exP_gr _ _ hr9 hple
  have hlen9 := hgr9.1.length_le
  have hgp9 : 0 < o9.length := Nat.lt_of_lt_of_le (Nat.succ_pos _) hgr9.2.2.2
  refine OD.wk (Wk.as_ (n := 61) (l' := [(0, _), (2, _), (5, _), (6, _)]) (S' := (⟨b5, 149, 4, [_, _, _, _]⟩ :: ⟨br, 70, 3, [_, _, _]⟩ :: So9)) rfl rfl sl_) ?_
  refine OD.nil ?_
  refine CD.seq ?_
  refine sr_ ?_
  refine os_ (fa_ 2) ?_
  refine os_ (lb_ 0) ?_
  refine nm_ [0, 2, 5, 6, 45] ?_
  refine CD.cond ot (fun hc4 => ?_) (fun hc4 => ?_)
  ·have hc4' := hc4
   (try simp only [V.cnd, ne_eq] at hc4')
   have hR10 : R = (putP l (opN (marksP[j]'hlt).2.1) p9 (swapP o9 ops.length o1.length)).bind (fun _ p3 ops3 => if (marksP[j]'hlt).2.2.2 = true then putP l (opN 5) p3 ops3 else .ok () p3 ops3) := hR9.trans (by rw [if_pos hc4])
   refine CD.region ?_
   refine om_ ?_
   refine om_ ?_
   refine om_ ?_
   refine OD.call wp_ rfl rfl rfl Tryd.call108 (swap_vc l p9 o9 ops.length o1.length hlen1 hlen9 hgp9 hq9 ad9 cap9 br So9 ho9) ⟨ot, ot, ot, trivial⟩ (List.perm_append_comm (l₁ := [_])) ?_
   rintro _ _ ⟨ad11, cap11, So11, ho11, rfl⟩
   refine OD.perm (S' := ⟨b5, 149, 4, [_, _, _, _]⟩ :: ⟨br, 70, 3, [.list 3 (l.flatMap cT) l.length, .v (.int .i64 ((p9 : Nat) : Int)), .v (.slice ad11 (swapP o9 ops.length o1.length).length cap11)]⟩ :: So11) (List.perm_append_comm (l₂ := [_])) ?_
   have hq11 : (swapP o9 ops.length o1.length).length ≤ 40 := by rw [swap_len hlen1 hlen9]; exact hq9
   refine OD.wk (Wk.as_ (n := 61) (l' := [(0, _), (5, _)]) (S' := (⟨b5, 149, 4, [_, _, _, _]⟩ :: ⟨br, 70, 3, [_, _, _]⟩ :: So11)) rfl rfl sl_) ?_
   refine OD.nil ?_
   refine sr_ ?_
   refine om_ ?_
   refine os_ (fa_ 1) ?_
   refine os_ (lb_ 0) ?_
   refine os_ (still_bld (pl := [(0, _)]) (ds := [_, _, _, _, _]) rfl Tryd.zeroValue39 Tryd.runUnderlying39 places39_Pa7 ⟨rfl, ot, trivial⟩ rfl rfl) ?_
   refine OD.callX wp_ rfl rfl rfl Tryd.call91 (put_vx l hl (opN (marksP[j]'hlt).2.1) p9 h09 (Nat.le_trans hp9 (by omega)) (swapP o9 ops.length o1.length) hq11 ad11 cap11 br So11 ho11) ⟨ot, ot, trivial⟩ (List.perm_append_comm (l₁ := [_])) (fun ch hch => (Or.inr ⟨ch, rfl, by obtain ⟨q, e, h1, h2⟩ := hch; exact ⟨q, e, hR10.trans (by rw [h1]; rfl), h2⟩⟩ : BodyX _ _ _ _ _ _)) ?_
   rintro _ _ ⟨o12, hr12, hq12, ad12, cap12, So12, ho12, rfl⟩
   refine OD.perm (S' := ⟨b5, 149, 4, [_, _, _, _]⟩ :: ⟨br, 70, 3, [.list 3 (l.flatMap cT) l.length, .v (.int .i64 ((p9 : Nat) : Int)), .v (.slice ad12 o12.length cap12)]⟩ :: So12) (List.perm_append_comm (l₂ := [_])) ?_
   have hR12 : R = if (marksP[j]'hlt).2.2.2 = true then putP l (opN 5) p9 o12 else .ok () p9 o12 := hR10.trans (by rw [hr12]; rfl)
   refine OD.wk (Wk.as_ (n := 61) (l' := [(0, _), (5, _)]) (S' := (⟨b5, 149, 4, [_, _, _, _]⟩ :: ⟨br, 70, 3, [_, _, _]⟩ :: So12)) rfl rfl sl_) ?_
   refine OD.nil ?_
   refine CD.seq ?_
   refine sr_ ?_
   refine os_ (fa_ 3) ?_
   refine os_ (lb_ 0) ?_
   refine nm_ [0, 56] ?_
   refine CD.cond ot (fun hc5 => ?_) (fun hc5 => ?_)
   ·have hc5' := hc5
    (try simp only [V.cnd, ne_eq] at hc5')
    have hR13 : R = putP l (opN 5) p9 o12 := hR12.trans (by rw [if_pos hc5])
    refine CD.region ?_
    refine om_ ?_
    refine os_ (still_bld (pl := [(0, _)]) (ds := [_, _, _, _, _]) rfl Tryd.zeroValue39 Tryd.runUnderlying39 places39_Pa7 ⟨rfl, opd_const, trivial⟩ rfl rfl) ?_
    refine OD.callX wp_ rfl rfl rfl Tryd.call91 (put_vx l hl (opN 5) p9 h09 (Nat.le_trans hp9 (by omega)) o12 hq12 ad12 cap12 br So12 ho12) ⟨ot, ot, trivial⟩ (List.perm_append_comm (l₁ := [_])) (fun ch hch => (Or.inr ⟨ch, rfl, by obtain ⟨q, e, h1, h2⟩ := hch; exact ⟨q, e, hR13.trans h1, h2⟩⟩ : BodyX _ _ _ _ _ _)) ?_
    rintro _ _ ⟨o14, hr14, hq14, ad14, cap14, So14, ho14, rfl⟩
    refine OD.perm (S' := ⟨b5, 149, 4, [_, _, _, _]⟩ :: ⟨br, 70, 3, [.list 3 (l.flatMap cT) l.length, .v (.int .i64 ((p9 : Nat) : Int)), .v (.slice ad14 o14.length cap14)]⟩ :: So14) (List.perm_append_comm (l₂ := [_])) ?_
    have hR14 : R = .ok () p9 o14 := hR13.trans hr14
    refine OD.wk (Wk.as_ (n := 61) (l' := []) (S' := (⟨b5, 149, 4, [_, _, _, _]⟩ :: ⟨br, 70, 3, [_, _, _]⟩ :: So14)) rfl rfl trivial) ?_
    refine OD.nil ?_
    refine CD.ret ?_
    refine Or.inl ?_
    refine ⟨.inr rfl, _, ⟨br, 70, 3, [.list 3 (l.flatMap cT) l.length, .v (.int .i64 ((p9 : Nat) : Int)), .v (.slice ad14 o14.length cap14)]⟩ :: So14, su_, ret_none Tryd.results103 , ?_⟩
    exact ⟨p9, o14, hR14, hq14, h09, hp9, ad14, cap14, So14, ho14, rfl⟩
   have hR15 : R = .ok () p9 o12 := hR12.trans (by rw [if_neg (F_ hc5)])
   refine CD.skip ?_
   refine CD.ret ?_
   refine Or.inl ?_
   refine ⟨.inr rfl, _, ⟨br, 70, 3, [.list 3 (l.flatMap cT) l.length, .v (.int .i64 ((p9 : Nat) : Int)), .v (.slice ad12 o12.length cap12)]⟩ :: So12, su_, ret_none Tryd.results103 , ?_⟩
   exact ⟨p9, o12, hR15, hq12, h09, hp9, ad12, cap12, So12, ho12, rfl⟩
  have hc4' := hc4
  (try simp only [V.cnd, ne_eq] at hc4')
  have hR16 : R = (putP l (opN (marksP[j]'hlt).2.1) p9 (o9)).bind (fun _ p3 ops3 => if (marksP[j]'hlt).2.2.2 = true then putP l (opN 5) p3 ops3 else .ok () p3 ops3) := hR9.trans (by rw [if_neg (F_ hc4)])
  refine CD.skip ?_
  refine sr_ ?_
  refine om_ ?_
  refine os_ (fa_ 1) ?_
  refine os_ (lb_ 0) ?_
  refine os_ (still_bld (pl := [(0, _)]) (ds := [_, _, _, _, _]) rfl Tryd.zeroValue39 Tryd.runUnderlying39 places39_Pa7 ⟨rfl, ot, trivial⟩ rfl rfl) ?_
  refine OD.callX wp_ rfl rfl rfl Tryd.call91 (put_vx l hl (opN (marksP[j]'hlt).2.1) p9 h09 (Nat.le_trans hp9 (by omega)) o9 hq9 ad9 cap9 br So9 ho9) ⟨ot, ot, trivial⟩ (List.perm_append_comm (l₁ := [_])) (fun ch hch => (Or.inr ⟨ch, rfl, by obtain ⟨q, e, h1, h2⟩ := hch; exact ⟨q, e, hR16.trans (by rw [h1]; rfl), h2⟩⟩ : BodyX _ _ _ _ _ _)) ?_
  rintro _ _ ⟨o17, hr17, hq17, ad17, cap17, So17, ho17, rfl⟩
  refine OD.perm (S' := ⟨b5, 149, 4, [_, _, _, _]⟩ :: ⟨br, 70, 3, [.list 3 (l.flatMap cT) l.length, .v (.int .i64 ((p9 : Nat) : Int)), .v (.slice ad17 o17.length cap17)]⟩ :: So17) (List.perm_append_comm (l₂ := [_])) ?_
  have hR17 : R = if (marksP[j]'hlt).2.2.2 = true then putP l (opN 5) p9 o17 else .ok () p9 o17 := hR16.trans (by rw [hr17]; rfl)
  refine OD.wk (Wk.as_ (n := 61) (l' := [(0, _), (5, _)]) (S' := (⟨b5, 149, 4, [_, _, _, _]⟩ :: ⟨br, 70, 3, [_, _, _]⟩ :: So17)) rfl rfl sl_) ?_
  refine OD.nil ?_
  refine CD.seq ?_
  refine sr_ ?_
  refine os_ (fa_ 3) ?_
  refine os_ (lb_ 0) ?_
  refine nm_ [0, 56] ?_
  refine CD.cond ot (fun hc5 => ?_) (fun hc5 => ?_)
  ·have hc5' := hc5
   (try simp only [V.cnd, ne_eq] at hc5')
   have hR18 : R = putP l (opN 5) p9 o17 := hR17.trans (by rw [if_pos hc5])
   refine CD.region ?_
   refine om_ ?_
   refine os_ (still_bld (pl := [(0, _)]) (ds := [_, _, _, _, _]) rfl Tryd.zeroValue39 Tryd.runUnderlying39 places39_Pa7 ⟨rfl, opd_const, trivial⟩ rfl rfl) ?_
   refine OD.callX wp_ rfl rfl rfl Tryd.call91 (put_vx l hl (opN 5) p9 h09 (Nat.le_trans hp9 (by omega)) o17 hq17 ad17 cap17 br So17 ho17) ⟨ot, ot, trivial⟩ (List.perm_append_comm (l₁ := [_])) (fun ch hch => (Or.inr ⟨ch, rfl, by obtain ⟨q, e, h1, h2⟩ := hch; exact ⟨q, e, hR18.trans h1, h2⟩⟩ : BodyX _ _ _ _ _ _)) ?_
   rintro _ _ ⟨o19, hr19, hq19, ad19, cap19, So19, ho19, rfl⟩
   refine OD.perm (S' := ⟨b5, 149, 4, [_, _, _, _]⟩ :: ⟨br, 70, 3, [.list 3 (l.flatMap cT) l.length, .v (.int .i64 ((p9 : Nat) : Int)), .v (.slice ad19 o19.length cap19)]⟩ :: So19) (List.perm_append_comm (l₂ := [_])) ?_
   have hR19 : R = .ok () p9 o19 := hR18.trans hr19
   refine OD.wk (Wk.as_ (n := 61) (l' := []) (S' := (⟨b5, 149, 4, [_, _, _, _]⟩ :: ⟨br, 70, 3, [_, _, _]⟩ :: So19)) rfl rfl trivial) ?_
   refine OD.nil ?_
   refine CD.ret ?_
   refine Or.inl ?_
   refine ⟨.inr rfl, _, ⟨br, 70, 3, [.list 3 (l.flatMap cT) l.length, .v (.int .i64 ((p9 : Nat) : Int)), .v (.slice ad19 o19.length cap19)]⟩ :: So19, su_, ret_none Tryd.results103 , ?_⟩
   exact ⟨p9, o19, hR19, hq19, h09, hp9, ad19, cap19, So19, ho19, rfl⟩
  have hR20 : R = .ok () p9 o17 := hR17.trans (by rw [if_neg (F_ hc5)])
  refine CD.skip ?_
  refine CD.ret ?_
  refine Or.inl ?_
  refine ⟨.inr rfl, _, ⟨br, 70, 3, [.list 3 (l.flatMap cT) l.length, .v (.int .i64 ((p9 : Nat) : Int)), .v (.slice ad17 o17.length cap17)]⟩ :: So17, su_, ret_none Tryd.results103 , ?_⟩
  exact ⟨p9, o17, hR20, hq17, h09, hp9, ad17, cap17, So17, ho17, rfl⟩
 have hc2' := hc2
 (try simp only [V.cnd, ne_eq] at hc2')
 obtain rfl : j = 6 := by simp at hc2; omega
 have hR21 : R = .ok () p1 o1 := hR1.trans (comp_N ef (hfd.trans rfl))
 refine CD.exit ?_
 refine Or.inl ?_
 refine ⟨.inl rfl, _, ⟨br, 70, 3, [.list 3 (l.flatMap cT) l.length, .v (.int .i64 ((p1 : Nat) : Int)), .v (.slice ad1 o1.length cap1)]⟩ :: So1, su_, ret_none Tryd.results103 , ?_⟩
 exact ⟨p1, o1, hR21, hq1, h01, hp1, ad1, cap1, So1, ho1, rfl⟩

theorem all_zero {br : Nat} {l : List Tk} : AllL G br l 0 := ⟨fun _ _ _ _ h => absurd rfl h, fun _ _ _ _ h => absurd rfl h, fun _ _ _ _ h => absurd rfl h, fun _ _ _ _ h => absurd rfl h, fun _ _ _ _ h => absurd rfl h, fun _ _ _ _ h => absurd rfl h, fun _ _ _ _ h => absurd rfl h⟩
theorem all_levels {br : Nat} {l : List Tk} (hl : l.length ≤ 100) (hm : (0, marksC) ∈ G) (hw : (2, wordsC) ∈ G) (hk : (5, cmpC) ∈ G) (ht : ∀ t ∈ l, t.s.size ≤ maxLen ∧ (t.k = 2 → 0 ≤ t.n ∧ t.n ≤ 9223372036854775807)) : ∀ n, ∀ m, m ≤ n → AllL G br l m
 | 0, m, h => by
  obtain rfl : m = 0 := by omega
  exact all_zero
 | n + 1, m, h => by
  have ih := all_levels hl hm hw hk ht n (br := br)
  rcases Nat.lt_or_ge n m with h1 | h1
  ·obtain rfl : m = n + 1 := by omega
   exact ⟨fun p ops hp h40 hns ad cap So ho => prim_x hl hm hw ht ih p ops hp h40 _ rfl hns ad cap So ho, fun p ops hp h40 hns ad cap So ho => prod_x hl ih p ops hp h40 _ rfl hns ad cap So ho, fun p ops hp h40 hns ad cap So ho => sum_x hl ih p ops hp h40 _ rfl hns ad cap So ho, fun p ops hp h40 hns ad cap So ho => comp_x hl hk ih p ops hp h40 _ rfl hns ad cap So ho, fun p ops hp h40 hns ad cap So ho => not_x hl ih p ops hp h40 _ rfl hns ad cap So ho, fun p ops hp h40 hns ad cap So ho => and_x hl ih p ops hp h40 _ rfl hns ad cap So ho, fun p ops hp h40 hns ad cap So ho => or_x hl ih p ops hp h40 _ rfl hns ad cap So ho⟩
  exact ih m h1

end Go.Proofs.YtjgekbmahhhokaaDoor.Pa

namespace Go.Proofs.YtjgekbmahhhokaaDoor.Pa
open Go.RowKit V Pk Go.Proofs.YtjgekbmahhhokaaDoor.Vl Go.Proofs.YtjgekbmahhhokaaDoor.Nm
set_option linter.unusedVariables false
set_option linter.unusedSimpArgs false

variable {G : List (Nat × List Value)}
def EndR {α : Type} (br : Nat) (l : List Tk) (R : Rs α) (dv : α → D → Prop) (r : D) (S' : List Blk) : Prop := ∃ v p os ad n cap, R = .ok v p os ∧ dv v r ∧ p ≤ l.length ∧ S' = [⟨br, 70, 3, [.list 3 (l.flatMap cT) l.length, .v (.int .i64 ((p : Nat) : Int)), .v (.slice ad n cap)]⟩]
def dvO (v : List OpL) (r : D) : Prop := r = .list 5 (v.flatMap cO) v.length ∧ v.length ≤ 40
def dvR (v : List Vl) (r : D) : Prop := r = .list 3 (v.flatMap cV) v.length ∧ v.length ≤ 6

set_option maxHeartbeats 4000000 in
set_option maxRecDepth 100000 in
theorem expr_vx {br : Nat} {l : List Tk} (hl : l.length ≤ 100) (hm : (0, marksC) ∈ G) (hw : (2, wordsC) ∈ G) (hk : (5, cmpC) ∈ G) (ht : ∀ t ∈ l, t.s.size ≤ maxLen ∧ (t.k = 2 → 0 ≤ t.n ∧ t.n ≤ 9223372036854775807)) (p : Nat) (hp : p ≤ l.length) (R : Rs (List OpL)) (hR : R = exprP l p) (hns : R ≠ .stuck) (ad : Option Addr) (n cap : Nat) : VX Tryd.prog G 50 [.v (.pointer (some ⟨br, 0, none⟩))] [⟨br, 70, 3, [.list 3 (l.flatMap cT) l.length, .v (.int .i64 ((p : Nat) : Int)), .v (.slice ad n cap)]⟩] (fun r S' => EndR br l R dvO r S') (PanX R) := by
 refine VX.body Tryd.func50 rfl Tryd.ntmps50 le_ fun X0 w0 S00 => ?_
 refine CD.seq ?_
 refine CD.region ?_
 refine om_ ?_
 refine nm_ [0] ?_
 refine sr_ ?_
 refine om_ ?_
 refine os_ nc_ ?_
 refine os_ (fa_ 2) ?_
 refine ot_ 0 [_, _, _] Tryd.sizeOf30 ?_
 refine on_ [(0, _)] [⟨br, 70, 3, [_, _, _]⟩] ?_
 refine sr_ ?_
 refine om_ ?_
 have hs : exP l (12 * l.length + 24) .or p [] ≠ .stuck := bind_ns (f := fun _ p ops => .ok ops p ops) (by rw [hR] at hns; exact hns)
 refine OD.callX wp_ rfl rfl rfl Tryd.call77 ((all_levels hl hm hw hk ht _ _ (Nat.le_refl _)).or p [] hp (Nat.zero_le _) hs none 0 [] ownL_nil) ⟨ot, trivial⟩ (List.Perm.refl _) (fun ch hch => (Or.inr ⟨ch, rfl, by obtain ⟨q, e, h1, h2⟩ := hch; exact ⟨q, e, hR.trans (by unfold exprP; rw [h1]; rfl), h2⟩⟩ : BodyX _ _ _ _ _ _)) ?_
 rintro _ _ ⟨p1, o1, hr1, hq1, h01, hp1, ad1, cap1, So1, ho1, rfl⟩
 refine OD.perm (S' := ⟨br, 70, 3, [.list 3 (l.flatMap cT) l.length, .v (.int .i64 ((p1 : Nat) : Int)), .v (.slice ad1 o1.length cap1)]⟩ :: So1) (perm_all _).symm ?_
 have hR1 : R = .ok o1 p1 o1 := hR.trans (by unfold exprP; rw [hr1]; rfl)
 refine OD.wk (Wk.as_ (n := 12) (l' := [(0, _)]) (S' := (⟨br, 70, 3, [_, _, _]⟩ :: So1)) rfl rfl sl_) ?_
 refine OD.nil ?_
 refine sr_ ?_
 refine om_ ?_
 refine os_ nc_ ?_
 refine os_ (fa_ 2) ?_
 refine os_ (lb_ 0) ?_
 refine om_ ?_
 refine nm_ [2] ?_
 refine CD.giveL (t := 2) (Sq := So1) lk ho1 (fm_len cO_len _) (perm_r11 (A := [_])) ?_
 refine CD.ret ?_
 refine Or.inl ?_
 refine ⟨.inr rfl, _, [⟨br, 70, 3, [.list 3 (l.flatMap cT) l.length, .v (.int .i64 ((p1 : Nat) : Int)), .v (.slice ad1 o1.length cap1)]⟩], sw_, ret_one Tryd.results50 (res_tmp le_ lk), ?_⟩
 exact ⟨o1, p1, o1, ad1, _, cap1, hR1, ⟨rfl, hq1⟩, hp1, rfl⟩

set_option maxHeartbeats 4000000 in
set_option maxRecDepth 100000 in
theorem where_vx {br : Nat} {l : List Tk} (hl : l.length ≤ 100) (hm : (0, marksC) ∈ G) (hw : (2, wordsC) ∈ G) (hk : (5, cmpC) ∈ G) (ht : ∀ t ∈ l, t.s.size ≤ maxLen ∧ (t.k = 2 → 0 ≤ t.n ∧ t.n ≤ 9223372036854775807)) (p : Nat) (hp : p ≤ l.length) (os : List OpL) (R : Rs (List OpL)) (hR : R = whereP l p os) (hns : R ≠ .stuck) (ad : Option Addr) (n cap : Nat) : VX Tryd.prog G 51 [.v (.pointer (some ⟨br, 0, none⟩))] [⟨br, 70, 3, [.list 3 (l.flatMap cT) l.length, .v (.int .i64 ((p : Nat) : Int)), .v (.slice ad n cap)]⟩] (fun r S' => EndR br l R dvO r S') (PanX R) := by
 refine VX.body Tryd.func51 rfl Tryd.ntmps51 le_ fun X0 w0 S00 => ?_
 refine CD.seq ?_
 refine CD.region ?_
 refine om_ ?_
 refine nm_ [0] ?_
 refine CD.seq ?_
 refine sr_ ?_
 refine om_ ?_
 refine OD.call wp_ rfl rfl rfl Tryd.call43 (eat_vc l hl p 1 ⟨#[87, 72, 69, 82, 69]⟩ ad n cap br) ⟨ot, opd_const, opd_const, trivial⟩ (List.Perm.refl _) ?_
 rintro _ _ ⟨rfl, rfl⟩
 refine OD.perm (S' := ⟨br, 70, 3, [.list 3 (l.flatMap cT) l.length, .v (.int .i64 (((if isQ l p 1 ⟨#[87, 72, 69, 82, 69]⟩ = true then p + 1 else p) : Nat) : Int)), .v (.slice ad n cap)]⟩ :: []) (List.Perm.refl _) ?_
 refine os_ un_ ?_
 refine on_ [(0, _), (5, _)] [⟨br, 70, 3, [_, _, _]⟩] ?_
 refine CD.cond ot (fun hc0 => ?_) (fun hc0 => ?_)
 ·have hc0' := hc0
  (try simp only [V.cnd, ne_eq] at hc0')
  have ef : isQ l p 1 ⟨#[87, 72, 69, 82, 69]⟩ = false := by simpa using hc0
  rw [ef]
  simp only [Bool.false_eq_true, if_false]
  have hR1 : R = .ok [] p os := hR.trans (by unfold whereP; rw [if_neg (F_ ef)])
  refine sr_ ?_
  refine om_ ?_
  refine nm_ [2] ?_
  refine CD.wk (Wk.giveNil (t := 2) (sz := 5) lk) ?_
  refine CD.ret ?_
  refine Or.inl ?_
  refine ⟨.inr rfl, _, [⟨br, 70, 3, [.list 3 (l.flatMap cT) l.length, .v (.int .i64 ((p : Nat) : Int)), .v (.slice ad n cap)]⟩], sw_, ret_one Tryd.results51 (res_tmp le_ lk), ?_⟩
  exact ⟨[], p, os, _, _, _, hR1, ⟨rfl, (by decide)⟩, hp, rfl⟩
 have hc0' := hc0
 (try simp only [V.cnd, ne_eq] at hc0')
 have et : isQ l p 1 ⟨#[87, 72, 69, 82, 69]⟩ = true := by simpa using hc0
 rw [et]
 simp only [if_true]
 have hR2 : R = exprP l (p + 1) := hR.trans (by unfold whereP; rw [if_pos et])
 refine CD.skip ?_
 refine sr_ ?_
 refine om_ ?_
 refine OD.callX wp_ rfl rfl rfl Tryd.call50 (expr_vx hl hm hw hk ht (p + 1) (isQ_lt et) R hR2 hns ad n cap) ⟨ot, trivial⟩ (List.Perm.refl _) (fun ch hch => (Or.inr ⟨ch, rfl, hch⟩ : BodyX _ _ _ _ _ _)) ?_
 rintro _ _ ⟨v, p1, o1, ad1, n1, cap1, hr1, ⟨rfl, hv1⟩, hp1, rfl⟩
 refine OD.perm (S' := ⟨br, 70, 3, [.list 3 (l.flatMap cT) l.length, .v (.int .i64 ((p1 : Nat) : Int)), .v (.slice ad1 n1 cap1)]⟩ :: []) (List.Perm.refl _) ?_
 refine om_ ?_
 refine on_ [(2, _)] [⟨br, 70, 3, [_, _, _]⟩] ?_
 refine CD.ret ?_
 refine Or.inl ?_
 refine ⟨.inr rfl, _, [⟨br, 70, 3, [.list 3 (l.flatMap cT) l.length, .v (.int .i64 ((p1 : Nat) : Int)), .v (.slice ad1 n1 cap1)]⟩], sw_, ret_one Tryd.results51 (res_tmp le_ lk), ?_⟩
 exact ⟨v, p1, o1, _, _, _, hr1, ⟨rfl, hv1⟩, hp1, rfl⟩

theorem info37_Pa8 : (Tryd.prog.info? 37).map (fun i => (i.zero, i.size, i.bytes)) = some (some (.agg #[.int .i64 0, .int .i64 0, .string ⟨#[]⟩]), 3, 32) := by kernel_rfl

set_option maxHeartbeats 4000000 in
set_option maxRecDepth 100000 in
theorem row_vx {br : Nat} {l : List Tk} (hl : l.length ≤ 100) (ht : ∀ t ∈ l, t.s.size ≤ maxLen ∧ (t.k = 2 → 0 ≤ t.n ∧ t.n ≤ 9223372036854775807)) (p : Nat) (hp : p ≤ l.length) (os : List OpL) (R : Rs (List Vl)) (hR : R = (markP l ⟨#[40]⟩ p os).bind fun _ p ops => rowP l 8 [] p ops) (ad : Option Addr) (n cap : Nat) : VX Tryd.prog G 47 [.v (.pointer (some ⟨br, 0, none⟩))] [⟨br, 70, 3, [.list 3 (l.flatMap cT) l.length, .v (.int .i64 ((p : Nat) : Int)), .v (.slice ad n cap)]⟩] (fun r S' => EndR br l R dvR r S') (PanX R) := by
 refine VX.body Tryd.func47 rfl Tryd.ntmps47 le_ fun X0 w0 S00 => ?_
 refine CD.seq ?_
 refine CD.region ?_
 refine om_ ?_
 refine nm_ [0] ?_
 refine sr_ ?_
 refine om_ ?_
 refine nm_ [0, 3] ?_
 refine sr_ ?_
 refine om_ ?_
 refine OD.callX wp_ rfl rfl rfl Tryd.call49 (mark_vx l hl p ⟨#[40]⟩ ad n cap br) ⟨ot, opd_const, trivial⟩ (List.Perm.refl _) (fun ch hch => (Or.inr ⟨ch, rfl, ⟨_, _, hR.trans (by rw [mark_no hch.1]; rfl), hch.2⟩⟩ : BodyX _ _ _ _ _ _)) ?_
 rintro _ _ ⟨hm1, rfl⟩
 refine OD.perm (S' := ⟨br, 70, 3, [.list 3 (l.flatMap cT) l.length, .v (.int .i64 (((p + 1) : Nat) : Int)), .v (.slice ad n cap)]⟩ :: []) (List.Perm.refl _) ?_
 have hR1 : R = rowP l 8 [] (p + 1) os := hR.trans (by rw [mark_yes hm1]; rfl)
 refine OD.wk (Wk.as_ (n := 32) (l' := [(0, _), (3, _)]) (S' := (⟨br, 70, 3, [_, _, _]⟩ :: [])) rfl rfl sl_) ?_
 refine OD.nil ?_
 refine CD.seq ?_
 refine CD.block ?_
 refine lp_ (fun (gh__ : Nat × List Vl × Nat × Option Addr × Nat × List Blk) y__ => match gh__ with | (f, out, q, ado, cpo, So) => (f + out.length = 8) ∧ (out.length ≤ 6) ∧ (q ≤ l.length) ∧ (R = rowP l f out q os) ∧ (OwnL 37 3 ((out).flatMap cV) (out).length ado cpo So) ∧ y__ = (⟨32, [(0, .v (.pointer (some ⟨br, 0, none⟩))), (3, .v (.slice ado (out).length cpo))], (⟨br, 70, 3, [.list 3 (l.flatMap cT) l.length, .v (.int .i64 ((q : Nat) : Int)), .v (.slice ad n cap)]⟩ :: So)⟩ : St)) (fun (gh__ : Nat × List Vl × Nat × Option Addr × Nat × List Blk) => match gh__ with | (f, out, q, ado, cpo, So) => f) (8, [], (p + 1), none, 0, []) ⟨rfl, (by decide), (isQ_lt hm1), hR1, (OwnL.cast ownL_nil (by rfl)), rfl⟩ (Wk.asS rfl su_ (by repeat (first | exact trivial | refine ⟨(by (repeat (first | exact look_hit | (apply look_at; focus (first | rfl | (simp; done) | (congr 2; omega) | (apply row_eq; rfl) | (apply row_eq; rfl) | (apply row_eq; simp; done))) | (apply look_miss; focus rfl))); done), ?_⟩))) ?_
 rintro ⟨f, out, q, ado, cpo, So⟩ _ ⟨hfo, ho6, hpl, hRl, hoo, rfl⟩
 rcases f with _ | f
 ·omega
 refine CD.block ?_
 refine CD.seq ?_
 refine sr_ ?_
 refine om_ ?_
 refine os_ ln_ ?_
 refine os_ bn_ ?_
 refine nm_ [0, 3, 10] ?_
 refine CD.cond ot (fun hc0 => ?_) (fun hc0 => ?_)
 ·have hc0' := hc0
  (try simp only [V.cnd, ne_eq] at hc0')
  have h6 : out.length = 6 := by simp at hc0; omega
  have hR2 : R = gv l q 10 := hRl.trans (by rw [rowP, if_pos h6])
  refine CD.region ?_
  refine om_ ?_
  exact OD.callX wp_ rfl rfl rfl Tryd.call26 (give_vx l hl q 10 ad n cap br) ⟨ot, opd_const, trivial⟩ (List.Perm.refl _) (fun ch hch => (Or.inr ⟨ch, rfl, ⟨_, _, hR2, hch⟩⟩ : BodyX _ _ _ _ _ _)) (fun r S' h => h.elim)
 have hc0' := hc0
 (try simp only [V.cnd, ne_eq] at hc0')
 have h6 : ¬ out.length = 6 := by simp at hc0; omega
 have hR3 : R = (litP l q os).bind (fun v p1 ops1 => if v.2 = false then gv l p1 6 else if isQ l p1 4 ⟨#[44]⟩ = true then rowP l f (out ++ [v.1]) (p1 + 1) ops1 else (markP l ⟨#[41]⟩ p1 ops1).bind fun _ p3 ops3 => .ok (out ++ [v.1]) p3 ops3) := hRl.trans (by rw [rowP, if_neg h6])
 refine CD.skip ?_
 refine sr_ ?_
 refine om_ ?_
 refine OD.callX wp_ rfl rfl rfl Tryd.call76 (literal_vx l hl ht q ad n cap br) ⟨ot, trivial⟩ (List.Perm.refl _) (fun ch hch => (Or.inr ⟨ch, rfl, by obtain ⟨q, e, h1, h2⟩ := hch; exact ⟨q, e, hR3.trans (by rw [h1]; rfl), h2⟩⟩ : BodyX _ _ _ _ _ _)) ?_
 rintro _ _ ⟨v, ok, q4, hlit, rfl, rfl⟩
 unfold cV
 refine OD.perm (S' := ⟨br, 70, 3, [.list 3 (l.flatMap cT) l.length, .v (.int .i64 ((q4 : Nat) : Int)), .v (.slice ad n cap)]⟩ :: So) (List.Perm.refl _) ?_
 have hR4 : R = (if ok = false then gv l q4 6 else if isQ l q4 4 ⟨#[44]⟩ = true then rowP l f (out ++ [v]) (q4 + 1) os else (markP l ⟨#[41]⟩ q4 os).bind (fun _ p3 ops3 => .ok (out ++ [v]) p3 ops3)) := hR3.trans (by rw [hlit]; rfl)
 have hp4 := (lit_le (hlit []) hpl).2.1
 refine om_ ?_
 refine os_ ex_ ?_
 refine os_ ex_ ?_
 refine OD.alloc (ds := [_, _, _]) wp_ rfl rfl Tryd.zeroValue37 rfl (fun b4 => ?_)
 refine ot_ 0 [_, _, _] Tryd.sizeOf37 ?_
 refine om_ ?_
 refine OD.wk (Wk.as_ (n := 32) (l' := [(0, _), (3, _), (4, _), (5, _)]) (S' := (⟨b4, 37, 3, [_, _, _]⟩ :: ⟨br, 70, 3, [_, _, _]⟩ :: So)) rfl rfl sl_) ?_
 refine OD.nil ?_
 refine CD.seq ?_
 refine sr_ ?_
 refine om_ ?_
 refine os_ un_ ?_
 refine nm_ [0, 3, 4, 19] ?_
 refine CD.cond ot (fun hc1 => ?_) (fun hc1 => ?_)
 ·have hc1' := hc1
  (try simp only [V.cnd, ne_eq] at hc1')
  have hok : ok = false := by simpa using hc1
  have hR5 : R = gv l q4 6 := hR4.trans (by rw [if_pos hok])
  refine CD.region ?_
  refine om_ ?_
  exact OD.callX wp_ rfl rfl rfl Tryd.call26 (give_vx l hl q4 6 ad n cap br) ⟨ot, opd_const, trivial⟩ (List.Perm.swap _ _ _) (fun ch hch => (Or.inr ⟨ch, rfl, ⟨_, _, hR5, hch⟩⟩ : BodyX _ _ _ _ _ _)) (fun r S' h => h.elim)
 have hc1' := hc1
 (try simp only [V.cnd, ne_eq] at hc1')
 have hok : ok = true := by simpa using hc1
 have hR6 : R = if isQ l q4 4 ⟨#[44]⟩ = true then rowP l f (out ++ [v]) (q4 + 1) os else (markP l ⟨#[41]⟩ q4 os).bind (fun _ p3 ops3 => .ok (out ++ [v]) p3 ops3) := hR4.trans (by rw [if_neg (by rw [hok]; decide)])
 refine CD.skip ?_
 refine sr_ ?_
 refine om_ ?_
 refine os_ (lab_ 0 [_, _, _]) ?_
 refine ob_ (numD 0 [_]) [.int .i64 0, .int .i64 0, .string ⟨#[]⟩] [_, _, _] Tryd.zeroValue37 Tryd.runUnderlying28 Tryd.sizeOf37 (fun b24 => ?_)
 refine og_ 0 24 3 1 ?_
 refine OD.appendG (ls := (out)) (new := [v]) (Sq := So) cV_len cV_one wp_ rfl rfl Tryd.underlying28 info37_Pa8 rfl (by decide) ot hoo (perm_r11 (A := [_, _])) ot (by simp) (by simp only [maxLen, List.length_append, List.length_cons, List.length_nil] at *; omega) (by simp only [maxLen, List.length_append, List.length_cons, List.length_nil] at *; omega) (fun b25 cp25 h125 h225 => ?_)
 refine OD.perm (perm_q11 (S1 := [⟨b25, 37, cp25 * 3, List.flatMap cV ((out) ++ [v])⟩]) (A := [_, _])) ?_
 refine om_ ?_
 refine OD.wk (Wk.as_ (n := 32) (l' := [(0, _), (3, _)]) (S' := (⟨b4, 37, 3, [_, _, _]⟩ :: ⟨br, 70, 3, [_, _, _]⟩ :: [⟨b25, 37, cp25 * 3, List.flatMap cV ((out) ++ [v])⟩])) rfl rfl sl_) ?_
 refine OD.nil ?_
 refine sr_ ?_
 refine om_ ?_
 refine OD.call wp_ rfl rfl rfl Tryd.call43 (eat_vc l hl q4 4 ⟨#[44]⟩ ad n cap br) ⟨ot, opd_const, opd_const, trivial⟩ (List.Perm.swap _ _ _) ?_
 rintro _ _ ⟨rfl, rfl⟩
 refine OD.perm (S' := ⟨b4, 37, 3, [_, _, _]⟩ :: ⟨br, 70, 3, [.list 3 (l.flatMap cT) l.length, .v (.int .i64 (((if isQ l q4 4 ⟨#[44]⟩ = true then q4 + 1 else q4) : Nat) : Int)), .v (.slice ad n cap)]⟩ :: [⟨b25, 37, cp25 * 3, List.flatMap cV ((out) ++ [v])⟩]) (List.Perm.swap _ _ _) ?_
 refine os_ un_ ?_
 refine OD.wk (Wk.as_ (n := 32) (l' := [(0, _), (3, _), (28, _)]) (S' := (⟨b4, 37, 3, [_, _, _]⟩ :: ⟨br, 70, 3, [_, _, _]⟩ :: [⟨b25, 37, cp25 * 3, List.flatMap cV ((out) ++ [v])⟩])) rfl rfl sl_) ?_
 refine OD.nil ?_
 refine CD.cond ot (fun hc2 => ?_) (fun hc2 => ?_)
 ·have hc2' := hc2
  (try simp only [V.cnd, ne_eq] at hc2')
  have ef : isQ l q4 4 ⟨#[44]⟩ = false := by simpa using hc2
  rw [ef]
  simp only [Bool.false_eq_true, if_false]
  have hR7 : R = (markP l ⟨#[41]⟩ q4 os).bind (fun _ p3 ops3 => .ok (out ++ [v]) p3 ops3) := hR6.trans (by rw [if_neg (F_ ef)])
  refine CD.exit ?_
  refine sr_ ?_
  refine om_ ?_
  refine OD.callX wp_ rfl rfl rfl Tryd.call49 (mark_vx l hl q4 ⟨#[41]⟩ ad n cap br) ⟨ot, opd_const, trivial⟩ (List.Perm.swap _ _ _) (fun ch hch => (Or.inr ⟨ch, rfl, ⟨_, _, hR7.trans (by rw [mark_no hch.1]; rfl), hch.2⟩⟩ : BodyX _ _ _ _ _ _)) ?_
  rintro _ _ ⟨hm8, rfl⟩
  refine OD.perm (S' := ⟨b4, 37, 3, [_, _, _]⟩ :: ⟨br, 70, 3, [.list 3 (l.flatMap cT) l.length, .v (.int .i64 (((q4 + 1) : Nat) : Int)), .v (.slice ad n cap)]⟩ :: [⟨b25, 37, cp25 * 3, List.flatMap cV ((out) ++ [v])⟩]) (List.Perm.swap _ _ _) ?_
  have hR8 : R = .ok (out ++ [v]) (q4 + 1) os := hR7.trans (by rw [mark_yes hm8]; rfl)
  refine OD.wk (Wk.as_ (n := 32) (l' := [(3, _)]) (S' := (⟨b4, 37, 3, [_, _, _]⟩ :: ⟨br, 70, 3, [_, _, _]⟩ :: [⟨b25, 37, cp25 * 3, List.flatMap cV ((out) ++ [v])⟩])) rfl rfl sl_) ?_
  refine OD.nil ?_
  refine sr_ ?_
  refine om_ ?_
  refine om_ ?_
  refine nm_ [2] ?_
  refine CD.giveL (t := 2) (Sq := [⟨b25, 37, cp25 * 3, List.flatMap cV ((out) ++ [v])⟩]) lk (ownL_row h125 h225) (fm_len cV_len _) (perm_r11 (A := [_, _])) ?_
  refine CD.ret ?_
  refine Or.inl ?_
  refine ⟨.inr rfl, _, [⟨br, 70, 3, [.list 3 (l.flatMap cT) l.length, .v (.int .i64 (((q4 + 1) : Nat) : Int)), .v (.slice ad n cap)]⟩], sw_, ret_one Tryd.results47 (res_tmp le_ lk), ?_⟩
  exact ⟨out ++ [v], (q4 + 1), os, _, _, _, hR8, ⟨rfl, by simp; omega⟩, (isQ_lt hm8), rfl⟩
 have hc2' := hc2
 (try simp only [V.cnd, ne_eq] at hc2')
 have et : isQ l q4 4 ⟨#[44]⟩ = true := by simpa using hc2
 rw [et]
 simp only [if_true]
 have hR9 : R = rowP l f (out ++ [v]) (q4 + 1) os := hR6.trans (by rw [if_pos et])
 refine CD.skip ?_
 refine ⟨(f, (out ++ [v]), (q4 + 1), (some ⟨b25, 0, none⟩), cp25, [⟨b25, 37, cp25 * 3, List.flatMap cV ((out) ++ [v])⟩]), _, ?_, ?_, (by simp; omega), (by simp; omega), (isQ_lt et), hR9, (OwnL.cast (ownL_row h125 h225) (by rfl)), rfl⟩
 ·first | omega | (simp only []; omega)
 exact Wk.asS (n := 32) rfl su_ (by repeat (first | exact trivial | refine ⟨(by (repeat (first | exact look_hit | (apply look_at; focus (first | rfl | (simp; done) | (congr 2; omega) | (apply row_eq; rfl) | (apply row_eq; rfl) | (apply row_eq; simp; done))) | (apply look_miss; focus rfl))); done), ?_⟩))

end Go.Proofs.YtjgekbmahhhokaaDoor.Pa

namespace Go.Proofs.YtjgekbmahhhokaaDoor.Pa
open Go.RowKit V Pk Go.Proofs.YtjgekbmahhhokaaDoor.Vl Go.Proofs.YtjgekbmahhhokaaDoor.Nm
set_option linter.unusedVariables false
set_option linter.unusedSimpArgs false

variable {G : List (Nat × List Value)}
def typesC : List Value := [.string ⟨#[]⟩, .string ⟨#[66, 79, 79, 76]⟩, .string ⟨#[73, 78, 84]⟩, .string ⟨#[84, 69, 88, 84]⟩]
def typesN : List ByteArray := [⟨#[]⟩, ⟨#[66, 79, 79, 76]⟩, ⟨#[73, 78, 84]⟩, ⟨#[84, 69, 88, 84]⟩]
theorem type_at {k : Nat} (h : k < 4) : (typesC.map D.v)[k * 1]? = some (.v (.string (typesN[k]'h))) := by
 rcases k with _ | _ | _ | _ | k <;> first | rfl | omega
def kindUp (l : List Tk) (p : Nat) : Nat → Int
 | 0 => 0
 | k + 1 => if 0 < k ∧ isQ l p 1 (typesN.getD k ⟨#[]⟩) = true then (k : Int) else kindUp l p k
theorem kind_up (l : List Tk) (p : Nat) : kindUp l p 4 = kindP l p := by
 unfold kindP
 simp only [kindUp, typesN, List.getD_eq_getElem?_getD, List.getElem?_cons_succ, List.getElem?_cons_zero, Option.getD_some]
 simp
theorem kind_T {l : List Tk} {p k : Nat} (h : k < 4) (h0 : 0 < k) (hq : isQ l p 1 (typesN[k]'h) = true) : (k : Int) = kindUp l p (k + 1) := by
 rw [kindUp, if_pos ⟨h0, by rw [List.getD_eq_getElem?_getD, List.getElem?_eq_getElem h]; exact hq⟩]
theorem kind_F {l : List Tk} {p k : Nat} (h : k < 4) (hq : isQ l p 1 (typesN[k]'h) = false) : kindUp l p k = kindUp l p (k + 1) := by
 rw [kindUp, if_neg]; rintro ⟨_, h1⟩; rw [List.getD_eq_getElem?_getD, List.getElem?_eq_getElem h] at h1; exact absurd (hq.symm.trans h1) (by decide)
theorem kind_0 {l : List Tk} {p k : Nat} (h0 : ¬ 0 < k) : kindUp l p k = kindUp l p (k + 1) := by
 rw [kindUp, if_neg]; exact fun h => h0 h.1

set_option maxHeartbeats 4000000 in
set_option maxRecDepth 100000 in
theorem index_vc (ls : List ColL) (g : Nat) (caps : List D) (S : List Blk) (p : ColL → Bool) (hcall : ∀ args w, (callFunc g args).run Tryd.prog w = .ok (.enter g args) w) (hp : ∀ x ∈ ls, VC Tryd.prog G g (.agg (cC x) :: caps) S (fun r S' => r = .v (.bool (p x)) ∧ S' = S)) (hlen : ls.length ≤ 1000000) : VC Tryd.prog G 89 [.list 2 (ls.flatMap cC) ls.length, .clo (.func g) caps] S (fun r S' => r = .v (.int .i64 (idxG p ls)) ∧ S' = S) := by
 refine VC.body Tryd.func89 rfl Tryd.ntmps89 le_ fun X0 w0 S00 => ?_
 unfold cC at hp
 refine sr_ ?_
 refine om_ ?_
 refine OD.wk (Wk.as_ (n := 19) (l' := [(0, _), (1, _)]) (S' := S) rfl (by first | rfl | simp [St.put]) sl_) ?_
 refine OD.nil ?_
 refine CD.seq ?_
 refine sr_ ?_
 refine om_ ?_
 refine os_ ln_ ?_
 refine om_ ?_
 refine OD.wk (Wk.as_ (n := 19) (l' := [(0, _), (1, _), (7, _), (8, _)]) (S' := S) rfl (by first | rfl | simp [St.put]) sl_) ?_
 refine OD.nil ?_
 refine CD.block ?_
 refine lp_ (fun (k : Nat) y__ => (k ≤ ls.length) ∧ (∀ x ∈ ls.take k, p x = false) ∧ y__ = (⟨19, [(0, .list 2 (ls.flatMap cC) ls.length), (1, .clo (.func g) caps), (7, .v (.int .i64 ls.length)), (8, .v (.int .i64 (k : Nat)))], S⟩ : St)) (fun (k : Nat) => ls.length - k) 0 ⟨Nat.zero_le _, (by simp), rfl⟩ (Wk.asS rfl sv_ sq_) ?_
 rintro k _ ⟨hk, h0, rfl⟩
 refine sr_ ?_
 refine os_ bn_ ?_
 refine OD.wk (Wk.as_ (n := 19) (l' := [(0, _), (1, _), (7, _), (8, _), (9, _)]) (S' := S) rfl (by first | rfl | simp [St.put]) sl_) ?_
 refine OD.nil ?_
 refine CD.seq ?_
 refine CD.cond ot (fun hc0 => ?_) (fun hc0 => ?_)
 ·have hc0' := hc0
  (try simp only [V.cnd, ne_eq] at hc0')
  refine CD.skip ?_
  refine CD.seq ?_
  refine CD.block ?_
  refine sr_ ?_
  refine om_ ?_
  refine om_ ?_
  refine OD.wk (Wk.as_ (n := 19) (l' := [(0, _), (1, _), (5, _), (7, _), (8, _)]) (S' := S) rfl (by first | rfl | simp [St.put]) sl_) ?_
  refine OD.nil ?_
  refine sr_ ?_
  refine om_ ?_
  refine om_ ?_
  refine om_ ?_
  refine os_ (ix_ 2) ?_
  refine os_ (la_ [_, _]) ?_
  refine OD.callv (f := g) (args := [_]) wp_ rfl rfl (opd_tmp rfl lk) hcall (hp (ls[k]'(by omega)) (List.getElem_mem _)) rfl ⟨opd_tmp rfl lk, trivial⟩ (perm_all _) ?_; rintro _ S2 ⟨rfl, hS2⟩; rw [hS2]; clear hS2
  refine OD.wk (Wk.as_ (n := 19) (l' := [(0, _), (1, _), (5, _), (7, _), (8, _), (16, _)]) (S' := S) rfl (by first | rfl | simp [St.put]) sl_) ?_
  refine OD.nil ?_
  refine CD.cond ot (fun hc1 => ?_) (fun hc1 => ?_)
  ·have hc1' := hc1
   (try simp only [V.cnd, ne_eq] at hc1')
   refine sr_ ?_
   refine om_ ?_
   refine om_ ?_
   refine OD.wk (Wk.as_ (n := 19) (l' := [(4, _)]) (S' := S) rfl (by first | rfl | simp [St.put]) sl_) ?_
   refine OD.nil ?_
   refine CD.ret ?_
   refine ⟨.inr rfl, _, S, sv_, ret_one Tryd.results89 (res_tmp le_ lk), ?_⟩
   refine ⟨?_, rfl⟩; first | (rw [idxG_hit (by omega) h0 (by assumption)]) | (rw [idxG_none (by omega) h0])
  have hc1' := hc1
  (try simp only [V.cnd, ne_eq] at hc1')
  refine CD.skip ?_
  refine CD.region ?_
  refine os_ bn_ ?_
  refine om_ ?_
  refine OD.wk (Wk.as_ (n := 19) (l' := [(0, _), (1, _), (7, _), (8, _)]) (S' := S) rfl (by first | rfl | simp [St.put]) sl_) ?_
  refine OD.nil ?_
  refine ⟨k + 1, _, ?_, ?_, (by omega), (by rw [List.take_succ_eq_append_getElem (by omega)]; intro x hx; rcases List.mem_append.1 hx with hx | hx; exact h0 x hx; simp only [List.mem_singleton] at hx; subst hx; assumption), rfl⟩
  ·first | omega | (simp only []; omega)
  exact Wk.asS (n := 19) rfl sv_ sq_
 have hc0' := hc0
 (try simp only [V.cnd, ne_eq] at hc0')
 refine CD.exit ?_
 refine sr_ ?_
 refine om_ ?_
 refine OD.wk (Wk.as_ (n := 19) (l' := [(4, _)]) (S' := S) rfl (by first | rfl | simp [St.put]) sl_) ?_
 refine OD.nil ?_
 refine CD.ret ?_
 refine ⟨.inr rfl, _, S, sv_, ret_one Tryd.results89 (res_tmp le_ lk), ?_⟩
 refine ⟨?_, rfl⟩; first | (rw [idxG_hit (by omega) h0 (by assumption)]) | (rw [idxG_none (by omega) h0])

set_option maxHeartbeats 4000000 in
set_option maxRecDepth 100000 in
theorem contains_vc (ls : List ColL) (g : Nat) (caps : List D) (S : List Blk) (p : ColL → Bool) (hcall : ∀ args w, (callFunc g args).run Tryd.prog w = .ok (.enter g args) w) (hp : ∀ x ∈ ls, VC Tryd.prog G g (.agg (cC x) :: caps) S (fun r S' => r = .v (.bool (p x)) ∧ S' = S)) (hlen : ls.length ≤ 1000000) : VC Tryd.prog G 74 [.list 2 (ls.flatMap cC) ls.length, .clo (.func g) caps] S (fun r S' => r = .v (.bool (ls.any p)) ∧ S' = S) := by
 refine VC.body Tryd.func74 rfl Tryd.ntmps74 le_ fun X0 w0 S00 => ?_
 refine sr_ ?_
 refine om_ ?_
 refine OD.wk (Wk.as_ (n := 9) (l' := [(0, _), (1, _)]) (S' := S) rfl (by first | rfl | simp [St.put]) sl_) ?_
 refine OD.nil ?_
 refine sr_ ?_
 refine om_ ?_
 refine om_ ?_
 refine OD.call wp_ rfl rfl rfl Tryd.call89 (index_vc ls g caps S p hcall hp hlen) ⟨opd_tmp rfl lk, opd_tmp rfl lk, trivial⟩ (perm_all _) ?_; rintro _ S2 ⟨rfl, hS2⟩; rw [hS2]; clear hS2
 refine os_ bn_ ?_
 refine om_ ?_
 refine OD.wk (Wk.as_ (n := 9) (l' := [(4, _)]) (S' := S) rfl (by first | rfl | simp [St.put]) sl_) ?_
 refine OD.nil ?_
 refine CD.ret ?_
 refine ⟨.inr rfl, _, S, sv_, ret_one Tryd.results74 (res_tmp le_ lk), ?_⟩
 refine ⟨?_, rfl⟩; rw [idxG_any]

set_option maxHeartbeats 4000000 in
set_option maxRecDepth 100000 in
theorem same_vp (c : ColL) (s : ByteArray) (k : Int) : VP Tryd.prog G 75 [.agg (cC c), .iptr [.v (.string s), .v (.int .i64 k)] 0] (.v (.bool (eqS c.n s))) := by
 refine VC.body Tryd.func75 rfl Tryd.ntmps75 le_ fun X0 w0 S00 => ?_
 unfold cC
 refine sr_ ?_
 refine OD.box (ds := [_, _]) wp_ rfl rfl ot rfl rfl (fun b2 => ?_)
 refine om_ ?_
 refine on_ [(1, _), (2, _)] [⟨b2, 95, 2, [_, _]⟩] ?_
 refine sr_ ?_
 refine os_ (fa_ 0) ?_
 refine os_ (lb_ 0) ?_
 refine os_ (fa_ 0) ?_
 refine os_ ld_ ?_
 refine os_ bn_ ?_
 refine om_ ?_
 refine nm_ [3] ?_
 refine CD.ret ?_
 refine r1_ ?_
 exact ⟨by unfold eqS; first | rfl | simp_all, rfl⟩

def dvC (v : List ColL) (r : D) : Prop := r = .list 2 (v.flatMap cC) v.length ∧ v.length ≤ 6

theorem kind_lt {l : List Tk} {p : Nat} (h : ¬ kindP l p = 0) : p + 1 ≤ l.length := by
 unfold kindP at h
 split at h
 ·exact isQ_lt (by assumption)
 split at h
 ·exact isQ_lt (by assumption)
 split at h
 ·exact isQ_lt (by assumption)
 exact absurd rfl h

theorem info95_Pa9 : (Tryd.prog.info? 95).map (fun i => (i.zero, i.size, i.bytes)) = some (some (.agg #[.string ⟨#[]⟩, .int .i64 0]), 2, 24) := by kernel_rfl

theorem places95_Pa9 : ∀ w, ((#[{ name := "Name", type := 9, offset := 0, embedded := false, tag := "", pkgPath := "", byteOffset := 0 }, { name := "Kind", type := 3, offset := 1, embedded := false, tag := "", pkgPath := "", byteOffset := 16 }] : Array Field).mapM fun f => do pure (f.offset, ← sizeOf f.type) : Sem (Array (Nat × Nat))).run Tryd.prog w = .ok #[(0, 1), (1, 1)] w := fun w => by simp [Tryd.sizeOf3, Tryd.sizeOf9]

set_option maxHeartbeats 4000000 in
set_option maxRecDepth 100000 in
theorem columns_vx {br : Nat} {l : List Tk} (hl : l.length ≤ 100) (hm : (0, marksC) ∈ G) (hw : (2, wordsC) ∈ G) (hty : (1, typesC) ∈ G) (ht : ∀ t ∈ l, t.s.size ≤ maxLen ∧ (t.k = 2 → 0 ≤ t.n ∧ t.n ≤ 9223372036854775807)) (p : Nat) (hp : p ≤ l.length) (os : List OpL) (R : Rs (List ColL)) (hR : R = (markP l ⟨#[40]⟩ p os).bind fun _ p ops => colsP l 8 [] p ops) (ad : Option Addr) (n cap : Nat) : VX Tryd.prog G 46 [.v (.pointer (some ⟨br, 0, none⟩))] [⟨br, 70, 3, [.list 3 (l.flatMap cT) l.length, .v (.int .i64 ((p : Nat) : Int)), .v (.slice ad n cap)]⟩] (fun r S' => EndR br l R dvC r S') (PanX R) := by
 refine VX.body Tryd.func46 rfl Tryd.ntmps46 le_ fun X0 w0 S00 => ?_
 refine CD.seq ?_
 refine CD.region ?_
 refine om_ ?_
 refine nm_ [0] ?_
 refine sr_ ?_
 refine om_ ?_
 refine nm_ [0, 3] ?_
 refine sr_ ?_
 refine om_ ?_
 refine OD.callX wp_ rfl rfl rfl Tryd.call49 (mark_vx l hl p ⟨#[40]⟩ ad n cap br) ⟨ot, opd_const, trivial⟩ (List.Perm.refl _) (fun ch hch => (Or.inr ⟨ch, rfl, ⟨_, _, hR.trans (by rw [mark_no hch.1]; rfl), hch.2⟩⟩ : BodyX _ _ _ _ _ _)) ?_
 rintro _ _ ⟨hm1, rfl⟩
 refine OD.perm (S' := ⟨br, 70, 3, [.list 3 (l.flatMap cT) l.length, .v (.int .i64 (((p + 1) : Nat) : Int)), .v (.slice ad n cap)]⟩ :: []) (List.Perm.refl _) ?_
 have hR1 : R = colsP l 8 [] (p + 1) os := hR.trans (by rw [mark_yes hm1]; rfl)
 refine OD.wk (Wk.as_ (n := 66) (l' := [(0, _), (3, _)]) (S' := (⟨br, 70, 3, [_, _, _]⟩ :: [])) rfl rfl sl_) ?_
 refine OD.nil ?_
 refine CD.seq ?_
 refine CD.block ?_
 refine lp_ (fun (gh__ : Nat × List ColL × Nat × Option Addr × Nat × List Blk) y__ => match gh__ with | (f, out, q, ado, cpo, So) => (f + out.length = 8) ∧ (out.length ≤ 6) ∧ (q ≤ l.length) ∧ (R = colsP l f out q os) ∧ (OwnL 95 2 ((out).flatMap cC) (out).length ado cpo So) ∧ y__ = (⟨66, [(0, .v (.pointer (some ⟨br, 0, none⟩))), (3, .v (.slice ado (out).length cpo))], (⟨br, 70, 3, [.list 3 (l.flatMap cT) l.length, .v (.int .i64 ((q : Nat) : Int)), .v (.slice ad n cap)]⟩ :: So)⟩ : St)) (fun (gh__ : Nat × List ColL × Nat × Option Addr × Nat × List Blk) => match gh__ with | (f, out, q, ado, cpo, So) => f) (8, [], (p + 1), none, 0, []) ⟨rfl, (by decide), (isQ_lt hm1), hR1, (OwnL.cast ownL_nil (by rfl)), rfl⟩ (Wk.asS rfl su_ (by repeat (first | exact trivial | refine ⟨(by (repeat (first | exact look_hit | (apply look_at; focus (first | rfl | (simp; done) | (congr 2; omega) | (apply row_eq; rfl) | (apply row_eq; rfl) | (apply row_eq; simp; done))) | (apply look_miss; focus rfl))); done), ?_⟩))) ?_
 rintro ⟨f, out, q, ado, cpo, So⟩ _ ⟨hfo, ho6, hpl, hRl, hoo, rfl⟩
 rcases f with _ | f
 ·omega
 refine CD.block ?_
 refine CD.seq ?_
 refine sr_ ?_
 refine om_ ?_
 refine os_ ln_ ?_
 refine os_ bn_ ?_
 refine nm_ [0, 3, 11] ?_
 refine CD.cond ot (fun hc0 => ?_) (fun hc0 => ?_)
 ·have hc0' := hc0
  (try simp only [V.cnd, ne_eq] at hc0')
  have h6 : out.length = 6 := by simp at hc0; omega
  have hR2 : R = gv l q 10 := hRl.trans (by rw [colsP, if_pos h6])
  refine CD.region ?_
  refine om_ ?_
  exact OD.callX wp_ rfl rfl rfl Tryd.call26 (give_vx l hl q 10 ad n cap br) ⟨ot, opd_const, trivial⟩ (List.Perm.refl _) (fun ch hch => (Or.inr ⟨ch, rfl, ⟨_, _, hR2, hch⟩⟩ : BodyX _ _ _ _ _ _)) (fun r S' h => h.elim)
 have hc0' := hc0
 (try simp only [V.cnd, ne_eq] at hc0')
 have h6 : ¬ out.length = 6 := by simp at hc0; omega
 have hR3 : R = (nameP l q os).bind (fun s p1 ops1 => if (out.any fun c => eqS c.n s) = true then gv l (p1 - 1) 9 else if kindP l p1 = 0 then gv l p1 6 else if isQ l (p1 + 1) 4 ⟨#[44]⟩ = true then colsP l f (out ++ [⟨s, kindP l p1⟩]) (p1 + 2) ops1 else (markP l ⟨#[41]⟩ (p1 + 1) ops1).bind fun _ p3 ops3 => .ok (out ++ [⟨s, kindP l p1⟩]) p3 ops3) := hRl.trans (by rw [colsP, if_neg h6])
 refine CD.skip ?_
 refine sr_ ?_
 refine om_ ?_
 refine OD.callX wp_ rfl rfl rfl Tryd.call45 (name_vx hm hw l hl ht q ad n cap br) ⟨ot, trivial⟩ (List.Perm.refl _) (fun ch hch => (Or.inr ⟨ch, rfl, by obtain ⟨q, e, h1, h2⟩ := hch; exact ⟨q, e, hR3.trans (by rw [h1]; rfl), h2⟩⟩ : BodyX _ _ _ _ _ _)) ?_
 rintro _ _ ⟨s, hr4, rfl, rfl⟩
 refine OD.perm (S' := ⟨br, 70, 3, [.list 3 (l.flatMap cT) l.length, .v (.int .i64 (((q + 1) : Nat) : Int)), .v (.slice ad n cap)]⟩ :: So) (List.Perm.refl _) ?_
 have hlt4 := (name_le (hr4 [])).2.2
 have hR4 : R = if (out.any fun c => eqS c.n s) = true then gv l ((q + 1) - 1) 9 else if kindP l (q + 1) = 0 then gv l (q + 1) 6 else if isQ l ((q + 1) + 1) 4 ⟨#[44]⟩ = true then colsP l f (out ++ [⟨s, kindP l (q + 1)⟩]) ((q + 1) + 1 + 1) os else (markP l ⟨#[41]⟩ ((q + 1) + 1) os).bind (fun _ p3 ops3 => .ok (out ++ [⟨s, kindP l (q + 1)⟩]) p3 ops3) := hR3.trans (by rw [hr4]; rfl)
 refine os_ (still_bld (pl := [(0, _)]) (ds := [_, _]) rfl Tryd.zeroValue95 Tryd.runUnderlying95 places95_Pa9 ⟨rfl, ot, trivial⟩ rfl rfl) ?_
 refine OD.alloc (ds := [_, _]) wp_ rfl rfl Tryd.zeroValue95 rfl (fun b4 => ?_)
 refine ot_ 0 [_, _] Tryd.sizeOf95 ?_
 refine OD.wk (Wk.as_ (n := 66) (l' := [(0, _), (3, _), (4, _)]) (S' := (⟨b4, 95, 2, [_, _]⟩ :: ⟨br, 70, 3, [_, _, _]⟩ :: So)) rfl rfl sl_) ?_
 refine OD.nil ?_
 refine CD.seq ?_
 refine sr_ ?_
 refine om_ ?_
 refine os_ (still_fn (ds := [_]) rfl ⟨ot, trivial⟩) ?_
 refine OD.look wp_ rfl rfl rfl Tryd.call74 (contains_vc (out) 75 [.iptr [.v (.string s), .v (.int .i64 0)] 0] [] (fun c => eqS c.n s) Tryd.call75 (fun c _ => same_vp c s 0) (by omega)) rfl ⟨⟨_, ot, view_own hoo (fm_len cC_len _) (fun B hB => List.mem_cons_of_mem _ (List.mem_cons_of_mem _ hB))⟩, ⟨_, ot, view_clo (by exact ⟨view_box (e := 95) (size := 2) List.mem_cons_self Views.same, trivial⟩)⟩, trivial⟩ ?_
 refine OD.wk (Wk.as_ (n := 66) (l' := [(0, _), (3, _), (4, _), (19, _)]) (S' := (⟨b4, 95, 2, [_, _]⟩ :: ⟨br, 70, 3, [_, _, _]⟩ :: So)) rfl rfl sl_) ?_
 refine OD.nil ?_
 refine CD.cond ot (fun hc1 => ?_) (fun hc1 => ?_)
 ·have hc1' := hc1
  (try simp only [V.cnd, ne_eq] at hc1')
  have hR5 : R = gv l ((q + 1) - 1) 9 := hR4.trans (by rw [if_pos hc1])
  refine sr_ ?_
  refine om_ ?_
  refine os_ nc_ ?_
  refine os_ (fa_ 1) ?_
  refine os_ (lb_ 1) ?_
  refine os_ (still_bin (r := .int .i64 (((q + 1 - 1 : Nat)) : Int)) rfl ot opd_const (bin_sub (by rw [show (((q + 1 : Nat)) : Int) - 1 = ((q + 1 - 1 : Nat) : Int) by omega]; exact wrap_i64 (by omega) (by omega)))) ?_
  refine os_ nc_ ?_
  refine os_ (fa_ 1) ?_
  refine ot_ 1 [_, _, _] Tryd.sizeOf3 ?_
  refine OD.wk (Wk.as_ (n := 66) (l' := [(0, _), (3, _), (4, _)]) (S' := (⟨b4, 95, 2, [_, _]⟩ :: ⟨br, 70, 3, [_, _, _]⟩ :: So)) rfl rfl sl_) ?_
  refine OD.nil ?_
  refine CD.region ?_
  refine om_ ?_
  exact OD.callX wp_ rfl rfl rfl Tryd.call26 (give_vx l hl ((q + 1) - 1) 9 ad n cap br) ⟨ot, opd_const, trivial⟩ (List.Perm.swap _ _ _) (fun ch hch => (Or.inr ⟨ch, rfl, ⟨_, _, hR5, hch⟩⟩ : BodyX _ _ _ _ _ _)) (fun r S' h => h.elim)
 have hc1' := hc1
 (try simp only [V.cnd, ne_eq] at hc1')
 have hR6 : R = if kindP l (q + 1) = 0 then gv l (q + 1) 6 else if isQ l ((q + 1) + 1) 4 ⟨#[44]⟩ = true then colsP l f (out ++ [⟨s, kindP l (q + 1)⟩]) ((q + 1) + 1 + 1) os else (markP l ⟨#[41]⟩ ((q + 1) + 1) os).bind (fun _ p3 ops3 => .ok (out ++ [⟨s, kindP l (q + 1)⟩]) p3 ops3) := hR4.trans (by rw [if_neg (F_ hc1)])
 refine CD.skip ?_
 refine CD.seq ?_
 refine sr_ ?_
 refine os_ (still_r1 (mk := Op.load 99) rfl opd_glob (by exact ld_tabs hty Tryd.isAgg99 Tryd.sizeOf99 rfl)) ?_
 refine om_ ?_
 refine OD.wk (Wk.as_ (n := 66) (l' := [(0, _), (3, _), (4, _), (29, _), (30, _)]) (S' := (⟨b4, 95, 2, [_, _]⟩ :: ⟨br, 70, 3, [_, _, _]⟩ :: So)) rfl rfl sl_) ?_
 refine OD.nil ?_
 refine CD.block ?_
 refine lp_ (fun (k : Nat) y__ => (k ≤ 4) ∧ y__ = (⟨66, [(0, .v (.pointer (some ⟨br, 0, none⟩))), (3, .v (.slice ado out.length cpo)), (4, .v (.pointer (some ⟨b4, 0, none⟩))), (29, .agg (typesC.map D.v)), (30, .v (.int .i64 (k : Nat)))], (⟨b4, 95, 2, [.v (.string s), .v (.int .i64 (kindUp l (q + 1) k))]⟩ :: ⟨br, 70, 3, [.list 3 (l.flatMap cT) l.length, .v (.int .i64 (((q + 1) : Nat) : Int)), .v (.slice ad n cap)]⟩ :: So)⟩ : St)) (fun (k : Nat) => 4 - k) 0 ⟨(by decide), rfl⟩ (Wk.asS rfl (List.Sublist.refl _) sq_) ?_
 rintro k _ ⟨hk4, rfl⟩
 refine sr_ ?_
 refine os_ bn_ ?_
 refine nm_ [0, 3, 4, 29, 30, 31] ?_
 refine CD.seq ?_
 refine CD.cond ot (fun hc2 => ?_) (fun hc2 => ?_)
 ·have hc2' := hc2
  (try simp only [V.cnd, ne_eq] at hc2')
  have hlt : k < 4 := by simp at hc2; omega
  refine CD.skip ?_
  refine CD.seq ?_
  refine CD.block ?_
  refine sr_ ?_
  refine om_ ?_
  refine os_ (still_vidx (j := k) rfl ot ot Tryd.runUnderlying99 Tryd.sizeOf9 Tryd.isAgg9 rfl hlt (type_at hlt)) ?_
  refine om_ ?_
  refine om_ ?_
  refine OD.wk (Wk.as_ (n := 66) (l' := [(0, _), (3, _), (4, _), (5, _), (6, _), (29, _), (30, _)]) (S' := (⟨b4, 95, 2, [_, _]⟩ :: ⟨br, 70, 3, [_, _, _]⟩ :: So)) rfl rfl sl_) ?_
  refine OD.nil ?_
  refine sr_ ?_
  refine om_ ?_
  refine os_ bn_ ?_
  refine om_ ?_
  refine OD.split (t := 36) lk (fun hg36 => ?_) (fun hg36 => ?_)
  ·have hg36' := hg36; (try simp only [V.cnd, ne_eq] at hg36')
   refine om_ ?_
   refine om_ ?_
   refine OD.call wt_ rfl rfl rfl Tryd.call73 (is_vc l hl (q + 1) 1 (typesN[k]'hlt) ad n cap br) ⟨ot, opd_const, ot, trivial⟩ (List.Perm.swap _ _ _) ?_
   rintro _ _ ⟨rfl, rfl⟩
   refine OD.perm (S' := ⟨b4, 95, 2, [.v (.string s), .v (.int .i64 (kindUp l (q + 1) k))]⟩ :: ⟨br, 70, 3, [.list 3 (l.flatMap cT) l.length, .v (.int .i64 (((q + 1) : Nat) : Int)), .v (.slice ad n cap)]⟩ :: So) (List.Perm.swap _ _ _) ?_
   refine os_ pkT_ ?_
   refine OD.wk (Wk.as_ (n := 66) (l' := [(0, _), (3, _), (4, _), (5, _), (29, _), (30, _), (40, _)]) (S' := (⟨b4, 95, 2, [_, _]⟩ :: ⟨br, 70, 3, [_, _, _]⟩ :: So)) rfl rfl sl_) ?_
   refine OD.nil ?_
   refine CD.cond ot (fun hc3 => ?_) (fun hc3 => ?_)
   ·have hc3' := hc3
    (try simp only [V.cnd, ne_eq] at hc3')
    have hkn := kind_T (l := l) (p := (q + 1)) hlt (by simpa using hg36) hc3
    refine CD.region ?_
    refine om_ ?_
    refine os_ (fa_ 1) ?_
    refine OD.store (k := 0) (cs' := [_, _]) wp_ rfl rfl ot rfl rfl (Eq.trans ot (congrArg (fun z => D.v (.int .i64 z)) hkn)) rfl rfl Tryd.sizeOf3 rfl rfl rfl ?_
    refine OD.wk (Wk.as_ (n := 66) (l' := [(0, _), (3, _), (4, _), (29, _), (30, _)]) (S' := (⟨b4, 95, 2, [_, _]⟩ :: ⟨br, 70, 3, [_, _, _]⟩ :: So)) rfl rfl sl_) ?_
    refine OD.nil ?_
    refine CD.region ?_
    refine os_ bn_ ?_
    refine om_ ?_
    refine nm_ [0, 3, 4, 29, 30] ?_
    refine ⟨(k + 1), _, ?_, ?_, (by omega), rfl⟩
    ·first | omega | (simp only []; omega)
    exact Wk.asS (n := 66) rfl (List.Sublist.refl _) sq_
   have hc3' := hc3
   (try simp only [V.cnd, ne_eq] at hc3')
   have hkn : kindUp l (q + 1) k = kindUp l (q + 1) (k + 1) := by first | exact kind_F hlt hc3 | exact kind_0 (by simpa using hg36)
   rw [hkn]
   refine CD.skip ?_
   refine CD.region ?_
   refine os_ bn_ ?_
   refine om_ ?_
   refine nm_ [0, 3, 4, 29, 30] ?_
   refine ⟨(k + 1), _, ?_, ?_, (by omega), rfl⟩
   ·first | omega | (simp only []; omega)
   exact Wk.asS (n := 66) rfl (List.Sublist.refl _) sq_
  have hg36' := hg36; (try simp only [V.cnd, ne_eq] at hg36')
  refine sk_ ?_
  refine sk_ ?_
  refine sk_ ?_
  refine os_ pkF_ ?_
  refine nm_ [0, 3, 4, 5, 29, 30, 40] ?_
  refine CD.condF ot (by first | rfl | assumption) ?_
  have hkn : kindUp l (q + 1) k = kindUp l (q + 1) (k + 1) := by first | exact kind_F hlt hc3 | exact kind_0 (by simpa using hg36)
  rw [hkn]
  refine CD.skip ?_
  refine CD.region ?_
  refine os_ bn_ ?_
  refine om_ ?_
  refine nm_ [0, 3, 4, 29, 30] ?_
  refine ⟨(k + 1), _, ?_, ?_, (by omega), rfl⟩
  ·first | omega | (simp only []; omega)
  exact Wk.asS (n := 66) rfl (List.Sublist.refl _) sq_
 have hc2' := hc2
 (try simp only [V.cnd, ne_eq] at hc2')
 obtain rfl : k = 4 := by simp at hc2; omega
 rw [kind_up]
 refine CD.exit ?_
 refine CD.seq ?_
 refine sr_ ?_
 refine os_ (fa_ 1) ?_
 refine os_ (lb_ 0) ?_
 refine os_ bn_ ?_
 refine nm_ [0, 3, 4, 46] ?_
 refine CD.cond ot (fun hc4 => ?_) (fun hc4 => ?_)
 ·have hc4' := hc4
  (try simp only [V.cnd, ne_eq] at hc4')
  have hk0 : kindP l (q + 1) = 0 := by simpa using hc4
  have hR7 : R = gv l (q + 1) 6 := hR6.trans (by rw [if_pos hk0])
  refine CD.region ?_
  refine om_ ?_
  exact OD.callX wp_ rfl rfl rfl Tryd.call26 (give_vx l hl (q + 1) 6 ad n cap br) ⟨ot, opd_const, trivial⟩ (List.Perm.swap _ _ _) (fun ch hch => (Or.inr ⟨ch, rfl, ⟨_, _, hR7, hch⟩⟩ : BodyX _ _ _ _ _ _)) (fun r S' h => h.elim)
 have hc4' := hc4
 (try simp only [V.cnd, ne_eq] at hc4')
 have hk0 : ¬ kindP l (q + 1) = 0 := by simpa using hc4
 have hp1 : (q + 1) + 1 ≤ l.length := kind_lt hk0
 have hR8 : R = if isQ l ((q + 1) + 1) 4 ⟨#[44]⟩ = true then colsP l f (out ++ [⟨s, kindP l (q + 1)⟩]) ((q + 1) + 1 + 1) os else (markP l ⟨#[41]⟩ ((q + 1) + 1) os).bind (fun _ p3 ops3 => .ok (out ++ [⟨s, kindP l (q + 1)⟩]) p3 ops3) := hR6.trans (by rw [if_neg hk0])
 refine CD.skip ?_
 refine sr_ ?_
 refine om_ ?_
 refine os_ nc_ ?_
 refine os_ (fa_ 1) ?_
 refine os_ (lb_ 1) ?_
 refine os_ bn_ ?_
 refine os_ nc_ ?_
 refine os_ (fa_ 1) ?_
 refine ot_ 1 [_, _, _] Tryd.sizeOf3 ?_
 refine OD.wk (Wk.as_ (n := 66) (l' := [(0, _), (3, _), (4, _)]) (S' := (⟨b4, 95, 2, [_, _]⟩ :: ⟨br, 70, 3, [_, _, _]⟩ :: So)) rfl rfl sl_) ?_
 refine OD.nil ?_
 refine sr_ ?_
 refine om_ ?_
 refine os_ (lab_ 0 [_, _]) ?_
 refine ob_ (numD 0 [_]) [.string ⟨#[]⟩, .int .i64 0] [_, _] Tryd.zeroValue95 Tryd.runUnderlying27 Tryd.sizeOf95 (fun b58 => ?_)
 refine og_ 0 58 2 1 ?_
 refine OD.appendG (ls := (out)) (new := [ColL.mk s (kindP l (q + 1))]) (Sq := So) cC_len cC_one wp_ rfl rfl Tryd.underlying27 info95_Pa9 rfl (by decide) ot hoo (perm_r11 (A := [_, _])) ot (by simp) (by simp only [maxLen, List.length_append, List.length_cons, List.length_nil] at *; omega) (by simp only [maxLen, List.length_append, List.length_cons, List.length_nil] at *; omega) (fun b59 cp59 h159 h259 => ?_)
 refine OD.perm (perm_q11 (S1 := [⟨b59, 95, cp59 * 2, List.flatMap cC ((out) ++ [ColL.mk s (kindP l (q + 1))])⟩]) (A := [_, _])) ?_
 refine om_ ?_
 refine OD.wk (Wk.as_ (n := 66) (l' := [(0, _), (3, _)]) (S' := (⟨b4, 95, 2, [_, _]⟩ :: ⟨br, 70, 3, [_, _, _]⟩ :: [⟨b59, 95, cp59 * 2, List.flatMap cC ((out) ++ [ColL.mk s (kindP l (q + 1))])⟩])) rfl rfl sl_) ?_
 refine OD.nil ?_
 refine sr_ ?_
 refine om_ ?_
 refine OD.call wp_ rfl rfl rfl Tryd.call43 (eat_vc l hl ((q + 1) + 1) 4 ⟨#[44]⟩ ad n cap br) ⟨ot, opd_const, opd_const, trivial⟩ (List.Perm.swap _ _ _) ?_
 rintro _ _ ⟨rfl, rfl⟩
 refine OD.perm (S' := ⟨b4, 95, 2, [.v (.string s), .v (.int .i64 (kindP l (q + 1)))]⟩ :: ⟨br, 70, 3, [.list 3 (l.flatMap cT) l.length, .v (.int .i64 (((if isQ l ((q + 1) + 1) 4 ⟨#[44]⟩ = true then ((q + 1) + 1) + 1 else ((q + 1) + 1)) : Nat) : Int)), .v (.slice ad n cap)]⟩ :: [⟨b59, 95, cp59 * 2, List.flatMap cC ((out) ++ [ColL.mk s (kindP l (q + 1))])⟩]) (List.Perm.swap _ _ _) ?_
 refine os_ un_ ?_
 refine OD.wk (Wk.as_ (n := 66) (l' := [(0, _), (3, _), (62, _)]) (S' := (⟨b4, 95, 2, [_, _]⟩ :: ⟨br, 70, 3, [_, _, _]⟩ :: [⟨b59, 95, cp59 * 2, List.flatMap cC ((out) ++ [ColL.mk s (kindP l (q + 1))])⟩])) rfl rfl sl_) ?_
 refine OD.nil ?_
 refine CD.cond ot (fun hc5 => ?_) (fun hc5 => ?_)
 ·have hc5' := hc5
  (try simp only [V.cnd, ne_eq] at hc5')
  have ef : isQ l ((q + 1) + 1) 4 ⟨#[44]⟩ = false := by simpa using hc5
  rw [ef]
  simp only [Bool.false_eq_true, if_false]
  have hR9 : R = (markP l ⟨#[41]⟩ ((q + 1) + 1) os).bind (fun _ p3 ops3 => .ok (out ++ [⟨s, kindP l (q + 1)⟩]) p3 ops3) := hR8.trans (by rw [if_neg (F_ ef)])
  refine CD.exit ?_
  refine sr_ ?_
  refine om_ ?_
  refine OD.callX wp_ rfl rfl rfl Tryd.call49 (mark_vx l hl ((q + 1) + 1) ⟨#[41]⟩ ad n cap br) ⟨ot, opd_const, trivial⟩ (List.Perm.swap _ _ _) (fun ch hch => (Or.inr ⟨ch, rfl, ⟨_, _, hR9.trans (by rw [mark_no hch.1]; rfl), hch.2⟩⟩ : BodyX _ _ _ _ _ _)) ?_
  rintro _ _ ⟨hm10, rfl⟩
  refine OD.perm (S' := ⟨b4, 95, 2, [.v (.string s), .v (.int .i64 (kindP l (q + 1)))]⟩ :: ⟨br, 70, 3, [.list 3 (l.flatMap cT) l.length, .v (.int .i64 (((((q + 1) + 1) + 1) : Nat) : Int)), .v (.slice ad n cap)]⟩ :: [⟨b59, 95, cp59 * 2, List.flatMap cC ((out) ++ [ColL.mk s (kindP l (q + 1))])⟩]) (List.Perm.swap _ _ _) ?_
  have hR10 : R = .ok (out ++ [⟨s, kindP l (q + 1)⟩]) (((q + 1) + 1) + 1) os := hR9.trans (by rw [mark_yes hm10]; rfl)
  refine OD.wk (Wk.as_ (n := 66) (l' := [(3, _)]) (S' := (⟨b4, 95, 2, [_, _]⟩ :: ⟨br, 70, 3, [_, _, _]⟩ :: [⟨b59, 95, cp59 * 2, List.flatMap cC ((out) ++ [ColL.mk s (kindP l (q + 1))])⟩])) rfl rfl sl_) ?_
  refine OD.nil ?_
  refine sr_ ?_
  refine om_ ?_
  refine om_ ?_
  refine nm_ [2] ?_
  refine CD.giveL (t := 2) (Sq := [⟨b59, 95, cp59 * 2, List.flatMap cC ((out) ++ [ColL.mk s (kindP l (q + 1))])⟩]) lk (ownL_row h159 h259) (fm_len cC_len _) (perm_r11 (A := [_, _])) ?_
  refine CD.ret ?_
  refine Or.inl ?_
  refine ⟨.inr rfl, _, [⟨br, 70, 3, [.list 3 (l.flatMap cT) l.length, .v (.int .i64 (((((q + 1) + 1) + 1) : Nat) : Int)), .v (.slice ad n cap)]⟩], sw_, ret_one Tryd.results46 (res_tmp le_ lk), ?_⟩
  exact ⟨out ++ [⟨s, kindP l (q + 1)⟩], (((q + 1) + 1) + 1), os, _, _, _, hR10, ⟨rfl, by simp; omega⟩, (isQ_lt hm10), rfl⟩
 have hc5' := hc5
 (try simp only [V.cnd, ne_eq] at hc5')
 have et : isQ l ((q + 1) + 1) 4 ⟨#[44]⟩ = true := by simpa using hc5
 rw [et]
 simp only [if_true]
 have hR11 : R = colsP l f (out ++ [⟨s, kindP l (q + 1)⟩]) (((q + 1) + 1) + 1) os := hR8.trans (by rw [if_pos et])
 refine CD.skip ?_
 refine ⟨(f, (out ++ [ColL.mk s (kindP l (q + 1))]), (((q + 1) + 1) + 1), (some ⟨b59, 0, none⟩), cp59, [⟨b59, 95, cp59 * 2, List.flatMap cC ((out) ++ [ColL.mk s (kindP l (q + 1))])⟩]), _, ?_, ?_, (by simp; omega), (by simp; omega), (isQ_lt et), hR11, (OwnL.cast (ownL_row h159 h259) (by rfl)), rfl⟩
 ·first | omega | (simp only []; omega)
 exact Wk.asS (n := 66) rfl su_ (by repeat (first | exact trivial | refine ⟨(by (repeat (first | exact look_hit | (apply look_at; focus (first | rfl | (simp; done) | (congr 2; omega) | (apply row_eq; rfl) | (apply row_eq; rfl) | (apply row_eq; simp; done))) | (apply look_miss; focus rfl))); done), ?_⟩))

end Go.Proofs.YtjgekbmahhhokaaDoor.Pa

namespace Go.Proofs.YtjgekbmahhhokaaDoor.Pa
open Go.RowKit V Pk Go.Proofs.YtjgekbmahhhokaaDoor.Vl Go.Proofs.YtjgekbmahhhokaaDoor.Nm
set_option linter.unusedVariables false
set_option linter.unusedSimpArgs false

theorem cT_one (t : Tk) : (cT t).all V.one = true := rfl
variable {G : List (Nat × List Value)}

def okV (v : Vl) : Prop := (v.k = 1 → v.n = 0 ∨ v.n = 1) ∧ -9223372036854775807 ≤ v.n ∧ v.n ≤ 9223372036854775807
end Go.Proofs.YtjgekbmahhhokaaDoor.Pa

namespace Go.Proofs.YtjgekbmahhhokaaDoor.Pa
end Go.Proofs.YtjgekbmahhhokaaDoor.Pa


namespace Go.Proofs.YtjgekbmahhhokaaDoor.Pa
open Go.RowKit V Pk Go.Proofs.YtjgekbmahhhokaaDoor.Vl Go.Proofs.YtjgekbmahhhokaaDoor.Nm
set_option linter.unusedVariables false
set_option linter.unusedSimpArgs false

theorem ns_bind {α β : Type} {r : Rs α} {f : α → Nat → List OpL → Rs β} (h : r ≠ .stuck) (k : ∀ v p o, r = .ok v p o → f v p o ≠ .stuck) : r.bind f ≠ .stuck := by
 cases r with
 | ok v p o => exact k v p o rfl
 | no p e => exact fun h => by cases h
 | stuck => exact absurd rfl h
theorem ns_ok {α : Type} {v : α} {p : Nat} {o : List OpL} : (Rs.ok v p o) ≠ .stuck := fun h => by cases h
theorem ns_gv {α : Type} {l : List Tk} {p : Nat} {e : Int} : (gv l p e : Rs α) ≠ .stuck := fun h => by cases h
theorem ns_put {l : List Tk} {o : OpL} {p : Nat} {ops : List OpL} : putP l o p ops ≠ .stuck := by
 unfold putP; split <;> first | exact ns_gv | exact ns_ok
theorem ns_mark {l : List Tk} {s : ByteArray} {p : Nat} {ops : List OpL} : markP l s p ops ≠ .stuck := by
 unfold markP; split <;> first | exact ns_gv | exact ns_ok
theorem ns_name {l : List Tk} {p : Nat} {ops : List OpL} : nameP l p ops ≠ .stuck := by
 unfold nameP; repeat' split
 all_goals first | exact ns_gv | exact ns_ok
theorem ns_lit {l : List Tk} {p : Nat} {ops : List OpL} : litP l p ops ≠ .stuck := by
 unfold litP; repeat' split
 all_goals first | exact ns_gv | exact ns_ok
theorem ns_must {l : List Tk} : ∀ (ss : List ByteArray) {p : Nat} {ops : List OpL}, mustP l ss p ops ≠ .stuck
 | [], _, _ => ns_ok
 | s :: r, p, ops => by
  rw [mustP]; split
  ·exact ns_must r
  exact ns_gv
def rk : Lv → Nat
 | .prod => 2
 | .sum => 3
 | .comp => 4
 | .not => 5
 | .and => 6
 | .or => 7
 | _ => 1
theorem exP_ns {l : List Tk} : ∀ (n : Nat) (lv : Lv) (p : Nat) (ops : List OpL), p ≤ l.length → 12 * (l.length - p) + rk lv ≤ n → exP l n lv p ops ≠ .stuck
 | 0, lv, _, _, _, h => absurd h (by have : 0 < rk lv := (by cases lv <;> decide); omega)
 | n + 1, .prim, p, ops, hp, h => by
  simp only [rk] at h
  rw [exP]
  refine ns_bind ns_lit fun v p1 o1 h1 => ?_
  have := lit_le h1 hp
  split
  ·exact ns_put
  split
  ·have h2 := isQ_lt (by assumption)
   exact ns_bind (exP_ns n _ _ _ h2 (by simp only [rk]; omega)) fun _ _ _ _ => ns_mark
  exact ns_bind ns_name fun _ _ _ _ => ns_put
 | n + 1, .prod, p, ops, hp, h => by
  simp only [rk] at h
  rw [exP]
  refine ns_bind (exP_ns n _ _ _ hp (by simp only [rk]; omega)) fun _ p1 o1 h1 => ?_
  have g := exP_gr n .prim h1 hp
  exact exP_ns n _ _ _ g.2.1 (by have := g.2.2.1; simp only [rk, wL] at *; omega)
 | n + 1, .sum, p, ops, hp, h => by
  simp only [rk] at h
  rw [exP]
  refine ns_bind (exP_ns n _ _ _ hp (by simp only [rk]; omega)) fun _ p1 o1 h1 => ?_
  have g := exP_gr n .prod h1 hp
  exact exP_ns n _ _ _ g.2.1 (by have := g.2.2.1; simp only [rk, wL] at *; omega)
 | n + 1, .and, p, ops, hp, h => by
  simp only [rk] at h
  rw [exP]
  refine ns_bind (exP_ns n _ _ _ hp (by simp only [rk]; omega)) fun _ p1 o1 h1 => ?_
  have g := exP_gr n .not h1 hp
  exact exP_ns n _ _ _ g.2.1 (by have := g.2.2.1; simp only [rk, wL] at *; omega)
 | n + 1, .or, p, ops, hp, h => by
  simp only [rk] at h
  rw [exP]
  refine ns_bind (exP_ns n _ _ _ hp (by simp only [rk]; omega)) fun _ p1 o1 h1 => ?_
  have g := exP_gr n .and h1 hp
  exact exP_ns n _ _ _ g.2.1 (by have := g.2.2.1; simp only [rk, wL] at *; omega)
 | n + 1, .not, p, ops, hp, h => by
  simp only [rk] at h
  rw [exP]
  split
  ·have h2 := isQ_lt (by assumption)
   exact ns_bind (exP_ns n _ _ _ h2 (by simp only [rk]; omega)) fun _ _ _ _ => ns_put
  exact exP_ns n _ _ _ hp (by simp only [rk]; omega)
 | n + 1, .comp, p, ops, hp, h => by
  simp only [rk] at h
  rw [exP]
  refine ns_bind (exP_ns n _ _ _ hp (by simp only [rk]; omega)) fun _ p1 o1 h1 => ?_
  have g := exP_gr n .sum h1 hp
  have g2 := g.2.2.1
  simp only [wL] at g2
  split
  ·refine ns_bind (ns_must _) fun _ _ _ _ => ns_bind ns_put fun _ _ _ _ => ?_
   split
   ·exact ns_put
   exact ns_ok
  split
  ·exact ns_ok
  have hm := List.find?_some (by assumption)
  have h2 := isQ_lt (by simpa using hm)
  refine ns_bind (exP_ns n _ _ _ h2 (by simp only [rk]; omega)) fun _ _ _ _ => ns_bind ns_put fun _ _ _ _ => ?_
  split
  ·exact ns_put
  exact ns_ok
 | n + 1, .prodL, p, ops, hp, h => by
  simp only [rk] at h
  rw [exP]
  split
  ·have h2 := isQ_lt (by assumption)
   refine ns_bind (exP_ns n _ _ _ h2 (by simp only [rk]; omega)) fun _ p1 o1 h1 => ns_bind ns_put fun _ p2 o2 h3 => ?_
   have g := exP_gr n _ h1 h2
   obtain ⟨rfl, -, -⟩ := put_inv h3
   exact exP_ns n _ _ _ g.2.1 (by have := g.2.2.1; simp only [rk, wL] at *; omega)
  exact ns_ok
 | n + 1, .andL, p, ops, hp, h => by
  simp only [rk] at h
  rw [exP]
  split
  ·have h2 := isQ_lt (by assumption)
   refine ns_bind (exP_ns n _ _ _ h2 (by simp only [rk]; omega)) fun _ p1 o1 h1 => ns_bind ns_put fun _ p2 o2 h3 => ?_
   have g := exP_gr n _ h1 h2
   obtain ⟨rfl, -, -⟩ := put_inv h3
   exact exP_ns n _ _ _ g.2.1 (by have := g.2.2.1; simp only [rk, wL] at *; omega)
  exact ns_ok
 | n + 1, .orL, p, ops, hp, h => by
  simp only [rk] at h
  rw [exP]
  split
  ·have h2 := isQ_lt (by assumption)
   refine ns_bind (exP_ns n _ _ _ h2 (by simp only [rk]; omega)) fun _ p1 o1 h1 => ns_bind ns_put fun _ p2 o2 h3 => ?_
   have g := exP_gr n _ h1 h2
   obtain ⟨rfl, -, -⟩ := put_inv h3
   exact exP_ns n _ _ _ g.2.1 (by have := g.2.2.1; simp only [rk, wL] at *; omega)
  exact ns_ok
 | n + 1, .sumL, p, ops, hp, h => by
  simp only [rk] at h
  rw [exP]
  split
  ·have h2 := isQ_lt (by assumption)
   refine ns_bind (exP_ns n _ _ _ h2 (by simp only [rk]; omega)) fun _ p1 o1 h1 => ns_bind ns_put fun _ p2 o2 h3 => ?_
   have g := exP_gr n _ h1 h2
   obtain ⟨rfl, -, -⟩ := put_inv h3
   exact exP_ns n _ _ _ g.2.1 (by have := g.2.2.1; simp only [rk, wL] at *; omega)
  split
  ·have h2 := isQ_lt (by assumption)
   refine ns_bind (exP_ns n _ _ _ h2 (by simp only [rk]; omega)) fun _ p1 o1 h1 => ns_bind ns_put fun _ p2 o2 h3 => ?_
   have g := exP_gr n _ h1 h2
   obtain ⟨rfl, -, -⟩ := put_inv h3
   exact exP_ns n _ _ _ g.2.1 (by have := g.2.2.1; simp only [rk, wL] at *; omega)
  exact ns_ok
theorem ns_expr {l : List Tk} {p : Nat} (hp : p ≤ l.length) : exprP l p ≠ .stuck := ns_bind (exP_ns _ _ _ _ hp (by simp only [rk]; omega)) fun _ _ _ _ => ns_ok
theorem ns_where {l : List Tk} {p : Nat} {ops : List OpL} : whereP l p ops ≠ .stuck := by
 unfold whereP; split
 ·exact ns_expr (isQ_lt (by assumption))
 exact ns_ok
end Go.Proofs.YtjgekbmahhhokaaDoor.Pa

namespace Go.Proofs.YtjgekbmahhhokaaDoor.Pa
open Go.RowKit V Pk Go.Proofs.YtjgekbmahhhokaaDoor.Vl Go.Proofs.YtjgekbmahhhokaaDoor.Nm
set_option linter.unusedVariables false
set_option linter.unusedSimpArgs false

variable {G : List (Nat × List Value)}
def cSt (s : StL) : List D := [.v (.int .i64 s.kind), .v (.string s.table), .list 2 (s.cols.flatMap cC) s.cols.length, .list 3 (s.row.flatMap cV) s.row.length, .list 1 (s.names.flatMap cS) s.names.length, .v (.bool s.count), .list 5 (s.wher.flatMap cO) s.wher.length, .v (.string s.order), .v (.bool s.down), .v (.int .i64 s.limit), .v (.string s.set), .list 5 (s.to.flatMap cO) s.to.length]
def okS (s : StL) : Prop := s.cols.length ≤ 6 ∧ s.row.length ≤ 6 ∧ s.names.length ≤ 6 ∧ s.wher.length ≤ 40 ∧ s.to.length ≤ 40
def EndS (br bs : Nat) (l : List Tk) (R : Rs StL) (S' : List Blk) : Prop := ∃ s p os ad n cap, R = .ok s p os ∧ okS s ∧ p ≤ l.length ∧ S' = [⟨br, 70, 3, [.list 3 (l.flatMap cT) l.length, .v (.int .i64 ((p : Nat) : Int)), .v (.slice ad n cap)]⟩, ⟨bs, 32, 12, [.v (.int .i64 s.kind), .v (.string s.table), .list 2 (s.cols.flatMap cC) s.cols.length, .list 3 (s.row.flatMap cV) s.row.length, .list 1 (s.names.flatMap cS) s.names.length, .v (.bool s.count), .list 5 (s.wher.flatMap cO) s.wher.length, .v (.string s.order), .v (.bool s.down), .v (.int .i64 s.limit), .v (.string s.set), .list 5 (s.to.flatMap cO) s.to.length]⟩]
def countR (l : List Tk) (p : Nat) (ops : List OpL) : Rs (List ByteArray × Bool) := (markP l ⟨#[42]⟩ p ops).bind fun _ p ops => (markP l ⟨#[41]⟩ p ops).bind fun _ p ops => .ok ([], true) p ops
def countR2 (l : List Tk) (p : Nat) (ops : List OpL) : Rs (List ByteArray × Bool) := (markP l ⟨#[41]⟩ p ops).bind fun _ p ops => .ok ([], true) p ops
theorem head_1 {l : List Tk} {p : Nat} {ops : List OpL} (h : isQ l p 4 ⟨#[42]⟩ = true) : (headP l p ops).bind (pickK l) = pickK l ([], false) (p + 1) ops := by unfold headP; rw [if_pos h]; rfl
theorem head_2 {l : List Tk} {p : Nat} {ops : List OpL} (h : isQ l p 4 ⟨#[42]⟩ = false) (h2 : isQ l p 1 ⟨#[67, 79, 85, 78, 84]⟩ = true) : (headP l p ops).bind (pickK l) = (markP l ⟨#[40]⟩ (p + 1) ops).bind fun _ p ops => (countR l p ops).bind (pickK l) := by
 unfold headP; rw [if_neg (F_ h), if_pos h2]
 cases markP l ⟨#[40]⟩ (p + 1) ops <;> rfl
theorem head_3 {l : List Tk} {p : Nat} {ops : List OpL} (h : isQ l p 4 ⟨#[42]⟩ = false) (h2 : isQ l p 1 ⟨#[67, 79, 85, 78, 84]⟩ = false) : (headP l p ops).bind (pickK l) = (namesP l 8 [] p ops).bind fun ns p ops => pickK l (ns, false) p ops := by
 unfold headP; rw [if_neg (F_ h), if_neg (F_ h2)]
 cases namesP l 8 [] p ops <;> rfl
theorem count_1 {l : List Tk} {p : Nat} {ops : List OpL} : (countR l p ops).bind (pickK l) = (markP l ⟨#[42]⟩ p ops).bind fun _ p ops => (countR2 l p ops).bind (pickK l) := by
 unfold countR; cases markP l ⟨#[42]⟩ p ops <;> rfl
theorem count_2 {l : List Tk} {p : Nat} {ops : List OpL} : (countR2 l p ops).bind (pickK l) = (markP l ⟨#[41]⟩ p ops).bind fun _ p ops => pickK l ([], true) p ops := by
 unfold countR2; cases markP l ⟨#[41]⟩ p ops <;> rfl
theorem names_1 {l : List Tk} {n : Nat} {out : List ByteArray} {p : Nat} {ops : List OpL} (h : ¬ out.length = 6) : (namesP l (n + 1) out p ops).bind (fun ns p ops => pickK l (ns, false) p ops) =
  (nameP l p ops).bind fun s p1 ops1 => (if isQ l p1 4 ⟨#[44]⟩ = true then namesP l n (out ++ [s]) (p1 + 1) ops1 else .ok (out ++ [s]) p1 ops1).bind fun ns p ops => pickK l (ns, false) p ops := by
 rw [namesP, if_neg h]; cases nameP l p ops <;> rfl
theorem lim_1 {l : List Tk} {s : StL} {p : Nat} {ops : List OpL} (h : isQ l p 1 ⟨#[76, 73, 77, 73, 84]⟩ = true) (h2 : p + 1 < l.length) (hk : (l[p + 1]'h2).k = 2) : limP l s p ops = .ok { s with limit := (l[p + 1]'h2).n } (p + 2) ops := by
 unfold limP; rw [if_pos h, dif_pos ⟨h2, by rw [tk_at h2]; exact hk⟩]
theorem lim_2 {l : List Tk} {s : StL} {p : Nat} {ops : List OpL} (h : isQ l p 1 ⟨#[76, 73, 77, 73, 84]⟩ = true) (h2 : ¬ (p + 1 < l.length ∧ (l.getD (p + 1) ⟨0, ⟨#[]⟩, 0⟩).k = 2)) : limP l s p ops = gv l (p + 1) 6 := by
 unfold limP; rw [if_pos h, dif_neg h2]
theorem lim_3 {l : List Tk} {s : StL} {p : Nat} {ops : List OpL} (h : isQ l p 1 ⟨#[76, 73, 77, 73, 84]⟩ = false) : limP l s p ops = .ok s p ops := by
 unfold limP; rw [if_neg (F_ h)]

theorem info9_Pba : (Tryd.prog.info? 9).map (fun i => (i.zero, i.size, i.bytes)) = some (some (.string ⟨#[]⟩), 1, 16) := by kernel_rfl

set_option maxHeartbeats 4000000 in
set_option maxRecDepth 100000 in
theorem pick_vx {br : Nat} {l : List Tk} (hl : l.length ≤ 100) (hm : (0, marksC) ∈ G) (hw : (2, wordsC) ∈ G) (hk : (5, cmpC) ∈ G) (ht : ∀ t ∈ l, t.s.size ≤ maxLen ∧ (t.k = 2 → 0 ≤ t.n ∧ t.n ≤ 9223372036854775807)) (p : Nat) (hp : p ≤ l.length) (os : List OpL) (R : Rs StL) (hR : R = pickP l p os) (ad : Option Addr) (n cap bs : Nat) : VX Tryd.prog G 48 [.v (.pointer (some ⟨br, 0, none⟩)), .v (.pointer (some ⟨bs, 0, none⟩))] [⟨br, 70, 3, [.list 3 (l.flatMap cT) l.length, .v (.int .i64 ((p : Nat) : Int)), .v (.slice ad n cap)]⟩, ⟨bs, 32, 12, [.v (.int .i64 4), .v (.string ⟨#[]⟩), .list 2 [] 0, .list 3 [] 0, .v (.slice none 0 0), .v (.bool false), .list 5 [] 0, .v (.string ⟨#[]⟩), .v (.bool false), .v (.int .i64 (-1)), .v (.string ⟨#[]⟩), .list 5 [] 0]⟩] (fun r S' => EndS br bs l R S') (PanX R) := by
 refine VX.body Tryd.func48 rfl Tryd.ntmps48 le_ fun X0 w0 S00 => ?_
 refine CD.cut (fun y__ => ∃ (hn : List ByteArray), ∃ (hb : Bool), ∃ (q : Nat), ∃ (os : List OpL), ∃ (ad : Option Addr), ∃ (n : Nat), ∃ (cap : Nat), (hn.length ≤ 6) ∧ (q ≤ l.length) ∧ (R = pickK l (hn, hb) q os) ∧ y__ = (⟨118, [(0, .v (.pointer (some ⟨br, 0, none⟩))), (1, .v (.pointer (some ⟨bs, 0, none⟩)))], [⟨br, 70, 3, [.list 3 (l.flatMap cT) l.length, .v (.int .i64 ((q : Nat) : Int)), .v (.slice ad n cap)]⟩, ⟨bs, 32, 12, [.v (.int .i64 4), .v (.string ⟨#[]⟩), .list 2 [] 0, .list 3 [] 0, .list 1 (hn.flatMap cS) hn.length, .v (.bool hb), .list 5 [] 0, .v (.string ⟨#[]⟩), .v (.bool false), .v (.int .i64 (-1)), .v (.string ⟨#[]⟩), .list 5 [] 0]⟩]⟩ : St)) ?_ ?_
 ·skip
  refine CD.block ?_
  refine CD.seq ?_
  refine CD.region ?_
  refine om_ ?_
  refine OD.call wp_ rfl rfl rfl Tryd.call43 (eat_vc l hl p 4 ⟨#[42]⟩ ad n cap br) ⟨ot, opd_const, opd_const, trivial⟩ (List.Perm.refl _) ?_
  rintro _ _ ⟨rfl, rfl⟩
  refine OD.perm (S' := ⟨br, 70, 3, [.list 3 (l.flatMap cT) l.length, .v (.int .i64 (((if isQ l p 4 ⟨#[42]⟩ = true then p + 1 else p) : Nat) : Int)), .v (.slice ad n cap)]⟩ :: [⟨bs, 32, 12, [_, _, _, _, _, _, _, _, _, _, _, _]⟩]) (List.Perm.refl _) ?_
  refine om_ ?_
  refine on_ [(0, _), (1, _), (26, _)] [⟨br, 70, 3, [_, _, _]⟩, ⟨bs, 32, 12, [_, _, _, _, _, _, _, _, _, _, _, _]⟩] ?_
  refine CD.cond ot (fun hc0 => ?_) (fun hc0 => ?_)
  ·have hc0' := hc0
   (try simp only [V.cnd, ne_eq] at hc0')
   have et : isQ l p 4 ⟨#[42]⟩ = true := hc0
   rw [et]
   simp only [if_true]
   have hR1 : R = pickK l ([], false) (p + 1) os := hR.trans (head_1 et)
   refine CD.cells (k := 1) (cs' := [_, _, _, _, .list 1 [] 0, _, _, _, _, _, _, _]) (S' := [⟨br, 70, 3, [.list 3 (l.flatMap cT) l.length, .v (.int .i64 (((p + 1) : Nat) : Int)), .v (.slice ad n cap)]⟩, ⟨bs, 32, 12, [_, _, _, _, _, _, _, _, _, _, _, _]⟩]) rfl (by repeat (first | exact trivial | exact ⟨gv_rfl, trivial⟩ | exact ⟨gv_nil, trivial⟩ | refine ⟨gv_rfl, ?_⟩ | refine ⟨gv_nil, ?_⟩)) rfl ?_
   refine CD.skip ?_
   refine ⟨_, ?_, [], false, (p + 1), os, ad, n, cap, (by decide), (isQ_lt et), hR1, rfl⟩
   exact Wk.asS (n := 118) rfl (List.Sublist.refl _) sq_
  have hc0' := hc0
  (try simp only [V.cnd, ne_eq] at hc0')
  have ef : isQ l p 4 ⟨#[42]⟩ = false := hc0
  rw [ef]
  simp only [Bool.false_eq_true, if_false]
  refine sr_ ?_
  refine om_ ?_
  refine OD.call wp_ rfl rfl rfl Tryd.call43 (eat_vc l hl p 1 ⟨#[67, 79, 85, 78, 84]⟩ ad n cap br) ⟨ot, opd_const, opd_const, trivial⟩ (List.Perm.refl _) ?_
  rintro _ _ ⟨rfl, rfl⟩
  refine OD.perm (S' := ⟨br, 70, 3, [.list 3 (l.flatMap cT) l.length, .v (.int .i64 (((if isQ l p 1 ⟨#[67, 79, 85, 78, 84]⟩ = true then p + 1 else p) : Nat) : Int)), .v (.slice ad n cap)]⟩ :: [⟨bs, 32, 12, [_, _, _, _, _, _, _, _, _, _, _, _]⟩]) (List.Perm.refl _) ?_
  refine om_ ?_
  refine on_ [(0, _), (1, _), (29, _)] [⟨br, 70, 3, [_, _, _]⟩, ⟨bs, 32, 12, [_, _, _, _, _, _, _, _, _, _, _, _]⟩] ?_
  refine CD.cond ot (fun hc1 => ?_) (fun hc1 => ?_)
  ·have hc1' := hc1
   (try simp only [V.cnd, ne_eq] at hc1')
   have e1t : isQ l p 1 ⟨#[67, 79, 85, 78, 84]⟩ = true := hc1
   rw [e1t]
   simp only [if_true]
   have hR2 : R = (markP l ⟨#[40]⟩ (p + 1) os).bind (fun _ p ops => (countR l p ops).bind (pickK l)) := hR.trans (head_2 ef e1t)
   refine CD.cells (k := 1) (cs' := [_, _, _, _, .list 1 [] 0, _, _, _, _, _, _, _]) (S' := [⟨br, 70, 3, [.list 3 (l.flatMap cT) l.length, .v (.int .i64 (((p + 1) : Nat) : Int)), .v (.slice ad n cap)]⟩, ⟨bs, 32, 12, [_, _, _, _, _, _, _, _, _, _, _, _]⟩]) rfl (by repeat (first | exact trivial | exact ⟨gv_rfl, trivial⟩ | exact ⟨gv_nil, trivial⟩ | refine ⟨gv_rfl, ?_⟩ | refine ⟨gv_nil, ?_⟩)) rfl ?_
   refine sr_ ?_
   refine om_ ?_
   refine OD.callX wp_ rfl rfl rfl Tryd.call49 (mark_vx l hl (p + 1) ⟨#[40]⟩ ad n cap br) ⟨ot, opd_const, trivial⟩ (List.Perm.refl _) (fun ch hch => (Or.inr ⟨ch, rfl, ⟨_, _, hR2.trans (by rw [mark_no hch.1]; rfl), hch.2⟩⟩ : BodyX _ _ _ _ _ _)) ?_
   rintro _ _ ⟨hm3, rfl⟩
   refine OD.perm (S' := ⟨br, 70, 3, [.list 3 (l.flatMap cT) l.length, .v (.int .i64 ((((p + 1) + 1) : Nat) : Int)), .v (.slice ad n cap)]⟩ :: [⟨bs, 32, 12, [_, _, _, _, _, _, _, _, _, _, _, _]⟩]) (List.Perm.refl _) ?_
   have hR3 : R = (countR l ((p + 1) + 1) os).bind (pickK l) := hR2.trans (by rw [mark_yes hm3]; rfl)
   refine on_ [(0, _), (1, _)] [⟨br, 70, 3, [_, _, _]⟩, ⟨bs, 32, 12, [_, _, _, _, _, _, _, _, _, _, _, _]⟩] ?_
   refine CD.seq ?_
   have hR4 : R = (markP l ⟨#[42]⟩ ((p + 1) + 1) os).bind (fun _ p ops => (countR2 l p ops).bind (pickK l)) := hR3.trans (count_1)
   refine CD.region ?_
   refine om_ ?_
   refine OD.callX wp_ rfl rfl rfl Tryd.call49 (mark_vx l hl ((p + 1) + 1) ⟨#[42]⟩ ad n cap br) ⟨ot, opd_const, trivial⟩ (List.Perm.refl _) (fun ch hch => (Or.inr ⟨ch, rfl, ⟨_, _, hR4.trans (by rw [mark_no hch.1]; rfl), hch.2⟩⟩ : BodyX _ _ _ _ _ _)) ?_
   rintro _ _ ⟨hm5, rfl⟩
   refine OD.perm (S' := ⟨br, 70, 3, [.list 3 (l.flatMap cT) l.length, .v (.int .i64 (((((p + 1) + 1) + 1) : Nat) : Int)), .v (.slice ad n cap)]⟩ :: [⟨bs, 32, 12, [_, _, _, _, _, _, _, _, _, _, _, _]⟩]) (List.Perm.refl _) ?_
   have hR5 : R = (countR2 l (((p + 1) + 1) + 1) os).bind (pickK l) := hR4.trans (by rw [mark_yes hm5]; rfl)
   refine on_ [(0, _), (1, _)] [⟨br, 70, 3, [_, _, _]⟩, ⟨bs, 32, 12, [_, _, _, _, _, _, _, _, _, _, _, _]⟩] ?_
   refine CD.seq ?_
   have hR6 : R = (markP l ⟨#[41]⟩ (((p + 1) + 1) + 1) os).bind (fun _ p ops => pickK l ([], true) p ops) := hR5.trans (count_2)
   refine CD.region ?_
   refine om_ ?_
   refine OD.callX wp_ rfl rfl rfl Tryd.call49 (mark_vx l hl (((p + 1) + 1) + 1) ⟨#[41]⟩ ad n cap br) ⟨ot, opd_const, trivial⟩ (List.Perm.refl _) (fun ch hch => (Or.inr ⟨ch, rfl, ⟨_, _, hR6.trans (by rw [mark_no hch.1]; rfl), hch.2⟩⟩ : BodyX _ _ _ _ _ _)) ?_
   rintro _ _ ⟨hm7, rfl⟩
   refine OD.perm (S' := ⟨br, 70, 3, [.list 3 (l.flatMap cT) l.length, .v (.int .i64 ((((((p + 1) + 1) + 1) + 1) : Nat) : Int)), .v (.slice ad n cap)]⟩ :: [⟨bs, 32, 12, [_, _, _, _, _, _, _, _, _, _, _, _]⟩]) (List.Perm.refl _) ?_
   have hR7 : R = pickK l ([], true) ((((p + 1) + 1) + 1) + 1) os := hR6.trans (by rw [mark_yes hm7]; rfl)
   refine on_ [(0, _), (1, _)] [⟨br, 70, 3, [_, _, _]⟩, ⟨bs, 32, 12, [_, _, _, _, _, _, _, _, _, _, _, _]⟩] ?_
   refine CD.region ?_
   refine om_ ?_
   refine os_ nc_ ?_
   refine os_ (fa_ 5) ?_
   refine ot_ 1 [_, _, _, _, _, _, _, _, _, _, _, _] Tryd.sizeOf4 ?_
   refine on_ [(0, _), (1, _)] [⟨br, 70, 3, [_, _, _]⟩, ⟨bs, 32, 12, [_, _, _, _, _, _, _, _, _, _, _, _]⟩] ?_
   refine ⟨_, ?_, [], true, ((((p + 1) + 1) + 1) + 1), os, ad, n, cap, (by decide), (isQ_lt hm7), hR7, rfl⟩
   exact Wk.asS (n := 118) rfl (List.Sublist.refl _) sq_
  have hc1' := hc1
  (try simp only [V.cnd, ne_eq] at hc1')
  have e1f : isQ l p 1 ⟨#[67, 79, 85, 78, 84]⟩ = false := hc1
  rw [e1f]
  simp only [Bool.false_eq_true, if_false]
  have hR8 : R = (namesP l 8 [] p os).bind (fun ns p ops => pickK l (ns, false) p ops) := hR.trans (head_3 ef e1f)
  refine CD.block ?_
  refine lp_ (fun (gh__ : Nat × List ByteArray × Nat × Option Addr × Nat × List Blk) y__ => match gh__ with | (f, out, q, ado, cpo, So) => (f + out.length = 8) ∧ (out.length ≤ 6) ∧ (q ≤ l.length) ∧ (R = (namesP l f out q os).bind fun ns p ops => pickK l (ns, false) p ops) ∧ (OwnL 9 1 ((out).flatMap cS) (out).length ado cpo So) ∧ y__ = (⟨118, [(0, .v (.pointer (some ⟨br, 0, none⟩))), (1, .v (.pointer (some ⟨bs, 0, none⟩)))], (⟨br, 70, 3, [.list 3 (l.flatMap cT) l.length, .v (.int .i64 ((q : Nat) : Int)), .v (.slice ad n cap)]⟩ :: ⟨bs, 32, 12, [.v (.int .i64 4), .v (.string ⟨#[]⟩), .list 2 [] 0, .list 3 [] 0, .v (.slice ado out.length cpo), .v (.bool false), .list 5 [] 0, .v (.string ⟨#[]⟩), .v (.bool false), .v (.int .i64 (-1)), .v (.string ⟨#[]⟩), .list 5 [] 0]⟩ :: So)⟩ : St)) (fun (gh__ : Nat × List ByteArray × Nat × Option Addr × Nat × List Blk) => match gh__ with | (f, out, q, ado, cpo, So) => f) (8, [], p, none, 0, []) ⟨rfl, (by decide), hp, hR8, (OwnL.cast ownL_nil (by rfl)), rfl⟩ (Wk.asS rfl su_ (by repeat (first | exact trivial | refine ⟨(by (repeat (first | exact look_hit | (apply look_at; focus (first | rfl | (simp; done) | (congr 2; omega) | (apply row_eq; rfl) | (apply row_eq; rfl) | (apply row_eq; simp; done))) | (apply look_miss; focus rfl))); done), ?_⟩))) ?_
  rintro ⟨f, out, q, ado, cpo, So⟩ _ ⟨hfo, ho6, hpl, hRl, hoo, rfl⟩
  rcases f with _ | f
  ·omega
  refine CD.block ?_
  refine CD.seq ?_
  refine sr_ ?_
  refine om_ ?_
  refine os_ nc_ ?_
  refine os_ (fa_ 4) ?_
  refine os_ (lb_ 1) ?_
  refine os_ ln_ ?_
  refine os_ bn_ ?_
  refine nm_ [0, 1, 9] ?_
  refine CD.cond ot (fun hc2 => ?_) (fun hc2 => ?_)
  ·have hc2' := hc2
   (try simp only [V.cnd, ne_eq] at hc2')
   have h6 : out.length = 6 := by simp at hc2; omega
   have hR9 : R = gv l q 10 := hRl.trans (by rw [namesP, if_pos h6]; rfl)
   refine CD.region ?_
   refine om_ ?_
   exact OD.callX wp_ rfl rfl rfl Tryd.call26 (give_vx l hl q 10 ad n cap br) ⟨ot, opd_const, trivial⟩ (List.Perm.refl _) (fun ch hch => (Or.inr ⟨ch, rfl, ⟨_, _, hR9, hch⟩⟩ : BodyX _ _ _ _ _ _)) (fun r S' h => h.elim)
  have hc2' := hc2
  (try simp only [V.cnd, ne_eq] at hc2')
  have h6 : ¬ out.length = 6 := by simp at hc2; omega
  have hR10 : R = (nameP l q os).bind (fun s p1 ops1 => (if isQ l p1 4 ⟨#[44]⟩ = true then namesP l f (out ++ [s]) (p1 + 1) ops1 else .ok (out ++ [s]) p1 ops1).bind fun ns p ops => pickK l (ns, false) p ops) := hRl.trans (names_1 h6)
  refine CD.skip ?_
  refine CD.seq ?_
  refine CD.draw (bks (List.take 0 _)) kr_ (fun _ h => (List.Sublist.map _ (List.take_sublist _ _)).subset h) ?_
  refine a0_ 0 rfl mv_ ?_
  refine a0_ 1 rfl mv_ ?_
  refine a0_ 2 rfl nc_ ?_
  refine a0_ 3 rfl (fa_ 4) ?_
  refine a0_ 5 rfl mv_ ?_
  refine AD0.later rfl ?_
  refine AD.two (i := 4) (j := 6) kr_ ?_ ?_
  ·skip
   refine at_ rfl (lb_ 1) ?_
   refine AD.one (i := 6) kr_ ?_
   refine AStep.callX rfl wp_ rfl rfl rfl Tryd.call45 (name_vx hm hw l hl ht q ad n cap br) ⟨ot, trivial⟩ (List.Perm.refl _) (by intro b hb; cases hb) (fun ch hch => (Or.inr ⟨ch, rfl, by obtain ⟨q, e, h1, h2⟩ := hch; exact ⟨q, e, hR10.trans (by rw [h1]; rfl), h2⟩⟩ : BodyX _ _ _ _ _ _)) ?_
   rintro _ _ ⟨s, hr12, rfl, rfl⟩
   refine AD.perm (S' := ⟨br, 70, 3, [.list 3 (l.flatMap cT) l.length, .v (.int .i64 (((q + 1) : Nat) : Int)), .v (.slice ad n cap)]⟩ :: ⟨bs, 32, 12, [_, _, _, _, _, _, _, _, _, _, _, _]⟩ :: So) (List.Perm.refl _) ?_
   have hlt12 := (name_le (hr12 [])).2.2
   have hR12 : R = (if isQ l (q + 1) 4 ⟨#[44]⟩ = true then namesP l f (out ++ [s]) ((q + 1) + 1) os else .ok (out ++ [s]) (q + 1) os).bind fun ns p ops => pickK l (ns, false) p ops := hR10.trans (by rw [hr12]; rfl)
   refine AD.one (i := 7) kr_ ?_
   refine ab_ (numD 0 [_]) [.string ⟨#[]⟩] [_] Tryd.zeroValue9 Tryd.runUnderlying29 Tryd.sizeOf9 (fun b19 => ?_)
   refine ag_ 0 19 1 1 ?_
   refine AD.one (i := 8) kr_ ?_
   refine AStep.appendG (hT := by intro b hb; cases hb) (ls := (out)) (new := [s]) (Sq := So) cS_len cS_one rfl wp_ rfl rfl Tryd.underlying29 info9_Pba rfl (by decide) ot hoo (perm_r11 (A := [_, _])) ot (by simp) (by simp only [maxLen, List.length_append, List.length_cons, List.length_nil] at *; omega) (by simp only [maxLen, List.length_append, List.length_cons, List.length_nil] at *; omega) (fun b20 cp20 h120 h220 => ?_)
   refine AD.perm (perm_q11 (S1 := [⟨b20, 9, cp20 * 1, List.flatMap cS ((out) ++ [s])⟩]) (A := [_, _])) ?_
   refine a1_ 9 rfl nc_ ?_
   refine a1_ 10 rfl (fa_ 4) ?_
   refine AD.one (i := 11) kr_ ?_
   refine as_ 1 [_, _, _, _, _, _, _, _, _, _, _, _] Tryd.sizeOf29 ?_
   refine AD.wk (y := ⟨118, [(0, _), (1, _)], (⟨br, 70, 3, [_, _, _]⟩ :: ⟨bs, 32, 12, [_, _, _, _, _, _, _, _, _, _, _, _]⟩ :: [⟨b20, 9, cp20 * 1, List.flatMap cS ((out) ++ [s])⟩])⟩) (Wk.as_ rfl rfl sl_) rfl ?_
   refine AD.done kr_ ?_
   refine sr_ ?_
   refine om_ ?_
   refine OD.call wp_ rfl rfl rfl Tryd.call43 (eat_vc l hl (q + 1) 4 ⟨#[44]⟩ ad n cap br) ⟨ot, opd_const, opd_const, trivial⟩ (List.Perm.refl _) ?_
   rintro _ _ ⟨rfl, rfl⟩
   refine OD.perm (S' := ⟨br, 70, 3, [.list 3 (l.flatMap cT) l.length, .v (.int .i64 (((if isQ l (q + 1) 4 ⟨#[44]⟩ = true then (q + 1) + 1 else (q + 1)) : Nat) : Int)), .v (.slice ad n cap)]⟩ :: ⟨bs, 32, 12, [_, _, _, _, _, _, _, _, _, _, _, _]⟩ :: [⟨b20, 9, cp20 * 1, List.flatMap cS ((out) ++ [s])⟩]) (List.Perm.refl _) ?_
   refine os_ un_ ?_
   refine OD.wk (Wk.as_ (n := 118) (l' := [(0, _), (1, _), (25, _)]) (S' := (⟨br, 70, 3, [_, _, _]⟩ :: ⟨bs, 32, 12, [_, _, _, _, _, _, _, _, _, _, _, _]⟩ :: [⟨b20, 9, cp20 * 1, List.flatMap cS ((out) ++ [s])⟩])) rfl rfl sl_) ?_
   refine OD.nil ?_
   refine CD.cond ot (fun hc3 => ?_) (fun hc3 => ?_)
   ·have hc3' := hc3
    (try simp only [V.cnd, ne_eq] at hc3')
    have ef : isQ l (q + 1) 4 ⟨#[44]⟩ = false := by simpa using hc3
    rw [ef]
    simp only [Bool.false_eq_true, if_false]
    have hR13 : R = pickK l (out ++ [s], false) (q + 1) os := hR12.trans (by rw [if_neg (F_ ef)]; rfl)
    refine CD.giveCell (i := 4) (j := 1) (S' := [⟨br, 70, 3, [.list 3 (l.flatMap cT) l.length, .v (.int .i64 (((q + 1) : Nat) : Int)), .v (.slice ad n cap)]⟩, ⟨bs, 32, 12, [_, _, _, _, _, _, _, _, _, _, _, _]⟩]) (ownL_row h120 h220) (fm_len cS_len _) (perm_r11 (A := [_, _])) rfl rfl rfl rfl ?_
    refine CD.exit ?_
    refine ⟨_, ?_, (out ++ [s]), false, (q + 1), os, ad, n, cap, (by simp; omega), hlt12, hR13, rfl⟩
    exact Wk.asS (n := 118) rfl (List.Sublist.refl _) sq_
   have hc3' := hc3
   (try simp only [V.cnd, ne_eq] at hc3')
   have et : isQ l (q + 1) 4 ⟨#[44]⟩ = true := by simpa using hc3
   rw [et]
   simp only [if_true]
   have hR14 : R = (namesP l f (out ++ [s]) ((q + 1) + 1) os).bind fun ns p ops => pickK l (ns, false) p ops := hR12.trans (by rw [if_pos et])
   refine CD.skip ?_
   refine ⟨(f, (out ++ [s]), ((q + 1) + 1), (some ⟨b20, 0, none⟩), cp20, [⟨b20, 9, cp20 * 1, List.flatMap cS ((out) ++ [s])⟩]), _, ?_, ?_, (by simp; omega), (by simp; omega), (isQ_lt et), hR14, (OwnL.cast (ownL_row h120 h220) (by rfl)), rfl⟩
   ·first | omega | (simp only []; omega)
   exact Wk.asS (n := 118) rfl su_ (by repeat (first | exact trivial | refine ⟨(by (repeat (first | exact look_hit | (apply look_at; focus (first | rfl | (simp; done) | (congr 2; omega) | (apply row_eq; rfl) | (apply row_eq; rfl) | (apply row_eq; simp; done))) | (apply look_miss; focus rfl))); done), ?_⟩))
  refine AStep.callX rfl wp_ rfl rfl rfl Tryd.call45 (name_vx hm hw l hl ht q ad n cap br) ⟨ot, trivial⟩ (List.Perm.refl _) (by intro b hb; cases hb) (fun ch hch => (Or.inr ⟨ch, rfl, by obtain ⟨q, e, h1, h2⟩ := hch; exact ⟨q, e, hR10.trans (by rw [h1]; rfl), h2⟩⟩ : BodyX _ _ _ _ _ _)) ?_
  rintro _ _ ⟨s, hr16, rfl, rfl⟩
  refine AD.perm (S' := ⟨br, 70, 3, [.list 3 (l.flatMap cT) l.length, .v (.int .i64 (((q + 1) : Nat) : Int)), .v (.slice ad n cap)]⟩ :: ⟨bs, 32, 12, [_, _, _, _, _, _, _, _, _, _, _, _]⟩ :: So) (List.Perm.refl _) ?_
  have hlt16 := (name_le (hr16 [])).2.2
  have hR16 : R = (if isQ l (q + 1) 4 ⟨#[44]⟩ = true then namesP l f (out ++ [s]) ((q + 1) + 1) os else .ok (out ++ [s]) (q + 1) os).bind fun ns p ops => pickK l (ns, false) p ops := hR10.trans (by rw [hr16]; rfl)
  refine AD.two (i := 4) (j := 7) kr_ ?_ ?_
  ·skip
   refine at_ rfl (lb_ 1) ?_
   refine AD.one (i := 7) kr_ ?_
   refine ab_ (numD 0 [_]) [.string ⟨#[]⟩] [_] Tryd.zeroValue9 Tryd.runUnderlying29 Tryd.sizeOf9 (fun b19 => ?_)
   refine ag_ 0 19 1 1 ?_
   refine AD.one (i := 8) kr_ ?_
   refine AStep.appendG (hT := by intro b hb; cases hb) (ls := (out)) (new := [s]) (Sq := So) cS_len cS_one rfl wp_ rfl rfl Tryd.underlying29 info9_Pba rfl (by decide) ot hoo (perm_r11 (A := [_, _])) ot (by simp) (by simp only [maxLen, List.length_append, List.length_cons, List.length_nil] at *; omega) (by simp only [maxLen, List.length_append, List.length_cons, List.length_nil] at *; omega) (fun b20 cp20 h120 h220 => ?_)
   refine AD.perm (perm_q11 (S1 := [⟨b20, 9, cp20 * 1, List.flatMap cS ((out) ++ [s])⟩]) (A := [_, _])) ?_
   refine a1_ 9 rfl nc_ ?_
   refine a1_ 10 rfl (fa_ 4) ?_
   refine AD.one (i := 11) kr_ ?_
   refine as_ 1 [_, _, _, _, _, _, _, _, _, _, _, _] Tryd.sizeOf29 ?_
   refine AD.wk (y := ⟨118, [(0, _), (1, _)], (⟨br, 70, 3, [_, _, _]⟩ :: ⟨bs, 32, 12, [_, _, _, _, _, _, _, _, _, _, _, _]⟩ :: [⟨b20, 9, cp20 * 1, List.flatMap cS ((out) ++ [s])⟩])⟩) (Wk.as_ rfl rfl sl_) rfl ?_
   refine AD.done kr_ ?_
   refine sr_ ?_
   refine om_ ?_
   refine OD.call wp_ rfl rfl rfl Tryd.call43 (eat_vc l hl (q + 1) 4 ⟨#[44]⟩ ad n cap br) ⟨ot, opd_const, opd_const, trivial⟩ (List.Perm.refl _) ?_
   rintro _ _ ⟨rfl, rfl⟩
   refine OD.perm (S' := ⟨br, 70, 3, [.list 3 (l.flatMap cT) l.length, .v (.int .i64 (((if isQ l (q + 1) 4 ⟨#[44]⟩ = true then (q + 1) + 1 else (q + 1)) : Nat) : Int)), .v (.slice ad n cap)]⟩ :: ⟨bs, 32, 12, [_, _, _, _, _, _, _, _, _, _, _, _]⟩ :: [⟨b20, 9, cp20 * 1, List.flatMap cS ((out) ++ [s])⟩]) (List.Perm.refl _) ?_
   refine os_ un_ ?_
   refine OD.wk (Wk.as_ (n := 118) (l' := [(0, _), (1, _), (25, _)]) (S' := (⟨br, 70, 3, [_, _, _]⟩ :: ⟨bs, 32, 12, [_, _, _, _, _, _, _, _, _, _, _, _]⟩ :: [⟨b20, 9, cp20 * 1, List.flatMap cS ((out) ++ [s])⟩])) rfl rfl sl_) ?_
   refine OD.nil ?_
   refine CD.cond ot (fun hc3 => ?_) (fun hc3 => ?_)
   ·have hc3' := hc3
    (try simp only [V.cnd, ne_eq] at hc3')
    have ef : isQ l (q + 1) 4 ⟨#[44]⟩ = false := by simpa using hc3
    rw [ef]
    simp only [Bool.false_eq_true, if_false]
    have hR17 : R = pickK l (out ++ [s], false) (q + 1) os := hR16.trans (by rw [if_neg (F_ ef)]; rfl)
    refine CD.giveCell (i := 4) (j := 1) (S' := [⟨br, 70, 3, [.list 3 (l.flatMap cT) l.length, .v (.int .i64 (((q + 1) : Nat) : Int)), .v (.slice ad n cap)]⟩, ⟨bs, 32, 12, [_, _, _, _, _, _, _, _, _, _, _, _]⟩]) (ownL_row h120 h220) (fm_len cS_len _) (perm_r11 (A := [_, _])) rfl rfl rfl rfl ?_
    refine CD.exit ?_
    refine ⟨_, ?_, (out ++ [s]), false, (q + 1), os, ad, n, cap, (by simp; omega), hlt16, hR17, rfl⟩
    exact Wk.asS (n := 118) rfl (List.Sublist.refl _) sq_
   have hc3' := hc3
   (try simp only [V.cnd, ne_eq] at hc3')
   have et : isQ l (q + 1) 4 ⟨#[44]⟩ = true := by simpa using hc3
   rw [et]
   simp only [if_true]
   have hR18 : R = (namesP l f (out ++ [s]) ((q + 1) + 1) os).bind fun ns p ops => pickK l (ns, false) p ops := hR16.trans (by rw [if_pos et])
   refine CD.skip ?_
   refine ⟨(f, (out ++ [s]), ((q + 1) + 1), (some ⟨b20, 0, none⟩), cp20, [⟨b20, 9, cp20 * 1, List.flatMap cS ((out) ++ [s])⟩]), _, ?_, ?_, (by simp; omega), (by simp; omega), (isQ_lt et), hR18, (OwnL.cast (ownL_row h120 h220) (by rfl)), rfl⟩
   ·first | omega | (simp only []; omega)
   exact Wk.asS (n := 118) rfl su_ (by repeat (first | exact trivial | refine ⟨(by (repeat (first | exact look_hit | (apply look_at; focus (first | rfl | (simp; done) | (congr 2; omega) | (apply row_eq; rfl) | (apply row_eq; rfl) | (apply row_eq; simp; done))) | (apply look_miss; focus rfl))); done), ?_⟩))
  refine ab_ (numD 0 [_]) [.string ⟨#[]⟩] [_] Tryd.zeroValue9 Tryd.runUnderlying29 Tryd.sizeOf9 (fun b19 => ?_)
  refine ag_ 0 19 1 1 ?_
  refine AD.one (i := 4) kr_ ?_
  refine at_ rfl (lb_ 1) ?_
  refine AD.one (i := 8) kr_ ?_
  refine AStep.appendG (hT := by intro b hb; cases hb) (ls := (out)) (new := [s]) (Sq := So) cS_len cS_one rfl wp_ rfl rfl Tryd.underlying29 info9_Pba rfl (by decide) ot hoo (perm_r11 (A := [_, _])) ot (by simp) (by simp only [maxLen, List.length_append, List.length_cons, List.length_nil] at *; omega) (by simp only [maxLen, List.length_append, List.length_cons, List.length_nil] at *; omega) (fun b20 cp20 h120 h220 => ?_)
  refine AD.perm (perm_q11 (S1 := [⟨b20, 9, cp20 * 1, List.flatMap cS ((out) ++ [s])⟩]) (A := [_, _])) ?_
  refine a1_ 9 rfl nc_ ?_
  refine a1_ 10 rfl (fa_ 4) ?_
  refine AD.one (i := 11) kr_ ?_
  refine as_ 1 [_, _, _, _, _, _, _, _, _, _, _, _] Tryd.sizeOf29 ?_
  refine AD.wk (y := ⟨118, [(0, _), (1, _)], (⟨br, 70, 3, [_, _, _]⟩ :: ⟨bs, 32, 12, [_, _, _, _, _, _, _, _, _, _, _, _]⟩ :: [⟨b20, 9, cp20 * 1, List.flatMap cS ((out) ++ [s])⟩])⟩) (Wk.as_ rfl rfl sl_) rfl ?_
  refine AD.done kr_ ?_
  refine sr_ ?_
  refine om_ ?_
  refine OD.call wp_ rfl rfl rfl Tryd.call43 (eat_vc l hl (q + 1) 4 ⟨#[44]⟩ ad n cap br) ⟨ot, opd_const, opd_const, trivial⟩ (List.Perm.refl _) ?_
  rintro _ _ ⟨rfl, rfl⟩
  refine OD.perm (S' := ⟨br, 70, 3, [.list 3 (l.flatMap cT) l.length, .v (.int .i64 (((if isQ l (q + 1) 4 ⟨#[44]⟩ = true then (q + 1) + 1 else (q + 1)) : Nat) : Int)), .v (.slice ad n cap)]⟩ :: ⟨bs, 32, 12, [_, _, _, _, _, _, _, _, _, _, _, _]⟩ :: [⟨b20, 9, cp20 * 1, List.flatMap cS ((out) ++ [s])⟩]) (List.Perm.refl _) ?_
  refine os_ un_ ?_
  refine OD.wk (Wk.as_ (n := 118) (l' := [(0, _), (1, _), (25, _)]) (S' := (⟨br, 70, 3, [_, _, _]⟩ :: ⟨bs, 32, 12, [_, _, _, _, _, _, _, _, _, _, _, _]⟩ :: [⟨b20, 9, cp20 * 1, List.flatMap cS ((out) ++ [s])⟩])) rfl rfl sl_) ?_
  refine OD.nil ?_
  refine CD.cond ot (fun hc3 => ?_) (fun hc3 => ?_)
  ·have hc3' := hc3
   (try simp only [V.cnd, ne_eq] at hc3')
   have ef : isQ l (q + 1) 4 ⟨#[44]⟩ = false := by simpa using hc3
   rw [ef]
   simp only [Bool.false_eq_true, if_false]
   have hR19 : R = pickK l (out ++ [s], false) (q + 1) os := hR16.trans (by rw [if_neg (F_ ef)]; rfl)
   refine CD.giveCell (i := 4) (j := 1) (S' := [⟨br, 70, 3, [.list 3 (l.flatMap cT) l.length, .v (.int .i64 (((q + 1) : Nat) : Int)), .v (.slice ad n cap)]⟩, ⟨bs, 32, 12, [_, _, _, _, _, _, _, _, _, _, _, _]⟩]) (ownL_row h120 h220) (fm_len cS_len _) (perm_r11 (A := [_, _])) rfl rfl rfl rfl ?_
   refine CD.exit ?_
   refine ⟨_, ?_, (out ++ [s]), false, (q + 1), os, ad, n, cap, (by simp; omega), hlt16, hR19, rfl⟩
   exact Wk.asS (n := 118) rfl (List.Sublist.refl _) sq_
  have hc3' := hc3
  (try simp only [V.cnd, ne_eq] at hc3')
  have et : isQ l (q + 1) 4 ⟨#[44]⟩ = true := by simpa using hc3
  rw [et]
  simp only [if_true]
  have hR20 : R = (namesP l f (out ++ [s]) ((q + 1) + 1) os).bind fun ns p ops => pickK l (ns, false) p ops := hR16.trans (by rw [if_pos et])
  refine CD.skip ?_
  refine ⟨(f, (out ++ [s]), ((q + 1) + 1), (some ⟨b20, 0, none⟩), cp20, [⟨b20, 9, cp20 * 1, List.flatMap cS ((out) ++ [s])⟩]), _, ?_, ?_, (by simp; omega), (by simp; omega), (isQ_lt et), hR20, (OwnL.cast (ownL_row h120 h220) (by rfl)), rfl⟩
  ·first | omega | (simp only []; omega)
  exact Wk.asS (n := 118) rfl su_ (by repeat (first | exact trivial | refine ⟨(by (repeat (first | exact look_hit | (apply look_at; focus (first | rfl | (simp; done) | (congr 2; omega) | (apply row_eq; rfl) | (apply row_eq; rfl) | (apply row_eq; simp; done))) | (apply look_miss; focus rfl))); done), ?_⟩))
 rintro _ ⟨hn, hb, q, os, ad, n, cap, hn6, hpl, hRl, rfl⟩
 refine CD.seq ?_
 have hR21 : R = (mustP l [⟨#[70, 82, 79, 77]⟩] q os).bind (fun _ p ops => (nameP l p ops).bind fun t p ops => (whereP l p ops).bind fun w p ops => tailP l { st0 with kind := 4, names := hn, count := hb, table := t, wher := w } p ops) := hRl.trans (rfl)
 refine CD.region ?_
 refine om_ ?_
 refine ob_ (numD 0 [_]) [.string ⟨#[]⟩] [_] Tryd.zeroValue9 Tryd.runUnderlying29 Tryd.sizeOf9 (fun b42 => ?_)
 refine og_ 0 42 1 1 ?_
 refine OD.callX wp_ rfl rfl rfl Tryd.call44 (must_vx l hl [⟨#[70, 82, 79, 77]⟩] (by decide) q ad n cap br) ⟨ot, by exact rfl, trivial⟩ (List.Perm.refl _) (fun ch hch => (Or.inr ⟨ch, rfl, by obtain ⟨q, e, h1, h2⟩ := hch; exact ⟨q, e, hR21.trans (by rw [h1]; rfl), h2⟩⟩ : BodyX _ _ _ _ _ _)) ?_
 rintro _ _ ⟨p22, hr22, rfl⟩
 refine OD.perm (S' := ⟨br, 70, 3, [.list 3 (l.flatMap cT) l.length, .v (.int .i64 ((p22 : Nat) : Int)), .v (.slice ad n cap)]⟩ :: [⟨bs, 32, 12, [_, _, _, _, _, _, _, _, _, _, _, _]⟩]) (List.Perm.refl _) ?_
 have hp22 := (must_le (hr22 []) hpl).2.1
 have hR22 : R = (nameP l p22 os).bind (fun t p ops => (whereP l p ops).bind fun w p ops => tailP l { st0 with kind := 4, names := hn, count := hb, table := t, wher := w } p ops) := hR21.trans (by rw [hr22]; rfl)
 refine on_ [(0, _), (1, _)] [⟨br, 70, 3, [_, _, _]⟩, ⟨bs, 32, 12, [_, _, _, _, _, _, _, _, _, _, _, _]⟩] ?_
 refine sr_ ?_
 refine om_ ?_
 refine om_ ?_
 refine OD.callX wp_ rfl rfl rfl Tryd.call45 (name_vx hm hw l hl ht p22 ad n cap br) ⟨ot, trivial⟩ (List.Perm.refl _) (fun ch hch => (Or.inr ⟨ch, rfl, by obtain ⟨q, e, h1, h2⟩ := hch; exact ⟨q, e, hR22.trans (by rw [h1]; rfl), h2⟩⟩ : BodyX _ _ _ _ _ _)) ?_
 rintro _ _ ⟨t, hr23, rfl, rfl⟩
 refine OD.perm (S' := ⟨br, 70, 3, [.list 3 (l.flatMap cT) l.length, .v (.int .i64 (((p22 + 1) : Nat) : Int)), .v (.slice ad n cap)]⟩ :: [⟨bs, 32, 12, [_, _, _, _, _, _, _, _, _, _, _, _]⟩]) (List.Perm.refl _) ?_
 have hlt23 := (name_le (hr23 [])).2.2
 have hR23 : R = (whereP l (p22 + 1) os).bind (fun w p ops => tailP l { st0 with kind := 4, names := hn, count := hb, table := t, wher := w } p ops) := hR22.trans (by rw [hr23]; rfl)
 refine os_ nc_ ?_
 refine os_ (fa_ 1) ?_
 refine ot_ 1 [_, _, _, _, _, _, _, _, _, _, _, _] Tryd.sizeOf9 ?_
 refine on_ [(0, _), (1, _)] [⟨br, 70, 3, [_, _, _]⟩, ⟨bs, 32, 12, [_, _, _, _, _, _, _, _, _, _, _, _]⟩] ?_
 refine sr_ ?_
 refine om_ ?_
 refine om_ ?_
 have hs24 := (ns_where : whereP l (p22 + 1) os ≠ .stuck)
 refine OD.callX wp_ rfl rfl rfl Tryd.call51 (where_vx hl hm hw hk ht (p22 + 1) hlt23 os _ rfl hs24 ad n cap) ⟨ot, trivial⟩ (List.Perm.refl _) (fun ch hch => (Or.inr ⟨ch, rfl, by obtain ⟨q, e, h1, h2⟩ := hch; exact ⟨q, e, hR23.trans (by rw [h1]; rfl), h2⟩⟩ : BodyX _ _ _ _ _ _)) ?_
 rintro _ _ ⟨w, p24, o24, ad24, n24, cap24, hr24, ⟨rfl, hv24⟩, hp24, rfl⟩
 refine OD.perm (S' := ⟨br, 70, 3, [.list 3 (l.flatMap cT) l.length, .v (.int .i64 ((p24 : Nat) : Int)), .v (.slice ad24 n24 cap24)]⟩ :: [⟨bs, 32, 12, [_, _, _, _, _, _, _, _, _, _, _, _]⟩]) (List.Perm.refl _) ?_
 have hR24 : R = tailP l { st0 with kind := 4, names := hn, count := hb, table := t, wher := w } p24 o24 := hR23.trans (by rw [hr24]; rfl)
 refine os_ nc_ ?_
 refine os_ (fa_ 6) ?_
 refine ot_ 1 [_, _, _, _, _, _, _, _, _, _, _, _] Tryd.sizeOf30 ?_
 refine on_ [(0, _), (1, _)] [⟨br, 70, 3, [_, _, _]⟩, ⟨bs, 32, 12, [_, _, _, _, _, _, _, _, _, _, _, _]⟩] ?_
 refine CD.cut (fun y__ => ∃ (s : StL), ∃ (q : Nat), ∃ (os : List OpL), ∃ (ad : Option Addr), ∃ (n : Nat), ∃ (cap : Nat), (okS s) ∧ (q ≤ l.length) ∧ (R = limP l s q os) ∧ y__ = (⟨118, [(0, .v (.pointer (some ⟨br, 0, none⟩))), (1, .v (.pointer (some ⟨bs, 0, none⟩)))], [⟨br, 70, 3, [.list 3 (l.flatMap cT) l.length, .v (.int .i64 ((q : Nat) : Int)), .v (.slice ad n cap)]⟩, ⟨bs, 32, 12, [.v (.int .i64 s.kind), .v (.string s.table), .list 2 (s.cols.flatMap cC) s.cols.length, .list 3 (s.row.flatMap cV) s.row.length, .list 1 (s.names.flatMap cS) s.names.length, .v (.bool s.count), .list 5 (s.wher.flatMap cO) s.wher.length, .v (.string s.order), .v (.bool s.down), .v (.int .i64 s.limit), .v (.string s.set), .list 5 (s.to.flatMap cO) s.to.length]⟩]⟩ : St)) ?_ ?_
 ·skip
  refine sr_ ?_
  refine om_ ?_
  refine OD.call wp_ rfl rfl rfl Tryd.call43 (eat_vc l hl p24 1 ⟨#[79, 82, 68, 69, 82]⟩ ad24 n24 cap24 br) ⟨ot, opd_const, opd_const, trivial⟩ (List.Perm.refl _) ?_
  rintro _ _ ⟨rfl, rfl⟩
  refine OD.perm (S' := ⟨br, 70, 3, [.list 3 (l.flatMap cT) l.length, .v (.int .i64 (((if isQ l p24 1 ⟨#[79, 82, 68, 69, 82]⟩ = true then p24 + 1 else p24) : Nat) : Int)), .v (.slice ad24 n24 cap24)]⟩ :: [⟨bs, 32, 12, [_, _, _, _, _, _, _, _, _, _, _, _]⟩]) (List.Perm.refl _) ?_
  refine on_ [(0, _), (1, _), (55, _)] [⟨br, 70, 3, [_, _, _]⟩, ⟨bs, 32, 12, [_, _, _, _, _, _, _, _, _, _, _, _]⟩] ?_
  refine CD.cond ot (fun hc4 => ?_) (fun hc4 => ?_)
  ·have hc4' := hc4
   (try simp only [V.cnd, ne_eq] at hc4')
   have e4t : isQ l p24 1 ⟨#[79, 82, 68, 69, 82]⟩ = true := hc4
   rw [e4t]
   simp only [if_true]
   have hR25 : R = ((mustP l [⟨#[66, 89]⟩] (p24 + 1) o24).bind (fun _ p ops => (nameP l p ops).bind fun n p ops => .ok { ({ st0 with kind := 4, names := hn, count := hb, table := t, wher := w } : StL) with order := n, down := isQ l p 1 ⟨#[68, 69, 83, 67]⟩ } (if isQ l p 1 ⟨#[68, 69, 83, 67]⟩ = true then p + 1 else p) ops)).bind (limP l) := hR24.trans (by unfold tailP ordP; rw [if_pos e4t])
   refine sr_ ?_
   refine om_ ?_
   refine ob_ (numD 0 [_]) [.string ⟨#[]⟩] [_] Tryd.zeroValue9 Tryd.runUnderlying29 Tryd.sizeOf9 (fun b57 => ?_)
   refine og_ 0 57 1 1 ?_
   refine OD.callX wp_ rfl rfl rfl Tryd.call44 (must_vx l hl [⟨#[66, 89]⟩] (by decide) (p24 + 1) ad24 n24 cap24 br) ⟨ot, by exact rfl, trivial⟩ (List.Perm.refl _) (fun ch hch => (Or.inr ⟨ch, rfl, by obtain ⟨q, e, h1, h2⟩ := hch; exact ⟨q, e, hR25.trans (by rw [h1]; rfl), h2⟩⟩ : BodyX _ _ _ _ _ _)) ?_
   rintro _ _ ⟨p26, hr26, rfl⟩
   refine OD.perm (S' := ⟨br, 70, 3, [.list 3 (l.flatMap cT) l.length, .v (.int .i64 ((p26 : Nat) : Int)), .v (.slice ad24 n24 cap24)]⟩ :: [⟨bs, 32, 12, [_, _, _, _, _, _, _, _, _, _, _, _]⟩]) (List.Perm.refl _) ?_
   have hp26 := (must_le (hr26 []) (isQ_lt e4t)).2.1
   have hR26 : R = ((nameP l p26 o24).bind fun n p ops => .ok { ({ st0 with kind := 4, names := hn, count := hb, table := t, wher := w } : StL) with order := n, down := isQ l p 1 ⟨#[68, 69, 83, 67]⟩ } (if isQ l p 1 ⟨#[68, 69, 83, 67]⟩ = true then p + 1 else p) ops).bind (limP l) := hR25.trans (by rw [hr26]; rfl)
   refine on_ [(0, _), (1, _)] [⟨br, 70, 3, [_, _, _]⟩, ⟨bs, 32, 12, [_, _, _, _, _, _, _, _, _, _, _, _]⟩] ?_
   refine sr_ ?_
   refine om_ ?_
   refine om_ ?_
   refine OD.callX wp_ rfl rfl rfl Tryd.call45 (name_vx hm hw l hl ht p26 ad24 n24 cap24 br) ⟨ot, trivial⟩ (List.Perm.refl _) (fun ch hch => (Or.inr ⟨ch, rfl, by obtain ⟨q, e, h1, h2⟩ := hch; exact ⟨q, e, hR26.trans (by rw [h1]; rfl), h2⟩⟩ : BodyX _ _ _ _ _ _)) ?_
   rintro _ _ ⟨on, hr27, rfl, rfl⟩
   refine OD.perm (S' := ⟨br, 70, 3, [.list 3 (l.flatMap cT) l.length, .v (.int .i64 (((p26 + 1) : Nat) : Int)), .v (.slice ad24 n24 cap24)]⟩ :: [⟨bs, 32, 12, [_, _, _, _, _, _, _, _, _, _, _, _]⟩]) (List.Perm.refl _) ?_
   have hlt27 := (name_le (hr27 [])).2.2
   have hR27 : R = limP l { ({ st0 with kind := 4, names := hn, count := hb, table := t, wher := w } : StL) with order := on, down := isQ l (p26 + 1) 1 ⟨#[68, 69, 83, 67]⟩ } (if isQ l (p26 + 1) 1 ⟨#[68, 69, 83, 67]⟩ = true then (p26 + 1) + 1 else (p26 + 1)) o24 := hR26.trans (by rw [hr27]; rfl)
   refine os_ nc_ ?_
   refine os_ (fa_ 7) ?_
   refine ot_ 1 [_, _, _, _, _, _, _, _, _, _, _, _] Tryd.sizeOf9 ?_
   refine on_ [(0, _), (1, _)] [⟨br, 70, 3, [_, _, _]⟩, ⟨bs, 32, 12, [_, _, _, _, _, _, _, _, _, _, _, _]⟩] ?_
   refine CD.region ?_
   refine om_ ?_
   refine om_ ?_
   refine OD.call wp_ rfl rfl rfl Tryd.call43 (eat_vc l hl (p26 + 1) 1 ⟨#[68, 69, 83, 67]⟩ ad24 n24 cap24 br) ⟨ot, opd_const, opd_const, trivial⟩ (List.Perm.refl _) ?_
   rintro _ _ ⟨rfl, rfl⟩
   refine OD.perm (S' := ⟨br, 70, 3, [.list 3 (l.flatMap cT) l.length, .v (.int .i64 (((if isQ l (p26 + 1) 1 ⟨#[68, 69, 83, 67]⟩ = true then (p26 + 1) + 1 else (p26 + 1)) : Nat) : Int)), .v (.slice ad24 n24 cap24)]⟩ :: [⟨bs, 32, 12, [_, _, _, _, _, _, _, _, _, _, _, _]⟩]) (List.Perm.refl _) ?_
   have hpd28 : (if isQ l (p26 + 1) 1 ⟨#[68, 69, 83, 67]⟩ = true then (p26 + 1) + 1 else (p26 + 1)) ≤ l.length := by (split; exact isQ_lt (by assumption); exact hlt27)
   refine os_ nc_ ?_
   refine os_ (fa_ 8) ?_
   refine ot_ 1 [_, _, _, _, _, _, _, _, _, _, _, _] Tryd.sizeOf4 ?_
   refine on_ [(0, _), (1, _)] [⟨br, 70, 3, [_, _, _]⟩, ⟨bs, 32, 12, [_, _, _, _, _, _, _, _, _, _, _, _]⟩] ?_
   refine ⟨_, ?_, { ({ st0 with kind := 4, names := hn, count := hb, table := t, wher := w } : StL) with order := on, down := isQ l (p26 + 1) 1 ⟨#[68, 69, 83, 67]⟩ }, (if isQ l (p26 + 1) 1 ⟨#[68, 69, 83, 67]⟩ = true then (p26 + 1) + 1 else (p26 + 1)), o24, ad24, n24, cap24, ⟨Nat.zero_le _, Nat.zero_le _, hn6, hv24, Nat.zero_le _⟩, hpd28, hR27, rfl⟩
   exact Wk.asS (n := 118) rfl (List.Sublist.refl _) sq_
  have hc4' := hc4
  (try simp only [V.cnd, ne_eq] at hc4')
  have e4f : isQ l p24 1 ⟨#[79, 82, 68, 69, 82]⟩ = false := hc4
  rw [e4f]
  simp only [Bool.false_eq_true, if_false]
  have hR29 : R = limP l { st0 with kind := 4, names := hn, count := hb, table := t, wher := w } p24 o24 := hR24.trans (by unfold tailP ordP; rw [if_neg (F_ e4f)]; rfl)
  refine CD.skip ?_
  refine ⟨_, ?_, { st0 with kind := 4, names := hn, count := hb, table := t, wher := w }, p24, o24, ad24, n24, cap24, ⟨Nat.zero_le _, Nat.zero_le _, hn6, hv24, Nat.zero_le _⟩, hp24, hR29, rfl⟩
  exact Wk.asS (n := 118) rfl (List.Sublist.refl _) sq_
 rintro _ ⟨s, q, os, ad, n, cap, hok, hpl, hRl, rfl⟩
 refine CD.seq ?_
 refine CD.region ?_
 refine om_ ?_
 refine OD.call wp_ rfl rfl rfl Tryd.call43 (eat_vc l hl q 1 ⟨#[76, 73, 77, 73, 84]⟩ ad n cap br) ⟨ot, opd_const, opd_const, trivial⟩ (List.Perm.refl _) ?_
 rintro _ _ ⟨rfl, rfl⟩
 refine OD.perm (S' := ⟨br, 70, 3, [.list 3 (l.flatMap cT) l.length, .v (.int .i64 (((if isQ l q 1 ⟨#[76, 73, 77, 73, 84]⟩ = true then q + 1 else q) : Nat) : Int)), .v (.slice ad n cap)]⟩ :: [⟨bs, 32, 12, [_, _, _, _, _, _, _, _, _, _, _, _]⟩]) (List.Perm.refl _) ?_
 refine on_ [(0, _), (1, _), (70, _)] [⟨br, 70, 3, [_, _, _]⟩, ⟨bs, 32, 12, [_, _, _, _, _, _, _, _, _, _, _, _]⟩] ?_
 refine CD.cond ot (fun hc5 => ?_) (fun hc5 => ?_)
 ·have hc5' := hc5
  (try simp only [V.cnd, ne_eq] at hc5')
  have e5t : isQ l q 1 ⟨#[76, 73, 77, 73, 84]⟩ = true := hc5
  rw [e5t]
  simp only [if_true]
  have e5s := e5t
  refine CD.seq ?_
  refine CD.seq ?_
  refine CD.draw (bks _) kr_ (fun _ h => h) ?_
  refine a0_ 0 rfl mv_ ?_
  refine a0_ 1 rfl nc_ ?_
  refine a0_ 2 rfl (fa_ 1) ?_
  refine a0_ 3 rfl (lb_ 0) ?_
  refine a0_ 4 rfl mv_ ?_
  refine a0_ 5 rfl nc_ ?_
  refine a0_ 6 rfl (fa_ 0) ?_
  refine a0_ 7 rfl (lb_ 0) ?_
  refine a0_ 8 rfl ln_ ?_
  refine a0_ 9 rfl bn_ ?_
  refine a0_ 10 rfl mv_ ?_
  refine AD0.split (t := 81) lk (fun hg81 => ?_) (fun hg81 => ?_)
  ·have hg81' := hg81; (try simp only [V.cnd, ne_eq] at hg81')
   refine s0_ 11 rfl ?_
   refine s0_ 12 rfl ?_
   refine s0_ 13 rfl ?_
   refine s0_ 14 rfl ?_
   refine s0_ 15 rfl ?_
   refine s0_ 16 rfl ?_
   refine s0_ 17 rfl ?_
   refine s0_ 18 rfl ?_
   refine s0_ 19 rfl ?_
   refine s0_ 20 rfl ?_
   refine s0_ 21 rfl ?_
   refine s0_ 22 rfl ?_
   refine a0_ 23 rfl pkT_ ?_
   refine AD0.later rfl ?_
   refine aw_ [(0, _), (1, _), (94, _)] [⟨br, 70, 3, [_, _, _]⟩, ⟨bs, 32, 12, [_, _, _, _, _, _, _, _, _, _, _, _]⟩] ?_
   refine AD.done kr_ ?_
   refine CD.condT ot (by first | rfl | assumption) ?_
   have hno : ¬ (q + 1 < l.length ∧ (l.getD (q + 1) ⟨0, ⟨#[]⟩, 0⟩).k = 2) := by first | exact (fun h => by simp at hg81; omega) | exact (fun h => by rw [tk_at h.1] at h; have := h.2; simp at hc6; exact hc6 this)
   have hR30 : R = gv l (q + 1) 6 := hRl.trans (lim_2 e5t hno)
   refine CD.region ?_
   refine om_ ?_
   exact OD.callX wp_ rfl rfl rfl Tryd.call26 (give_vx l hl (q + 1) 6 ad n cap br) ⟨ot, opd_const, trivial⟩ (List.Perm.refl _) (fun ch hch => (Or.inr ⟨ch, rfl, ⟨_, _, hR30, hch⟩⟩ : BodyX _ _ _ _ _ _)) (fun r S' h => h.elim)
  have hg81' := hg81; (try simp only [V.cnd, ne_eq] at hg81')
  refine a0_ 11 rfl mv_ ?_
  refine a0_ 12 rfl nc_ ?_
  refine a0_ 13 rfl (fa_ 0) ?_
  refine a0_ 14 rfl (lb_ 0) ?_
  refine a0_ 15 rfl mv_ ?_
  refine a0_ 16 rfl nc_ ?_
  refine a0_ 17 rfl (fa_ 1) ?_
  refine a0_ 18 rfl (lb_ 0) ?_
  refine a0_ 19 rfl (ix_ 3 (h := by first | exact .l (j := q + 1) rfl (by simp at hg81; omega) | exact .r (j := q + 1) rfl (by simp at hg81; omega))) ?_
  refine a0_ 20 rfl (fa_ 0) ?_
  refine a0_ 21 rfl (still_r1 (mk := Op.load 3) rfl ot (by exact ld_fm0 (i := q + 1) cT_len Tryd.isAgg3 (by simp at hg81; omega) rfl)) ?_
  refine a0_ 22 rfl bn_ ?_
  refine a0_ 23 rfl pkF_ ?_
  refine AD0.later rfl ?_
  refine aw_ [(0, _), (1, _), (94, _)] [⟨br, 70, 3, [_, _, _]⟩, ⟨bs, 32, 12, [_, _, _, _, _, _, _, _, _, _, _, _]⟩] ?_
  refine AD.done kr_ ?_
  refine CD.cond ot (fun hc6 => ?_) (fun hc6 => ?_)
  ·have hc6' := hc6
   (try simp only [V.cnd, ne_eq] at hc6')
   have hno : ¬ (q + 1 < l.length ∧ (l.getD (q + 1) ⟨0, ⟨#[]⟩, 0⟩).k = 2) := by first | exact (fun h => by simp at hg81; omega) | exact (fun h => by rw [tk_at h.1] at h; have := h.2; simp at hc6; exact hc6 this)
   have hR31 : R = gv l (q + 1) 6 := hRl.trans (lim_2 e5t hno)
   refine CD.region ?_
   refine om_ ?_
   exact OD.callX wp_ rfl rfl rfl Tryd.call26 (give_vx l hl (q + 1) 6 ad n cap br) ⟨ot, opd_const, trivial⟩ (List.Perm.refl _) (fun ch hch => (Or.inr ⟨ch, rfl, ⟨_, _, hR31, hch⟩⟩ : BodyX _ _ _ _ _ _)) (fun r S' h => h.elim)
  have hc6' := hc6
  (try simp only [V.cnd, ne_eq] at hc6')
  have hlq : q + 1 < l.length := by simp at hg81; omega
  have hk2 : l[q + 1].k = 2 := by simpa using hc6
  have hR32 : R = .ok { s with limit := l[q + 1].n } (q + 2) os := hRl.trans (lim_1 e5t hlq hk2)
  refine CD.skip ?_
  refine CD.seq ?_
  refine CD.draw (bks (List.eraseIdx _ 1)) kr_ (fun _ h => (List.Sublist.map _ (List.eraseIdx_sublist _ 1)).subset h) ?_
  refine a0_ 0 rfl mv_ ?_
  refine a0_ 1 rfl mv_ ?_
  refine a0_ 2 rfl nc_ ?_
  refine a0_ 3 rfl (fa_ 0) ?_
  refine a0_ 4 rfl (lb_ 0) ?_
  refine a0_ 5 rfl mv_ ?_
  refine a0_ 6 rfl nc_ ?_
  refine a0_ 7 rfl (fa_ 1) ?_
  refine a0_ 8 rfl (lb_ 0) ?_
  refine a0_ 9 rfl (ix_ 3 (h := by first | exact .l (j := q + 1) rfl hlq | exact .r (j := q + 1) rfl hlq)) ?_
  refine a0_ 10 rfl (fa_ 2) ?_
  refine a0_ 11 rfl (still_r1 (mk := Op.load 3) rfl ot (by exact ld_fm (i := q + 1) (j := 2) cT_len Tryd.isAgg3 hlq rfl)) ?_
  refine a0_ 12 rfl nc_ ?_
  refine a0_ 13 rfl (fa_ 9) ?_
  refine AD0.later rfl ?_
  refine AD.one (i := 14) kr_ ?_
  refine as_ 1 [_, _, _, _, _, _, _, _, _, _, _, _] Tryd.sizeOf3 ?_
  refine aw_ [(0, _)] [⟨br, 70, 3, [_, _, _]⟩, ⟨bs, 32, 12, [_, _, _, _, _, _, _, _, _, _, _, _]⟩] ?_
  refine AD.done kr_ ?_
  refine CD.region ?_
  refine om_ ?_
  refine os_ nc_ ?_
  refine os_ (fa_ 1) ?_
  refine os_ (lb_ 0) ?_
  refine os_ bn_ ?_
  refine os_ nc_ ?_
  refine os_ (fa_ 1) ?_
  refine ot_ 0 [_, _, _] Tryd.sizeOf3 ?_
  refine on_ [] [⟨br, 70, 3, [_, _, _]⟩, ⟨bs, 32, 12, [_, _, _, _, _, _, _, _, _, _, _, _]⟩] ?_
  refine Or.inl ?_
  refine ⟨.inl rfl, _, [⟨br, 70, 3, [.list 3 (l.flatMap cT) l.length, .v (.int .i64 (((q + 2) : Nat) : Int)), .v (.slice ad n cap)]⟩, ⟨bs, 32, 12, _⟩], (List.Sublist.refl _), ret_none Tryd.results48 , ?_⟩
  exact ⟨{ s with limit := l[q + 1].n }, (q + 2), os, _, _, _, hR32, hok, hlq, rfl⟩
 have hc5' := hc5
 (try simp only [V.cnd, ne_eq] at hc5')
 have e5f : isQ l q 1 ⟨#[76, 73, 77, 73, 84]⟩ = false := hc5
 rw [e5f]
 simp only [Bool.false_eq_true, if_false]
 have hR33 : R = .ok s q os := hRl.trans (lim_3 e5f)
 refine CD.skip ?_
 refine Or.inl ?_
 refine ⟨.inl rfl, _, [⟨br, 70, 3, [.list 3 (l.flatMap cT) l.length, .v (.int .i64 ((q : Nat) : Int)), .v (.slice ad n cap)]⟩, ⟨bs, 32, 12, _⟩], (List.Sublist.refl _), ret_none Tryd.results48 , ?_⟩
 exact ⟨s, q, os, _, _, _, hR33, hok, hpl, rfl⟩

end Go.Proofs.YtjgekbmahhhokaaDoor.Pa

namespace Go.Proofs.YtjgekbmahhhokaaDoor.Pa
open Go.RowKit V Pk Go.Proofs.YtjgekbmahhhokaaDoor.Vl Go.Proofs.YtjgekbmahhhokaaDoor.Nm
set_option linter.unusedVariables false
set_option linter.unusedSimpArgs false

variable {G : List (Nat × List Value)}
def whereF (l : List OpL) : Int := if l.length = 0 then 0 else exprF l
structure FinS (s : StL) : Prop where
 ok : okS s
 t : s.table.size ≤ maxLen
 c : ∀ c ∈ s.cols, c.n.size ≤ maxLen
 n : ∀ x ∈ s.names, x.size ≤ maxLen
 o : s.order.size ≤ maxLen
 e : s.set.size ≤ maxLen
 r : ∀ v ∈ s.row, -9223372036854775808 ≤ v.n ∧ v.n ≤ 9223372036854775807
 w : ∀ o ∈ s.wher, o.nm.size ≤ maxLen ∧ -9223372036854775808 ≤ o.v.n ∧ o.v.n ≤ 9223372036854775807
 x : ∀ o ∈ s.to, o.nm.size ≤ maxLen ∧ -9223372036854775808 ≤ o.v.n ∧ o.v.n ≤ 9223372036854775807
end Go.Proofs.YtjgekbmahhhokaaDoor.Pa

namespace Go.Proofs.YtjgekbmahhhokaaDoor.Pa
end Go.Proofs.YtjgekbmahhhokaaDoor.Pa


namespace Go.Proofs.YtjgekbmahhhokaaDoor.Pa
end Go.Proofs.YtjgekbmahhhokaaDoor.Pa


namespace Go.Proofs.YtjgekbmahhhokaaDoor.Pa
open Go.RowKit V Pk Go.Proofs.YtjgekbmahhhokaaDoor.Vl Go.Proofs.YtjgekbmahhhokaaDoor.Nm
set_option linter.unusedVariables false
set_option linter.unusedSimpArgs false

variable {G : List (Nat × List Value)}
structure ShS (s : StL) : Prop where
 fin : FinS s
 k1 : 1 ≤ s.kind
 k9 : s.kind ≤ 9
 c : s.kind = 1 → ∀ c ∈ s.cols, 1 ≤ c.k ∧ c.k ≤ 3
 r : s.kind = 3 → ∀ v ∈ s.row, okV v
 w : s.kind = 4 ∨ s.kind = 5 ∨ s.kind = 6 → s.wher.length = 0 ∨ exprL 0 s.wher = 0
 t : s.kind = 5 → exprL 0 s.to = 0
end Go.Proofs.YtjgekbmahhhokaaDoor.Pa

namespace Go.Proofs.YtjgekbmahhhokaaDoor.Pa
end Go.Proofs.YtjgekbmahhhokaaDoor.Pa


namespace Go.Proofs.YtjgekbmahhhokaaDoor.Pa
end Go.Proofs.YtjgekbmahhhokaaDoor.Pa


namespace Go.Proofs.YtjgekbmahhhokaaDoor.Pa
open Go.RowKit V Pk Go.Proofs.YtjgekbmahhhokaaDoor.Vl Go.Proofs.YtjgekbmahhhokaaDoor.Nm
set_option linter.unusedVariables false
set_option linter.unusedSimpArgs false

def isR (r : List Tk) (k : Int) (s : ByteArray) : Bool := match r with
 | [] => false
 | t :: _ => (t.k == k) && eqS t.s s
theorem isQ_R (l : List Tk) (p : Nat) (k : Int) (s : ByteArray) : isQ l p k s = isR (l.drop p) k s := by
 by_cases h : p < l.length
 ·rw [isQ_T h, List.drop_eq_getElem_cons h]; rfl
 rw [isQ_F h, List.drop_of_length_le (by omega)]; rfl
/-! The levels, one by one. -/
theorem prim_eq (l : List Tk) (n p : Nat) (ops : List OpL) : exP l (n + 1) .prim p ops = (litP l p ops).bind fun v p ops => if v.2 = true then putP l ⟨1, v.1, ⟨#[]⟩⟩ p ops
   else if isQ l p 4 ⟨#[40]⟩ = true then (exP l n .or (p + 1) ops).bind fun _ p ops => markP l ⟨#[41]⟩ p ops
   else (nameP l p ops).bind fun s p ops => putP l ⟨2, noVl, s⟩ p ops := by rw [exP]
theorem prod_eq (l : List Tk) (n p : Nat) (ops : List OpL) : exP l (n + 1) .prod p ops = (exP l n .prim p ops).bind fun _ p ops => exP l n .prodL p ops := by rw [exP]
theorem prodL_eq (l : List Tk) (n p : Nat) (ops : List OpL) : exP l (n + 1) .prodL p ops = if isQ l p 4 ⟨#[42]⟩ = true then (exP l n .prim (p + 1) ops).bind fun _ p ops => (putP l (opN 10) p ops).bind fun _ p ops => exP l n .prodL p ops else .ok () p ops := by rw [exP]
theorem sum_eq (l : List Tk) (n p : Nat) (ops : List OpL) : exP l (n + 1) .sum p ops = (exP l n .prod p ops).bind fun _ p ops => exP l n .sumL p ops := by rw [exP]
theorem sumL_eq (l : List Tk) (n p : Nat) (ops : List OpL) : exP l (n + 1) .sumL p ops = if isQ l p 4 ⟨#[43]⟩ = true then (exP l n .prod (p + 1) ops).bind fun _ p ops => (putP l (opN 8) p ops).bind fun _ p ops => exP l n .sumL p ops
   else if isQ l p 4 ⟨#[45]⟩ = true then (exP l n .prod (p + 1) ops).bind fun _ p ops => (putP l (opN 9) p ops).bind fun _ p ops => exP l n .sumL p ops
   else .ok () p ops := by rw [exP]
theorem not_eq (l : List Tk) (n p : Nat) (ops : List OpL) : exP l (n + 1) .not p ops = if isQ l p 1 ⟨#[78, 79, 84]⟩ = true then (exP l n .not (p + 1) ops).bind fun _ p ops => putP l (opN 5) p ops else exP l n .comp p ops := by rw [exP]
theorem and_eq (l : List Tk) (n p : Nat) (ops : List OpL) : exP l (n + 1) .and p ops = (exP l n .not p ops).bind fun _ p ops => exP l n .andL p ops := by rw [exP]
theorem andL_eq (l : List Tk) (n p : Nat) (ops : List OpL) : exP l (n + 1) .andL p ops = if isQ l p 1 ⟨#[65, 78, 68]⟩ = true then (exP l n .not (p + 1) ops).bind fun _ p ops => (putP l (opN 3) p ops).bind fun _ p ops => exP l n .andL p ops else .ok () p ops := by rw [exP]
theorem or_eq (l : List Tk) (n p : Nat) (ops : List OpL) : exP l (n + 1) .or p ops = (exP l n .and p ops).bind fun _ p ops => exP l n .orL p ops := by rw [exP]
theorem orL_eq (l : List Tk) (n p : Nat) (ops : List OpL) : exP l (n + 1) .orL p ops = if isQ l p 1 ⟨#[79, 82]⟩ = true then (exP l n .and (p + 1) ops).bind fun _ p ops => (putP l (opN 4) p ops).bind fun _ p ops => exP l n .orL p ops else .ok () p ops := by rw [exP]
theorem comp_eq2 (l : List Tk) (n p : Nat) (ops : List OpL) : exP l (n + 1) .comp p ops = (exP l n .sum p ops).bind (fun _ p1 o1 => compK l n ops.length p1 o1) := comp_eq
theorem bind_cong {α β : Type} {r r' : Rs α} {f f' : α → Nat → List OpL → Rs β} (h : r.bind f ≠ .stuck) (h1 : r ≠ .stuck → r' = r) (h2 : ∀ v p o, f v p o ≠ .stuck → f' v p o = f v p o) : r'.bind f' = r.bind f := by
 rw [h1 (bind_ns h)]
 cases r with
 | ok v p o => exact h2 v p o h
 | no p e => rfl
 | stuck => rfl
theorem exP_mono (l : List Tk) : ∀ (n : Nat) (lv : Lv) (p : Nat) (ops : List OpL), exP l n lv p ops ≠ .stuck → exP l (n + 1) lv p ops = exP l n lv p ops
 | 0, lv, p, ops, h => absurd (by rw [exP]) h
 | n + 1, .prim, p, ops, h => by
  rw [prim_eq l n] at h
  rw [prim_eq l (n + 1) p ops, prim_eq l n p ops]
  refine bind_cong h (fun _ => rfl) fun v p o h => ?_
  split
  ·rfl
  split
  ·rw [if_neg (by assumption), if_pos (by assumption)] at h
   exact bind_cong h (exP_mono l n _ _ _) fun _ _ _ _ => rfl
  rfl
 | n + 1, .prod, p, ops, h => by
  rw [prod_eq l n] at h
  rw [prod_eq l (n + 1) p ops, prod_eq l n p ops]
  exact bind_cong h (exP_mono l n _ _ _) fun _ _ _ h => exP_mono l n _ _ _ h
 | n + 1, .sum, p, ops, h => by
  rw [sum_eq l n] at h
  rw [sum_eq l (n + 1) p ops, sum_eq l n p ops]
  exact bind_cong h (exP_mono l n _ _ _) fun _ _ _ h => exP_mono l n _ _ _ h
 | n + 1, .and, p, ops, h => by
  rw [and_eq l n] at h
  rw [and_eq l (n + 1) p ops, and_eq l n p ops]
  exact bind_cong h (exP_mono l n _ _ _) fun _ _ _ h => exP_mono l n _ _ _ h
 | n + 1, .or, p, ops, h => by
  rw [or_eq l n] at h
  rw [or_eq l (n + 1) p ops, or_eq l n p ops]
  exact bind_cong h (exP_mono l n _ _ _) fun _ _ _ h => exP_mono l n _ _ _ h
 | n + 1, .not, p, ops, h => by
  rw [not_eq l n] at h
  rw [not_eq l (n + 1) p ops, not_eq l n p ops]
  by_cases hq : isQ l p 1 ⟨#[78, 79, 84]⟩ = true
  ·rw [if_pos hq] at h
   rw [if_pos hq, if_pos hq]
   exact bind_cong h (exP_mono l n _ _ _) fun _ _ _ _ => rfl
  rw [if_neg hq] at h
  rw [if_neg hq, if_neg hq]
  exact exP_mono l n _ _ _ h
 | n + 1, .prodL, p, ops, h => by
  rw [prodL_eq l n] at h
  rw [prodL_eq l (n + 1) p ops, prodL_eq l n p ops]
  split
  ·rw [if_pos (by assumption)] at h
   exact bind_cong h (exP_mono l n _ _ _) fun _ _ _ h => bind_cong h (fun _ => rfl) fun _ _ _ h => exP_mono l n _ _ _ h
  rfl
 | n + 1, .andL, p, ops, h => by
  rw [andL_eq l n] at h
  rw [andL_eq l (n + 1) p ops, andL_eq l n p ops]
  split
  ·rw [if_pos (by assumption)] at h
   exact bind_cong h (exP_mono l n _ _ _) fun _ _ _ h => bind_cong h (fun _ => rfl) fun _ _ _ h => exP_mono l n _ _ _ h
  rfl
 | n + 1, .orL, p, ops, h => by
  rw [orL_eq l n] at h
  rw [orL_eq l (n + 1) p ops, orL_eq l n p ops]
  split
  ·rw [if_pos (by assumption)] at h
   exact bind_cong h (exP_mono l n _ _ _) fun _ _ _ h => bind_cong h (fun _ => rfl) fun _ _ _ h => exP_mono l n _ _ _ h
  rfl
 | n + 1, .sumL, p, ops, h => by
  rw [sumL_eq l n] at h
  rw [sumL_eq l (n + 1) p ops, sumL_eq l n p ops]
  split
  ·rw [if_pos (by assumption)] at h
   exact bind_cong h (exP_mono l n _ _ _) fun _ _ _ h => bind_cong h (fun _ => rfl) fun _ _ _ h => exP_mono l n _ _ _ h
  split
  ·rw [if_neg (by assumption), if_pos (by assumption)] at h
   exact bind_cong h (exP_mono l n _ _ _) fun _ _ _ h => bind_cong h (fun _ => rfl) fun _ _ _ h => exP_mono l n _ _ _ h
  rfl
 | n + 1, .comp, p, ops, h => by
  rw [comp_eq2 l n] at h
  rw [comp_eq2 l (n + 1) p ops, comp_eq2 l n p ops]
  refine bind_cong h (exP_mono l n _ _ _) fun _ p1 o1 h => ?_
  unfold compK at h ⊢
  split
  ·rfl
  rw [if_neg (by assumption)] at h
  split
  ·rfl
  rename_i m hm
  rw [hm] at h
  exact bind_cong h (exP_mono l n _ _ _) fun _ _ _ _ => rfl
theorem exP_more {l : List Tk} {n : Nat} {lv : Lv} {p : Nat} {ops : List OpL} (h : exP l n lv p ops ≠ .stuck) : ∀ k, exP l (n + k) lv p ops = exP l n lv p ops
 | 0 => rfl
 | k + 1 => by
  have ih := exP_more h k
  rw [← Nat.add_assoc, exP_mono l (n + k) lv p ops (by rw [ih]; exact h), ih]
def PX (l : List Tk) (lv : Lv) (p : Nat) (ops : List OpL) (q : Nat) (os : List OpL) : Prop := ∃ n, ∀ m, n ≤ m → exP l m lv p ops = .ok () q os
theorem PX.done {l : List Tk} {lv : Lv} {p q n : Nat} {ops os : List OpL} (h : PX l lv p ops q os) (hs : exP l n lv p ops ≠ .stuck) : exP l n lv p ops = .ok () q os := by
 obtain ⟨k, hk⟩ := h
 rw [← exP_more hs k]; exact hk _ (by omega)
variable {l : List Tk} {p p1 p2 q : Nat} {ops o1 o2 os : List OpL}
theorem PX.prod (h1 : PX l .prim p ops p1 o1) (h2 : PX l .prodL p1 o1 q os) : PX l .prod p ops q os := by
 obtain ⟨n1, h1⟩ := h1; obtain ⟨n2, h2⟩ := h2
 refine ⟨n1 + n2 + 1, fun m hm => ?_⟩
 obtain ⟨m, rfl⟩ : ∃ k, m = k + 1 := ⟨m - 1, by omega⟩
 rw [prod_eq, h1 m (by omega), bind_ok, h2 m (by omega)]

theorem PX.sum (h1 : PX l .prod p ops p1 o1) (h2 : PX l .sumL p1 o1 q os) : PX l .sum p ops q os := by
 obtain ⟨n1, h1⟩ := h1; obtain ⟨n2, h2⟩ := h2
 refine ⟨n1 + n2 + 1, fun m hm => ?_⟩
 obtain ⟨m, rfl⟩ : ∃ k, m = k + 1 := ⟨m - 1, by omega⟩
 rw [sum_eq, h1 m (by omega), bind_ok, h2 m (by omega)]

theorem PX.and (h1 : PX l .not p ops p1 o1) (h2 : PX l .andL p1 o1 q os) : PX l .and p ops q os := by
 obtain ⟨n1, h1⟩ := h1; obtain ⟨n2, h2⟩ := h2
 refine ⟨n1 + n2 + 1, fun m hm => ?_⟩
 obtain ⟨m, rfl⟩ : ∃ k, m = k + 1 := ⟨m - 1, by omega⟩
 rw [and_eq, h1 m (by omega), bind_ok, h2 m (by omega)]

theorem PX.or (h1 : PX l .and p ops p1 o1) (h2 : PX l .orL p1 o1 q os) : PX l .or p ops q os := by
 obtain ⟨n1, h1⟩ := h1; obtain ⟨n2, h2⟩ := h2
 refine ⟨n1 + n2 + 1, fun m hm => ?_⟩
 obtain ⟨m, rfl⟩ : ∃ k, m = k + 1 := ⟨m - 1, by omega⟩
 rw [or_eq, h1 m (by omega), bind_ok, h2 m (by omega)]

theorem PX.prodL_stop (h0 : isR (l.drop p) 4 ⟨#[42]⟩ = false) : PX l .prodL p ops p ops := ⟨1, fun m hm => by
 obtain ⟨m, rfl⟩ : ∃ k, m = k + 1 := ⟨m - 1, by omega⟩
 rw [prodL_eq, if_neg (by rw [isQ_R, h0]; decide)]⟩

theorem PX.sumL_stop (h0 : isR (l.drop p) 4 ⟨#[43]⟩ = false) (h1 : isR (l.drop p) 4 ⟨#[45]⟩ = false) : PX l .sumL p ops p ops := ⟨1, fun m hm => by
 obtain ⟨m, rfl⟩ : ∃ k, m = k + 1 := ⟨m - 1, by omega⟩
 rw [sumL_eq, if_neg (by rw [isQ_R, h0]; decide), if_neg (by rw [isQ_R, h1]; decide)]⟩

theorem PX.andL_stop (h0 : isR (l.drop p) 1 ⟨#[65, 78, 68]⟩ = false) : PX l .andL p ops p ops := ⟨1, fun m hm => by
 obtain ⟨m, rfl⟩ : ∃ k, m = k + 1 := ⟨m - 1, by omega⟩
 rw [andL_eq, if_neg (by rw [isQ_R, h0]; decide)]⟩

theorem PX.orL_stop (h0 : isR (l.drop p) 1 ⟨#[79, 82]⟩ = false) : PX l .orL p ops p ops := ⟨1, fun m hm => by
 obtain ⟨m, rfl⟩ : ∃ k, m = k + 1 := ⟨m - 1, by omega⟩
 rw [orL_eq, if_neg (by rw [isQ_R, h0]; decide)]⟩

theorem PX.not_no (h : isR (l.drop p) 1 ⟨#[78, 79, 84]⟩ = false) (h1 : PX l .comp p ops q os) : PX l .not p ops q os := by
 obtain ⟨n1, h1⟩ := h1
 refine ⟨n1 + 1, fun m hm => ?_⟩
 obtain ⟨m, rfl⟩ : ∃ k, m = k + 1 := ⟨m - 1, by omega⟩
 rw [not_eq, if_neg (by rw [isQ_R, h]; decide), h1 m (by omega)]
theorem PX.comp_stop (h1 : PX l .sum p ops q os) (h2 : isR (l.drop q) 1 ⟨#[73, 83]⟩ = false) (h3 : (marksP.find? fun m => isR (l.drop q) 4 m.1) = none) : PX l .comp p ops q os := by
 obtain ⟨n1, h1⟩ := h1
 refine ⟨n1 + 1, fun m hm => ?_⟩
 obtain ⟨m, rfl⟩ : ∃ k, m = k + 1 := ⟨m - 1, by omega⟩
 rw [comp_eq2, h1 m (by omega), bind_ok, comp_N (by rw [isQ_R, h2]) (by simp only [isQ_R]; exact h3)]
def stopT (r : List Tk) : Bool := !(isR r 4 ⟨#[42]⟩) && (!(isR r 4 ⟨#[43]⟩) && (!(isR r 4 ⟨#[45]⟩) && (!(isR r 1 ⟨#[73, 83]⟩) && ((marksP.find? fun m => isR r 4 m.1).isNone && (!(isR r 1 ⟨#[65, 78, 68]⟩) && !(isR r 1 ⟨#[79, 82]⟩))))))
theorem stop_inv {r : List Tk} (h : stopT r = true) : isR r 4 ⟨#[42]⟩ = false ∧ isR r 4 ⟨#[43]⟩ = false ∧ isR r 4 ⟨#[45]⟩ = false ∧ isR r 1 ⟨#[73, 83]⟩ = false ∧ (marksP.find? fun m => isR r 4 m.1) = none ∧ isR r 1 ⟨#[65, 78, 68]⟩ = false ∧ isR r 1 ⟨#[79, 82]⟩ = false := by
 unfold stopT at h
 simp only [Bool.and_eq_true, Bool.not_eq_true'] at h
 obtain ⟨h1, h2, h3, h4, h5, h6, h7⟩ := h
 exact ⟨h1, h2, h3, h4, Option.isNone_iff_eq_none.1 h5, h6, h7⟩
theorem PX.to_prod (h : PX l .prim p ops q os) (h1 : isR (l.drop q) 4 ⟨#[42]⟩ = false) : PX l .prod p ops q os := PX.prod h (PX.prodL_stop h1)
theorem PX.to_sum (h : PX l .prod p ops q os) (h1 : isR (l.drop q) 4 ⟨#[43]⟩ = false) (h2 : isR (l.drop q) 4 ⟨#[45]⟩ = false) : PX l .sum p ops q os := PX.sum h (PX.sumL_stop h1 h2)
theorem PX.not_of (h : PX l .sum p ops q os) (hn : isR (l.drop p) 1 ⟨#[78, 79, 84]⟩ = false) (h1 : isR (l.drop q) 1 ⟨#[73, 83]⟩ = false) (h2 : (marksP.find? fun m => isR (l.drop q) 4 m.1) = none) : PX l .not p ops q os := PX.not_no hn (PX.comp_stop h h1 h2)
theorem PX.or_of (h : PX l .not p ops q os) (h1 : isR (l.drop q) 1 ⟨#[65, 78, 68]⟩ = false) (h2 : isR (l.drop q) 1 ⟨#[79, 82]⟩ = false) : PX l .or p ops q os := PX.or (PX.and h (PX.andL_stop h1)) (PX.orL_stop h2)
theorem PX.all (h : PX l .prim p ops q os) (hn : isR (l.drop p) 1 ⟨#[78, 79, 84]⟩ = false) (hs : stopT (l.drop q) = true) : PX l .or p ops q os := by
 obtain ⟨h1, h2, h3, h4, h5, h6, h7⟩ := stop_inv hs
 exact PX.or_of (PX.not_of ((h.to_prod h1).to_sum h2 h3) hn h4 h5) h6 h7
inductive Ex where
 | lit (v : Vl)
 | col (s : ByteArray)
 | not (e : Ex)
 | isn (e : Ex)
 | bin (k : Int) (a b : Ex)
end Go.Proofs.YtjgekbmahhhokaaDoor.Pa

namespace Go.Proofs.YtjgekbmahhhokaaDoor.Pa
end Go.Proofs.YtjgekbmahhhokaaDoor.Pa


namespace Go.Proofs.YtjgekbmahhhokaaDoor.Pa
end Go.Proofs.YtjgekbmahhhokaaDoor.Pa


namespace Go.Proofs.YtjgekbmahhhokaaDoor.Pa
end Go.Proofs.YtjgekbmahhhokaaDoor.Pa


namespace Go.Proofs.YtjgekbmahhhokaaDoor.Nm
open Go.RowKit V Pk Vl
set_option linter.unusedVariables false
set_option linter.unusedSimpArgs false

inductive Tw where
 | mk (k n : Int) (s : ByteArray) (ts : List Tw)
mutual
def Tw.cs : Tw → List D
 | .mk k n s ts => [.v (.int .i64 k), .v (.int .i64 n), .v (.string s), .list 4 (Tw.css ts) ts.length]
def Tw.css : List Tw → List D
 | [] => []
 | t :: r => t.cs ++ Tw.css r
end
variable {G : List (Nat × List Value)}
end Go.Proofs.YtjgekbmahhhokaaDoor.Nm

namespace Go.Proofs.YtjgekbmahhhokaaDoor.Nm
end Go.Proofs.YtjgekbmahhhokaaDoor.Nm


namespace Go.Proofs.YtjgekbmahhhokaaDoor.Nm
end Go.Proofs.YtjgekbmahhhokaaDoor.Nm


namespace Go.Proofs.YtjgekbmahhhokaaDoor.Pa
open Go.RowKit V Pk Go.Proofs.YtjgekbmahhhokaaDoor.Vl Go.Proofs.YtjgekbmahhhokaaDoor.Nm
set_option linter.unusedVariables false
set_option linter.unusedSimpArgs false

variable {G : List (Nat × List Value)}
structure WOk (w : List OpL) : Prop where
 l : w.length ≤ 40
 f : whereF w = 0
 b : ∀ o ∈ w, o.nm.size ≤ maxLen ∧ -9223372036854775808 ≤ o.v.n ∧ o.v.n ≤ 9223372036854775807
end Go.Proofs.YtjgekbmahhhokaaDoor.Pa

namespace Go.Proofs.YtjgekbmahhhokaaDoor.Pa
open Go.RowKit V Pk Go.Proofs.YtjgekbmahhhokaaDoor.Vl Go.Proofs.YtjgekbmahhhokaaDoor.Nm
set_option linter.unusedVariables false
set_option linter.unusedSimpArgs false

variable {G : List (Nat × List Value)}
def dvS (s : StL) (r : D) : Prop := r = .agg (cSt s) ∧ okS s

theorem places32_Pbb : ∀ w, ((#[{ name := "Kind", type := 3, offset := 0, embedded := false, tag := "", pkgPath := "", byteOffset := 0 }, { name := "Table", type := 9, offset := 1, embedded := false, tag := "", pkgPath := "", byteOffset := 8 }, { name := "Cols", type := 27, offset := 2, embedded := false, tag := "", pkgPath := "", byteOffset := 24 }, { name := "Row", type := 28, offset := 3, embedded := false, tag := "", pkgPath := "", byteOffset := 48 }, { name := "Names", type := 29, offset := 4, embedded := false, tag := "", pkgPath := "", byteOffset := 72 }, { name := "Count", type := 4, offset := 5, embedded := false, tag := "", pkgPath := "", byteOffset := 96 }, { name := "Where", type := 30, offset := 6, embedded := false, tag := "", pkgPath := "", byteOffset := 104 }, { name := "Order", type := 9, offset := 7, embedded := false, tag := "", pkgPath := "", byteOffset := 128 }, { name := "Down", type := 4, offset := 8, embedded := false, tag := "", pkgPath := "", byteOffset := 144 }, { name := "Limit", type := 3, offset := 9, embedded := false, tag := "", pkgPath := "", byteOffset := 152 }, { name := "Set", type := 9, offset := 10, embedded := false, tag := "", pkgPath := "", byteOffset := 160 }, { name := "To", type := 30, offset := 11, embedded := false, tag := "", pkgPath := "", byteOffset := 176 }] : Array Field).mapM fun f => do pure (f.offset, ← sizeOf f.type) : Sem (Array (Nat × Nat))).run Tryd.prog w = .ok #[(0, 1), (1, 1), (2, 1), (3, 1), (4, 1), (5, 1), (6, 1), (7, 1), (8, 1), (9, 1), (10, 1), (11, 1)] w := fun w => by simp [Tryd.sizeOf27, Tryd.sizeOf28, Tryd.sizeOf29, Tryd.sizeOf3, Tryd.sizeOf30, Tryd.sizeOf4, Tryd.sizeOf9]

set_option maxHeartbeats 4000000 in
set_option maxRecDepth 100000 in
theorem statement_vx {br : Nat} {l : List Tk} (hl : l.length ≤ 100) (hm : (0, marksC) ∈ G) (hw : (2, wordsC) ∈ G) (hk : (5, cmpC) ∈ G) (hty : (1, typesC) ∈ G) (ht : ∀ t ∈ l, t.s.size ≤ maxLen ∧ (t.k = 2 → 0 ≤ t.n ∧ t.n ≤ 9223372036854775807)) (p : Nat) (hp : p ≤ l.length) (os : List OpL) (R : Rs StL) (hR : R = stP l p os) (ad : Option Addr) (n cap : Nat) : VX Tryd.prog G 25 [.v (.pointer (some ⟨br, 0, none⟩))] [⟨br, 70, 3, [.list 3 (l.flatMap cT) l.length, .v (.int .i64 ((p : Nat) : Int)), .v (.slice ad n cap)]⟩] (fun r S' => EndR br l R dvS r S') (PanX R) := by
 refine VX.body Tryd.func25 rfl Tryd.ntmps25 le_ fun X0 w0 S00 => ?_
 refine sr_ ?_
 refine OD.alloc (ds := [_, _, _, _, _, _, _, _, _, _, _, _]) wp_ rfl rfl Tryd.zeroValue32 rfl (fun b2 => ?_)
 refine on_ [(0, _), (2, _)] [⟨b2, 32, 12, [_, _, _, _, _, _, _, _, _, _, _, _]⟩, ⟨br, 70, 3, [_, _, _]⟩] ?_
 refine sr_ ?_
 refine os_ (still_bld (pl := [(9, _)]) (ds := [_, _, _, _, _, _, _, _, _, _, _, _]) rfl Tryd.zeroValue32 Tryd.runUnderlying32 places32_Pbb ⟨rfl, opd_const, trivial⟩ rfl rfl) ?_
 refine OD.alloc (ds := [_, _, _, _, _, _, _, _, _, _, _, _]) wp_ rfl rfl Tryd.zeroValue32 rfl (fun b3 => ?_)
 refine ot_ 0 [_, _, _, _, _, _, _, _, _, _, _, _] Tryd.sizeOf32 ?_
 refine on_ [(0, _), (2, _), (3, _)] [⟨b3, 32, 12, [_, _, _, _, _, _, _, _, _, _, _, _]⟩, ⟨b2, 32, 12, [_, _, _, _, _, _, _, _, _, _, _, _]⟩, ⟨br, 70, 3, [_, _, _]⟩] ?_
 refine CD.seq ?_
 refine CD.block ?_
 refine CD.seq ?_
 refine CD.perm (S' := [_, _, _]) (List.perm_append_comm (l₁ := [_, _]) (l₂ := [_])) ?_
 refine CD.cells (k := 1) (cs' := [_, _, .list 2 [] 0, .list 3 [] 0, _, _, .list 5 [] 0, _, _, _, _, .list 5 [] 0]) (S' := [⟨br, 70, 3, [.list 3 (l.flatMap cT) l.length, .v (.int .i64 ((p : Nat) : Int)), .v (.slice ad n cap)]⟩, _, _]) rfl (by repeat (first | exact trivial | exact ⟨gv_rfl, trivial⟩ | exact ⟨gv_nil, trivial⟩ | refine ⟨gv_rfl, ?_⟩ | refine ⟨gv_nil, ?_⟩)) rfl ?_
 refine CD.region ?_
 refine om_ ?_
 refine OD.call wp_ rfl rfl rfl Tryd.call43 (eat_vc l hl p 1 ⟨#[67, 82, 69, 65, 84, 69]⟩ ad n cap br) ⟨ot, opd_const, opd_const, trivial⟩ (List.Perm.refl _) ?_
 rintro _ _ ⟨rfl, rfl⟩
 refine OD.perm (S' := ⟨br, 70, 3, [.list 3 (l.flatMap cT) l.length, .v (.int .i64 (((if isQ l p 1 ⟨#[67, 82, 69, 65, 84, 69]⟩ = true then p + 1 else p) : Nat) : Int)), .v (.slice ad n cap)]⟩ :: [⟨b3, 32, 12, [_, _, _, _, _, _, _, _, _, _, _, _]⟩, ⟨b2, 32, 12, [_, _, _, _, _, _, _, _, _, _, _, _]⟩]) (List.Perm.refl _) ?_
 refine om_ ?_
 refine on_ [(0, _), (2, _), (3, _), (7, _)] [⟨br, 70, 3, [_, _, _]⟩, ⟨b3, 32, 12, [_, _, _, _, _, _, _, _, _, _, _, _]⟩, ⟨b2, 32, 12, [_, _, _, _, _, _, _, _, _, _, _, _]⟩] ?_
 refine CD.cond ot (fun hc0 => ?_) (fun hc0 => ?_)
 ·have hc0' := hc0
  (try simp only [V.cnd, ne_eq] at hc0')
  have e0t : isQ l p 1 ⟨#[67, 82, 69, 65, 84, 69]⟩ = true := hc0
  rw [e0t]
  simp only [if_true]
  have hR1 : R = (mustP l [⟨#[84, 65, 66, 76, 69]⟩] (p + 1) os).bind (fun _ p ops => (nameP l p ops).bind (fun t p ops => (colsB l p ops).bind (fun c p ops => .ok { st0 with kind := 1, table := t, cols := c } p ops))) := hR.trans (by unfold stP; rw [if_pos e0t])
  refine sr_ ?_
  refine om_ ?_
  refine ob_ (numD 0 [_]) [.string ⟨#[]⟩] [_] Tryd.zeroValue9 Tryd.runUnderlying29 Tryd.sizeOf9 (fun b11 => ?_)
  refine og_ 0 11 1 1 ?_
  refine OD.callX wp_ rfl rfl rfl Tryd.call44 (must_vx l hl [⟨#[84, 65, 66, 76, 69]⟩] (by decide) (p + 1) ad n cap br) ⟨ot, by exact rfl, trivial⟩ (List.Perm.refl _) (fun ch hch => (Or.inr ⟨ch, rfl, by obtain ⟨q, e, h1, h2⟩ := hch; exact ⟨q, e, hR1.trans (by rw [h1]; rfl), h2⟩⟩ : BodyX _ _ _ _ _ _)) ?_
  rintro _ _ ⟨p2, hr2, rfl⟩
  refine OD.perm (S' := ⟨br, 70, 3, [.list 3 (l.flatMap cT) l.length, .v (.int .i64 ((p2 : Nat) : Int)), .v (.slice ad n cap)]⟩ :: [⟨b3, 32, 12, [_, _, _, _, _, _, _, _, _, _, _, _]⟩, ⟨b2, 32, 12, [_, _, _, _, _, _, _, _, _, _, _, _]⟩]) (List.Perm.refl _) ?_
  have hp2 := (must_le (hr2 []) (isQ_lt e0t)).2.1
  have hR2 : R = (nameP l p2 os).bind (fun t p ops => (colsB l p ops).bind (fun c p ops => .ok { st0 with kind := 1, table := t, cols := c } p ops)) := hR1.trans (by rw [hr2]; rfl)
  refine on_ [(0, _), (2, _), (3, _)] [⟨br, 70, 3, [_, _, _]⟩, ⟨b3, 32, 12, [_, _, _, _, _, _, _, _, _, _, _, _]⟩, ⟨b2, 32, 12, [_, _, _, _, _, _, _, _, _, _, _, _]⟩] ?_
  refine sr_ ?_
  refine om_ ?_
  refine OD.callX wp_ rfl rfl rfl Tryd.call45 (name_vx hm hw l hl ht p2 ad n cap br) ⟨ot, trivial⟩ (List.Perm.refl _) (fun ch hch => (Or.inr ⟨ch, rfl, by obtain ⟨q, e, h1, h2⟩ := hch; exact ⟨q, e, hR2.trans (by rw [h1]; rfl), h2⟩⟩ : BodyX _ _ _ _ _ _)) ?_
  rintro _ _ ⟨t, hr3, rfl, rfl⟩
  refine OD.perm (S' := ⟨br, 70, 3, [.list 3 (l.flatMap cT) l.length, .v (.int .i64 (((p2 + 1) : Nat) : Int)), .v (.slice ad n cap)]⟩ :: [⟨b3, 32, 12, [_, _, _, _, _, _, _, _, _, _, _, _]⟩, ⟨b2, 32, 12, [_, _, _, _, _, _, _, _, _, _, _, _]⟩]) (List.Perm.refl _) ?_
  have hlt3 := (name_le (hr3 [])).2.2
  have hR3 : R = (colsB l (p2 + 1) os).bind (fun c p ops => .ok { st0 with kind := 1, table := t, cols := c } p ops) := hR2.trans (by rw [hr3]; rfl)
  refine os_ (fa_ 0) ?_
  refine ot_ 1 [_, _, _, _, _, _, _, _, _, _, _, _] Tryd.sizeOf3 ?_
  refine os_ (fa_ 1) ?_
  refine ot_ 1 [_, _, _, _, _, _, _, _, _, _, _, _] Tryd.sizeOf9 ?_
  refine on_ [(0, _), (2, _), (3, _)] [⟨br, 70, 3, [_, _, _]⟩, ⟨b3, 32, 12, [_, _, _, _, _, _, _, _, _, _, _, _]⟩, ⟨b2, 32, 12, [_, _, _, _, _, _, _, _, _, _, _, _]⟩] ?_
  refine CD.region ?_
  refine om_ ?_
  refine OD.callX wp_ rfl rfl rfl Tryd.call46 (columns_vx hl hm hw hty ht (p2 + 1) hlt3 os (colsB l (p2 + 1) os) rfl ad n cap) ⟨ot, trivial⟩ (List.Perm.refl _) (fun ch hch => (Or.inr ⟨ch, rfl, by obtain ⟨q, e, h1, h2⟩ := hch; exact ⟨q, e, hR3.trans (by rw [h1]; rfl), h2⟩⟩ : BodyX _ _ _ _ _ _)) ?_
  rintro _ _ ⟨c, p4, o4, ad4, n4, cap4, hr4, ⟨rfl, hv_c⟩, hp4, rfl⟩
  refine OD.perm (S' := ⟨br, 70, 3, [.list 3 (l.flatMap cT) l.length, .v (.int .i64 ((p4 : Nat) : Int)), .v (.slice ad4 n4 cap4)]⟩ :: [⟨b3, 32, 12, [_, _, _, _, _, _, _, _, _, _, _, _]⟩, ⟨b2, 32, 12, [_, _, _, _, _, _, _, _, _, _, _, _]⟩]) (List.Perm.refl _) ?_
  have hR4 : R = .ok { st0 with kind := 1, table := t, cols := c } p4 o4 := hR3.trans (by rw [hr4]; rfl)
  refine os_ (fa_ 2) ?_
  refine ot_ 1 [_, _, _, _, _, _, _, _, _, _, _, _] Tryd.sizeOf27 ?_
  refine on_ [(2, _), (3, _)] [⟨br, 70, 3, [_, _, _]⟩, ⟨b3, 32, 12, [_, _, _, _, _, _, _, _, _, _, _, _]⟩, ⟨b2, 32, 12, [_, _, _, _, _, _, _, _, _, _, _, _]⟩] ?_
  refine CD.seq ?_
  refine CD.cells (k := 1) (cs' := [_, _, _, _, .list 1 [] 0, _, _, _, _, _, _, _]) (S' := [⟨br, 70, 3, [.list 3 (l.flatMap cT) l.length, .v (.int .i64 ((p4 : Nat) : Int)), .v (.slice ad4 n4 cap4)]⟩, _, _]) rfl (by repeat (first | exact trivial | exact ⟨gv_rfl, trivial⟩ | exact ⟨gv_nil, trivial⟩ | refine ⟨gv_rfl, ?_⟩ | refine ⟨gv_nil, ?_⟩)) rfl ?_
  refine CD.region ?_
  refine os_ (lab_ 1 [_, _, _, _, _, _, _, _, _, _, _, _]) ?_
  refine ot_ 2 [_, _, _, _, _, _, _, _, _, _, _, _] Tryd.sizeOf32 ?_
  refine on_ [(2, _)] [⟨br, 70, 3, [_, _, _]⟩, ⟨b3, 32, 12, [_, _, _, _, _, _, _, _, _, _, _, _]⟩, ⟨b2, 32, 12, [_, _, _, _, _, _, _, _, _, _, _, _]⟩] ?_
  refine CD.ret ?_
  refine Or.inl ?_
  refine ⟨.inr rfl, _, [⟨br, 70, 3, [.list 3 (l.flatMap cT) l.length, .v (.int .i64 ((p4 : Nat) : Int)), .v (.slice ad4 n4 cap4)]⟩], sw_, ret_one Tryd.results25 (res_cells (k := 2) (ds := [_, _, _, _, _, _, _, _, _, _, _, _]) le_ lk rfl rfl Tryd.isAgg32 Tryd.sizeOf32 rfl rfl), ?_⟩
  exact ⟨{ st0 with kind := 1, table := t, cols := c }, p4, o4, _, _, _, hR4, ⟨rfl, ⟨hv_c, Nat.zero_le _, Nat.zero_le _, Nat.zero_le _, Nat.zero_le _⟩⟩, hp4, rfl⟩
 have hc0' := hc0
 (try simp only [V.cnd, ne_eq] at hc0')
 have e0f : isQ l p 1 ⟨#[67, 82, 69, 65, 84, 69]⟩ = false := hc0
 rw [e0f]
 simp only [Bool.false_eq_true, if_false]
 refine sr_ ?_
 refine om_ ?_
 refine OD.call wp_ rfl rfl rfl Tryd.call43 (eat_vc l hl p 1 ⟨#[68, 82, 79, 80]⟩ ad n cap br) ⟨ot, opd_const, opd_const, trivial⟩ (List.Perm.refl _) ?_
 rintro _ _ ⟨rfl, rfl⟩
 refine OD.perm (S' := ⟨br, 70, 3, [.list 3 (l.flatMap cT) l.length, .v (.int .i64 (((if isQ l p 1 ⟨#[68, 82, 79, 80]⟩ = true then p + 1 else p) : Nat) : Int)), .v (.slice ad n cap)]⟩ :: [⟨b3, 32, 12, [_, _, _, _, _, _, _, _, _, _, _, _]⟩, ⟨b2, 32, 12, [_, _, _, _, _, _, _, _, _, _, _, _]⟩]) (List.Perm.refl _) ?_
 refine om_ ?_
 refine on_ [(0, _), (2, _), (3, _), (20, _)] [⟨br, 70, 3, [_, _, _]⟩, ⟨b3, 32, 12, [_, _, _, _, _, _, _, _, _, _, _, _]⟩, ⟨b2, 32, 12, [_, _, _, _, _, _, _, _, _, _, _, _]⟩] ?_
 refine CD.cond ot (fun hc1 => ?_) (fun hc1 => ?_)
 ·have hc1' := hc1
  (try simp only [V.cnd, ne_eq] at hc1')
  have e1t : isQ l p 1 ⟨#[68, 82, 79, 80]⟩ = true := hc1
  rw [e1t]
  simp only [if_true]
  have hR5 : R = (mustP l [⟨#[84, 65, 66, 76, 69]⟩] (p + 1) os).bind (fun _ p ops => (nameP l p ops).bind (fun t p ops => .ok { st0 with kind := 2, table := t } p ops)) := hR.trans (by unfold stP; rw [if_neg (F_ e0f), if_pos e1t])
  refine sr_ ?_
  refine om_ ?_
  refine ob_ (numD 0 [_]) [.string ⟨#[]⟩] [_] Tryd.zeroValue9 Tryd.runUnderlying29 Tryd.sizeOf9 (fun b24 => ?_)
  refine og_ 0 24 1 1 ?_
  refine OD.callX wp_ rfl rfl rfl Tryd.call44 (must_vx l hl [⟨#[84, 65, 66, 76, 69]⟩] (by decide) (p + 1) ad n cap br) ⟨ot, by exact rfl, trivial⟩ (List.Perm.refl _) (fun ch hch => (Or.inr ⟨ch, rfl, by obtain ⟨q, e, h1, h2⟩ := hch; exact ⟨q, e, hR5.trans (by rw [h1]; rfl), h2⟩⟩ : BodyX _ _ _ _ _ _)) ?_
  rintro _ _ ⟨p6, hr6, rfl⟩
  refine OD.perm (S' := ⟨br, 70, 3, [.list 3 (l.flatMap cT) l.length, .v (.int .i64 ((p6 : Nat) : Int)), .v (.slice ad n cap)]⟩ :: [⟨b3, 32, 12, [_, _, _, _, _, _, _, _, _, _, _, _]⟩, ⟨b2, 32, 12, [_, _, _, _, _, _, _, _, _, _, _, _]⟩]) (List.Perm.refl _) ?_
  have hp6 := (must_le (hr6 []) (isQ_lt e1t)).2.1
  have hR6 : R = (nameP l p6 os).bind (fun t p ops => .ok { st0 with kind := 2, table := t } p ops) := hR5.trans (by rw [hr6]; rfl)
  refine on_ [(0, _), (2, _), (3, _)] [⟨br, 70, 3, [_, _, _]⟩, ⟨b3, 32, 12, [_, _, _, _, _, _, _, _, _, _, _, _]⟩, ⟨b2, 32, 12, [_, _, _, _, _, _, _, _, _, _, _, _]⟩] ?_
  refine CD.region ?_
  refine om_ ?_
  refine OD.callX wp_ rfl rfl rfl Tryd.call45 (name_vx hm hw l hl ht p6 ad n cap br) ⟨ot, trivial⟩ (List.Perm.refl _) (fun ch hch => (Or.inr ⟨ch, rfl, by obtain ⟨q, e, h1, h2⟩ := hch; exact ⟨q, e, hR6.trans (by rw [h1]; rfl), h2⟩⟩ : BodyX _ _ _ _ _ _)) ?_
  rintro _ _ ⟨t, hr7, rfl, rfl⟩
  refine OD.perm (S' := ⟨br, 70, 3, [.list 3 (l.flatMap cT) l.length, .v (.int .i64 (((p6 + 1) : Nat) : Int)), .v (.slice ad n cap)]⟩ :: [⟨b3, 32, 12, [_, _, _, _, _, _, _, _, _, _, _, _]⟩, ⟨b2, 32, 12, [_, _, _, _, _, _, _, _, _, _, _, _]⟩]) (List.Perm.refl _) ?_
  have hlt7 := (name_le (hr7 [])).2.2
  have hR7 : R = .ok { st0 with kind := 2, table := t } (p6 + 1) os := hR6.trans (by rw [hr7]; rfl)
  refine os_ (fa_ 0) ?_
  refine ot_ 1 [_, _, _, _, _, _, _, _, _, _, _, _] Tryd.sizeOf3 ?_
  refine os_ (fa_ 1) ?_
  refine ot_ 1 [_, _, _, _, _, _, _, _, _, _, _, _] Tryd.sizeOf9 ?_
  refine on_ [(2, _), (3, _)] [⟨br, 70, 3, [_, _, _]⟩, ⟨b3, 32, 12, [_, _, _, _, _, _, _, _, _, _, _, _]⟩, ⟨b2, 32, 12, [_, _, _, _, _, _, _, _, _, _, _, _]⟩] ?_
  refine CD.seq ?_
  refine CD.cells (k := 1) (cs' := [_, _, _, _, .list 1 [] 0, _, _, _, _, _, _, _]) (S' := [⟨br, 70, 3, [.list 3 (l.flatMap cT) l.length, .v (.int .i64 (((p6 + 1) : Nat) : Int)), .v (.slice ad n cap)]⟩, _, _]) rfl (by repeat (first | exact trivial | exact ⟨gv_rfl, trivial⟩ | exact ⟨gv_nil, trivial⟩ | refine ⟨gv_rfl, ?_⟩ | refine ⟨gv_nil, ?_⟩)) rfl ?_
  refine CD.region ?_
  refine os_ (lab_ 1 [_, _, _, _, _, _, _, _, _, _, _, _]) ?_
  refine ot_ 2 [_, _, _, _, _, _, _, _, _, _, _, _] Tryd.sizeOf32 ?_
  refine on_ [(2, _)] [⟨br, 70, 3, [_, _, _]⟩, ⟨b3, 32, 12, [_, _, _, _, _, _, _, _, _, _, _, _]⟩, ⟨b2, 32, 12, [_, _, _, _, _, _, _, _, _, _, _, _]⟩] ?_
  refine CD.ret ?_
  refine Or.inl ?_
  refine ⟨.inr rfl, _, [⟨br, 70, 3, [.list 3 (l.flatMap cT) l.length, .v (.int .i64 (((p6 + 1) : Nat) : Int)), .v (.slice ad n cap)]⟩], sw_, ret_one Tryd.results25 (res_cells (k := 2) (ds := [_, _, _, _, _, _, _, _, _, _, _, _]) le_ lk rfl rfl Tryd.isAgg32 Tryd.sizeOf32 rfl rfl), ?_⟩
  exact ⟨{ st0 with kind := 2, table := t }, (p6 + 1), os, _, _, _, hR7, ⟨rfl, ⟨Nat.zero_le _, Nat.zero_le _, Nat.zero_le _, Nat.zero_le _, Nat.zero_le _⟩⟩, hlt7, rfl⟩
 have hc1' := hc1
 (try simp only [V.cnd, ne_eq] at hc1')
 have e1f : isQ l p 1 ⟨#[68, 82, 79, 80]⟩ = false := hc1
 rw [e1f]
 simp only [Bool.false_eq_true, if_false]
 refine sr_ ?_
 refine om_ ?_
 refine OD.call wp_ rfl rfl rfl Tryd.call43 (eat_vc l hl p 1 ⟨#[73, 78, 83, 69, 82, 84]⟩ ad n cap br) ⟨ot, opd_const, opd_const, trivial⟩ (List.Perm.refl _) ?_
 rintro _ _ ⟨rfl, rfl⟩
 refine OD.perm (S' := ⟨br, 70, 3, [.list 3 (l.flatMap cT) l.length, .v (.int .i64 (((if isQ l p 1 ⟨#[73, 78, 83, 69, 82, 84]⟩ = true then p + 1 else p) : Nat) : Int)), .v (.slice ad n cap)]⟩ :: [⟨b3, 32, 12, [_, _, _, _, _, _, _, _, _, _, _, _]⟩, ⟨b2, 32, 12, [_, _, _, _, _, _, _, _, _, _, _, _]⟩]) (List.Perm.refl _) ?_
 refine om_ ?_
 refine on_ [(0, _), (2, _), (3, _), (30, _)] [⟨br, 70, 3, [_, _, _]⟩, ⟨b3, 32, 12, [_, _, _, _, _, _, _, _, _, _, _, _]⟩, ⟨b2, 32, 12, [_, _, _, _, _, _, _, _, _, _, _, _]⟩] ?_
 refine CD.cond ot (fun hc2 => ?_) (fun hc2 => ?_)
 ·have hc2' := hc2
  (try simp only [V.cnd, ne_eq] at hc2')
  have e2t : isQ l p 1 ⟨#[73, 78, 83, 69, 82, 84]⟩ = true := hc2
  rw [e2t]
  simp only [if_true]
  have hR8 : R = (mustP l [⟨#[73, 78, 84, 79]⟩] (p + 1) os).bind (fun _ p ops => (nameP l p ops).bind (fun t p ops => (mustP l [⟨#[86, 65, 76, 85, 69, 83]⟩] p ops).bind (fun _ p ops => (rowB l p ops).bind (fun r p ops => .ok { st0 with kind := 3, table := t, row := r } p ops)))) := hR.trans (by unfold stP; rw [if_neg (F_ e0f), if_neg (F_ e1f), if_pos e2t])
  refine sr_ ?_
  refine om_ ?_
  refine ob_ (numD 0 [_]) [.string ⟨#[]⟩] [_] Tryd.zeroValue9 Tryd.runUnderlying29 Tryd.sizeOf9 (fun b34 => ?_)
  refine og_ 0 34 1 1 ?_
  refine OD.callX wp_ rfl rfl rfl Tryd.call44 (must_vx l hl [⟨#[73, 78, 84, 79]⟩] (by decide) (p + 1) ad n cap br) ⟨ot, by exact rfl, trivial⟩ (List.Perm.refl _) (fun ch hch => (Or.inr ⟨ch, rfl, by obtain ⟨q, e, h1, h2⟩ := hch; exact ⟨q, e, hR8.trans (by rw [h1]; rfl), h2⟩⟩ : BodyX _ _ _ _ _ _)) ?_
  rintro _ _ ⟨p9, hr9, rfl⟩
  refine OD.perm (S' := ⟨br, 70, 3, [.list 3 (l.flatMap cT) l.length, .v (.int .i64 ((p9 : Nat) : Int)), .v (.slice ad n cap)]⟩ :: [⟨b3, 32, 12, [_, _, _, _, _, _, _, _, _, _, _, _]⟩, ⟨b2, 32, 12, [_, _, _, _, _, _, _, _, _, _, _, _]⟩]) (List.Perm.refl _) ?_
  have hp9 := (must_le (hr9 []) (isQ_lt e2t)).2.1
  have hR9 : R = (nameP l p9 os).bind (fun t p ops => (mustP l [⟨#[86, 65, 76, 85, 69, 83]⟩] p ops).bind (fun _ p ops => (rowB l p ops).bind (fun r p ops => .ok { st0 with kind := 3, table := t, row := r } p ops))) := hR8.trans (by rw [hr9]; rfl)
  refine on_ [(0, _), (2, _), (3, _)] [⟨br, 70, 3, [_, _, _]⟩, ⟨b3, 32, 12, [_, _, _, _, _, _, _, _, _, _, _, _]⟩, ⟨b2, 32, 12, [_, _, _, _, _, _, _, _, _, _, _, _]⟩] ?_
  refine sr_ ?_
  refine om_ ?_
  refine OD.callX wp_ rfl rfl rfl Tryd.call45 (name_vx hm hw l hl ht p9 ad n cap br) ⟨ot, trivial⟩ (List.Perm.refl _) (fun ch hch => (Or.inr ⟨ch, rfl, by obtain ⟨q, e, h1, h2⟩ := hch; exact ⟨q, e, hR9.trans (by rw [h1]; rfl), h2⟩⟩ : BodyX _ _ _ _ _ _)) ?_
  rintro _ _ ⟨t, hr10, rfl, rfl⟩
  refine OD.perm (S' := ⟨br, 70, 3, [.list 3 (l.flatMap cT) l.length, .v (.int .i64 (((p9 + 1) : Nat) : Int)), .v (.slice ad n cap)]⟩ :: [⟨b3, 32, 12, [_, _, _, _, _, _, _, _, _, _, _, _]⟩, ⟨b2, 32, 12, [_, _, _, _, _, _, _, _, _, _, _, _]⟩]) (List.Perm.refl _) ?_
  have hlt10 := (name_le (hr10 [])).2.2
  have hR10 : R = (mustP l [⟨#[86, 65, 76, 85, 69, 83]⟩] (p9 + 1) os).bind (fun _ p ops => (rowB l p ops).bind (fun r p ops => .ok { st0 with kind := 3, table := t, row := r } p ops)) := hR9.trans (by rw [hr10]; rfl)
  refine os_ (fa_ 0) ?_
  refine ot_ 1 [_, _, _, _, _, _, _, _, _, _, _, _] Tryd.sizeOf3 ?_
  refine os_ (fa_ 1) ?_
  refine ot_ 1 [_, _, _, _, _, _, _, _, _, _, _, _] Tryd.sizeOf9 ?_
  refine on_ [(0, _), (2, _), (3, _)] [⟨br, 70, 3, [_, _, _]⟩, ⟨b3, 32, 12, [_, _, _, _, _, _, _, _, _, _, _, _]⟩, ⟨b2, 32, 12, [_, _, _, _, _, _, _, _, _, _, _, _]⟩] ?_
  refine sr_ ?_
  refine om_ ?_
  refine ob_ (numD 0 [_]) [.string ⟨#[]⟩] [_] Tryd.zeroValue9 Tryd.runUnderlying29 Tryd.sizeOf9 (fun b41 => ?_)
  refine og_ 0 41 1 1 ?_
  refine OD.callX wp_ rfl rfl rfl Tryd.call44 (must_vx l hl [⟨#[86, 65, 76, 85, 69, 83]⟩] (by decide) (p9 + 1) ad n cap br) ⟨ot, by exact rfl, trivial⟩ (List.Perm.refl _) (fun ch hch => (Or.inr ⟨ch, rfl, by obtain ⟨q, e, h1, h2⟩ := hch; exact ⟨q, e, hR10.trans (by rw [h1]; rfl), h2⟩⟩ : BodyX _ _ _ _ _ _)) ?_
  rintro _ _ ⟨p11, hr11, rfl⟩
  refine OD.perm (S' := ⟨br, 70, 3, [.list 3 (l.flatMap cT) l.length, .v (.int .i64 ((p11 : Nat) : Int)), .v (.slice ad n cap)]⟩ :: [⟨b3, 32, 12, [_, _, _, _, _, _, _, _, _, _, _, _]⟩, ⟨b2, 32, 12, [_, _, _, _, _, _, _, _, _, _, _, _]⟩]) (List.Perm.refl _) ?_
  have hp11 := (must_le (hr11 []) hlt10).2.1
  have hR11 : R = (rowB l p11 os).bind (fun r p ops => .ok { st0 with kind := 3, table := t, row := r } p ops) := hR10.trans (by rw [hr11]; rfl)
  refine on_ [(0, _), (2, _), (3, _)] [⟨br, 70, 3, [_, _, _]⟩, ⟨b3, 32, 12, [_, _, _, _, _, _, _, _, _, _, _, _]⟩, ⟨b2, 32, 12, [_, _, _, _, _, _, _, _, _, _, _, _]⟩] ?_
  refine CD.region ?_
  refine om_ ?_
  refine OD.callX wp_ rfl rfl rfl Tryd.call47 (row_vx hl ht p11 hp11 os (rowB l p11 os) rfl ad n cap) ⟨ot, trivial⟩ (List.Perm.refl _) (fun ch hch => (Or.inr ⟨ch, rfl, by obtain ⟨q, e, h1, h2⟩ := hch; exact ⟨q, e, hR11.trans (by rw [h1]; rfl), h2⟩⟩ : BodyX _ _ _ _ _ _)) ?_
  rintro _ _ ⟨r, p12, o12, ad12, n12, cap12, hr12, ⟨rfl, hv_r⟩, hp12, rfl⟩
  refine OD.perm (S' := ⟨br, 70, 3, [.list 3 (l.flatMap cT) l.length, .v (.int .i64 ((p12 : Nat) : Int)), .v (.slice ad12 n12 cap12)]⟩ :: [⟨b3, 32, 12, [_, _, _, _, _, _, _, _, _, _, _, _]⟩, ⟨b2, 32, 12, [_, _, _, _, _, _, _, _, _, _, _, _]⟩]) (List.Perm.refl _) ?_
  have hR12 : R = .ok { st0 with kind := 3, table := t, row := r } p12 o12 := hR11.trans (by rw [hr12]; rfl)
  refine os_ (fa_ 3) ?_
  refine ot_ 1 [_, _, _, _, _, _, _, _, _, _, _, _] Tryd.sizeOf28 ?_
  refine on_ [(2, _), (3, _)] [⟨br, 70, 3, [_, _, _]⟩, ⟨b3, 32, 12, [_, _, _, _, _, _, _, _, _, _, _, _]⟩, ⟨b2, 32, 12, [_, _, _, _, _, _, _, _, _, _, _, _]⟩] ?_
  refine CD.seq ?_
  refine CD.cells (k := 1) (cs' := [_, _, _, _, .list 1 [] 0, _, _, _, _, _, _, _]) (S' := [⟨br, 70, 3, [.list 3 (l.flatMap cT) l.length, .v (.int .i64 ((p12 : Nat) : Int)), .v (.slice ad12 n12 cap12)]⟩, _, _]) rfl (by repeat (first | exact trivial | exact ⟨gv_rfl, trivial⟩ | exact ⟨gv_nil, trivial⟩ | refine ⟨gv_rfl, ?_⟩ | refine ⟨gv_nil, ?_⟩)) rfl ?_
  refine CD.region ?_
  refine os_ (lab_ 1 [_, _, _, _, _, _, _, _, _, _, _, _]) ?_
  refine ot_ 2 [_, _, _, _, _, _, _, _, _, _, _, _] Tryd.sizeOf32 ?_
  refine on_ [(2, _)] [⟨br, 70, 3, [_, _, _]⟩, ⟨b3, 32, 12, [_, _, _, _, _, _, _, _, _, _, _, _]⟩, ⟨b2, 32, 12, [_, _, _, _, _, _, _, _, _, _, _, _]⟩] ?_
  refine CD.ret ?_
  refine Or.inl ?_
  refine ⟨.inr rfl, _, [⟨br, 70, 3, [.list 3 (l.flatMap cT) l.length, .v (.int .i64 ((p12 : Nat) : Int)), .v (.slice ad12 n12 cap12)]⟩], sw_, ret_one Tryd.results25 (res_cells (k := 2) (ds := [_, _, _, _, _, _, _, _, _, _, _, _]) le_ lk rfl rfl Tryd.isAgg32 Tryd.sizeOf32 rfl rfl), ?_⟩
  exact ⟨{ st0 with kind := 3, table := t, row := r }, p12, o12, _, _, _, hR12, ⟨rfl, ⟨Nat.zero_le _, hv_r, Nat.zero_le _, Nat.zero_le _, Nat.zero_le _⟩⟩, hp12, rfl⟩
 have hc2' := hc2
 (try simp only [V.cnd, ne_eq] at hc2')
 have e2f : isQ l p 1 ⟨#[73, 78, 83, 69, 82, 84]⟩ = false := hc2
 rw [e2f]
 simp only [Bool.false_eq_true, if_false]
 refine sr_ ?_
 refine om_ ?_
 refine OD.call wp_ rfl rfl rfl Tryd.call43 (eat_vc l hl p 1 ⟨#[83, 69, 76, 69, 67, 84]⟩ ad n cap br) ⟨ot, opd_const, opd_const, trivial⟩ (List.Perm.refl _) ?_
 rintro _ _ ⟨rfl, rfl⟩
 refine OD.perm (S' := ⟨br, 70, 3, [.list 3 (l.flatMap cT) l.length, .v (.int .i64 (((if isQ l p 1 ⟨#[83, 69, 76, 69, 67, 84]⟩ = true then p + 1 else p) : Nat) : Int)), .v (.slice ad n cap)]⟩ :: [⟨b3, 32, 12, [_, _, _, _, _, _, _, _, _, _, _, _]⟩, ⟨b2, 32, 12, [_, _, _, _, _, _, _, _, _, _, _, _]⟩]) (List.Perm.refl _) ?_
 refine om_ ?_
 refine on_ [(0, _), (2, _), (3, _), (46, _)] [⟨br, 70, 3, [_, _, _]⟩, ⟨b3, 32, 12, [_, _, _, _, _, _, _, _, _, _, _, _]⟩, ⟨b2, 32, 12, [_, _, _, _, _, _, _, _, _, _, _, _]⟩] ?_
 refine CD.cond ot (fun hc3 => ?_) (fun hc3 => ?_)
 ·have hc3' := hc3
  (try simp only [V.cnd, ne_eq] at hc3')
  have e3t : isQ l p 1 ⟨#[83, 69, 76, 69, 67, 84]⟩ = true := hc3
  rw [e3t]
  simp only [if_true]
  have hR13 : R = pickP l (p + 1) os := hR.trans (by unfold stP; rw [if_neg (F_ e0f), if_neg (F_ e1f), if_neg (F_ e2f), if_pos e3t])
  refine sr_ ?_
  refine os_ (fa_ 0) ?_
  refine ot_ 1 [_, _, _, _, _, _, _, _, _, _, _, _] Tryd.sizeOf3 ?_
  refine on_ [(0, _), (2, _), (3, _)] [⟨br, 70, 3, [_, _, _]⟩, ⟨b3, 32, 12, [_, _, _, _, _, _, _, _, _, _, _, _]⟩, ⟨b2, 32, 12, [_, _, _, _, _, _, _, _, _, _, _, _]⟩] ?_
  refine CD.region ?_
  refine om_ ?_
  refine OD.callX wp_ rfl rfl rfl Tryd.call48 (pick_vx hl hm hw hk ht (p + 1) (isQ_lt e3t) os _ hR13 ad n cap b3) ⟨ot, ot, trivial⟩ (List.Perm.refl _) (fun ch hch => (Or.inr ⟨ch, rfl, hch⟩ : BodyX _ _ _ _ _ _)) ?_
  rintro _ _ ⟨s, p9, o9, ad9, n9, cap9, hr9, hok9, hp9, rfl⟩
  refine OD.perm (S' := [⟨br, 70, 3, [.list 3 (l.flatMap cT) l.length, .v (.int .i64 ((p9 : Nat) : Int)), .v (.slice ad9 n9 cap9)]⟩, ⟨b3, 32, 12, [_, _, _, _, _, _, _, _, _, _, _, _]⟩, ⟨b2, 32, 12, [_, _, _, _, _, _, _, _, _, _, _, _]⟩]) (List.Perm.refl _) ?_
  refine on_ [(2, _), (3, _)] [⟨br, 70, 3, [_, _, _]⟩, ⟨b3, 32, 12, [_, _, _, _, _, _, _, _, _, _, _, _]⟩, ⟨b2, 32, 12, [_, _, _, _, _, _, _, _, _, _, _, _]⟩] ?_
  refine CD.seq ?_
  refine CD.region ?_
  refine os_ (lab_ 1 [_, _, _, _, _, _, _, _, _, _, _, _]) ?_
  refine ot_ 2 [_, _, _, _, _, _, _, _, _, _, _, _] Tryd.sizeOf32 ?_
  refine on_ [(2, _)] [⟨br, 70, 3, [_, _, _]⟩, ⟨b3, 32, 12, [_, _, _, _, _, _, _, _, _, _, _, _]⟩, ⟨b2, 32, 12, [_, _, _, _, _, _, _, _, _, _, _, _]⟩] ?_
  refine CD.ret ?_
  refine Or.inl ?_
  refine ⟨.inr rfl, _, [⟨br, 70, 3, [.list 3 (l.flatMap cT) l.length, .v (.int .i64 ((p9 : Nat) : Int)), .v (.slice ad9 n9 cap9)]⟩], sw_, ret_one Tryd.results25 (res_cells (k := 2) (ds := [_, _, _, _, _, _, _, _, _, _, _, _]) le_ lk rfl rfl Tryd.isAgg32 Tryd.sizeOf32 rfl rfl), ?_⟩
  exact ⟨s, p9, o9, _, _, _, hr9, ⟨rfl, hok9⟩, hp9, rfl⟩
 have hc3' := hc3
 (try simp only [V.cnd, ne_eq] at hc3')
 have e3f : isQ l p 1 ⟨#[83, 69, 76, 69, 67, 84]⟩ = false := hc3
 rw [e3f]
 simp only [Bool.false_eq_true, if_false]
 refine sr_ ?_
 refine om_ ?_
 refine OD.call wp_ rfl rfl rfl Tryd.call43 (eat_vc l hl p 1 ⟨#[85, 80, 68, 65, 84, 69]⟩ ad n cap br) ⟨ot, opd_const, opd_const, trivial⟩ (List.Perm.refl _) ?_
 rintro _ _ ⟨rfl, rfl⟩
 refine OD.perm (S' := ⟨br, 70, 3, [.list 3 (l.flatMap cT) l.length, .v (.int .i64 (((if isQ l p 1 ⟨#[85, 80, 68, 65, 84, 69]⟩ = true then p + 1 else p) : Nat) : Int)), .v (.slice ad n cap)]⟩ :: [⟨b3, 32, 12, [_, _, _, _, _, _, _, _, _, _, _, _]⟩, ⟨b2, 32, 12, [_, _, _, _, _, _, _, _, _, _, _, _]⟩]) (List.Perm.refl _) ?_
 refine om_ ?_
 refine on_ [(0, _), (2, _), (3, _), (52, _)] [⟨br, 70, 3, [_, _, _]⟩, ⟨b3, 32, 12, [_, _, _, _, _, _, _, _, _, _, _, _]⟩, ⟨b2, 32, 12, [_, _, _, _, _, _, _, _, _, _, _, _]⟩] ?_
 refine CD.cond ot (fun hc4 => ?_) (fun hc4 => ?_)
 ·have hc4' := hc4
  (try simp only [V.cnd, ne_eq] at hc4')
  have e4t : isQ l p 1 ⟨#[85, 80, 68, 65, 84, 69]⟩ = true := hc4
  rw [e4t]
  simp only [if_true]
  have hR14 : R = (nameP l (p + 1) os).bind (fun t p ops => (mustP l [⟨#[83, 69, 84]⟩] p ops).bind (fun _ p ops => (nameP l p ops).bind (fun c p ops => (markP l ⟨#[61]⟩ p ops).bind (fun _ p ops => (exprP l p).bind (fun e p ops => (whereP l p ops).bind (fun w p ops => .ok { st0 with kind := 5, table := t, set := c, to := e, wher := w } p ops)))))) := hR.trans (by unfold stP; rw [if_neg (F_ e0f), if_neg (F_ e1f), if_neg (F_ e2f), if_neg (F_ e3f), if_pos e4t])
  refine sr_ ?_
  refine om_ ?_
  refine OD.callX wp_ rfl rfl rfl Tryd.call45 (name_vx hm hw l hl ht (p + 1) ad n cap br) ⟨ot, trivial⟩ (List.Perm.refl _) (fun ch hch => (Or.inr ⟨ch, rfl, by obtain ⟨q, e, h1, h2⟩ := hch; exact ⟨q, e, hR14.trans (by rw [h1]; rfl), h2⟩⟩ : BodyX _ _ _ _ _ _)) ?_
  rintro _ _ ⟨t, hr15, rfl, rfl⟩
  refine OD.perm (S' := ⟨br, 70, 3, [.list 3 (l.flatMap cT) l.length, .v (.int .i64 ((((p + 1) + 1) : Nat) : Int)), .v (.slice ad n cap)]⟩ :: [⟨b3, 32, 12, [_, _, _, _, _, _, _, _, _, _, _, _]⟩, ⟨b2, 32, 12, [_, _, _, _, _, _, _, _, _, _, _, _]⟩]) (List.Perm.refl _) ?_
  have hlt15 := (name_le (hr15 [])).2.2
  have hR15 : R = (mustP l [⟨#[83, 69, 84]⟩] ((p + 1) + 1) os).bind (fun _ p ops => (nameP l p ops).bind (fun c p ops => (markP l ⟨#[61]⟩ p ops).bind (fun _ p ops => (exprP l p).bind (fun e p ops => (whereP l p ops).bind (fun w p ops => .ok { st0 with kind := 5, table := t, set := c, to := e, wher := w } p ops))))) := hR14.trans (by rw [hr15]; rfl)
  refine os_ (fa_ 0) ?_
  refine ot_ 1 [_, _, _, _, _, _, _, _, _, _, _, _] Tryd.sizeOf3 ?_
  refine os_ (fa_ 1) ?_
  refine ot_ 1 [_, _, _, _, _, _, _, _, _, _, _, _] Tryd.sizeOf9 ?_
  refine on_ [(0, _), (2, _), (3, _)] [⟨br, 70, 3, [_, _, _]⟩, ⟨b3, 32, 12, [_, _, _, _, _, _, _, _, _, _, _, _]⟩, ⟨b2, 32, 12, [_, _, _, _, _, _, _, _, _, _, _, _]⟩] ?_
  refine sr_ ?_
  refine om_ ?_
  refine ob_ (numD 0 [_]) [.string ⟨#[]⟩] [_] Tryd.zeroValue9 Tryd.runUnderlying29 Tryd.sizeOf9 (fun b60 => ?_)
  refine og_ 0 60 1 1 ?_
  refine OD.callX wp_ rfl rfl rfl Tryd.call44 (must_vx l hl [⟨#[83, 69, 84]⟩] (by decide) ((p + 1) + 1) ad n cap br) ⟨ot, by exact rfl, trivial⟩ (List.Perm.refl _) (fun ch hch => (Or.inr ⟨ch, rfl, by obtain ⟨q, e, h1, h2⟩ := hch; exact ⟨q, e, hR15.trans (by rw [h1]; rfl), h2⟩⟩ : BodyX _ _ _ _ _ _)) ?_
  rintro _ _ ⟨p16, hr16, rfl⟩
  refine OD.perm (S' := ⟨br, 70, 3, [.list 3 (l.flatMap cT) l.length, .v (.int .i64 ((p16 : Nat) : Int)), .v (.slice ad n cap)]⟩ :: [⟨b3, 32, 12, [_, _, _, _, _, _, _, _, _, _, _, _]⟩, ⟨b2, 32, 12, [_, _, _, _, _, _, _, _, _, _, _, _]⟩]) (List.Perm.refl _) ?_
  have hp16 := (must_le (hr16 []) hlt15).2.1
  have hR16 : R = (nameP l p16 os).bind (fun c p ops => (markP l ⟨#[61]⟩ p ops).bind (fun _ p ops => (exprP l p).bind (fun e p ops => (whereP l p ops).bind (fun w p ops => .ok { st0 with kind := 5, table := t, set := c, to := e, wher := w } p ops)))) := hR15.trans (by rw [hr16]; rfl)
  refine on_ [(0, _), (2, _), (3, _)] [⟨br, 70, 3, [_, _, _]⟩, ⟨b3, 32, 12, [_, _, _, _, _, _, _, _, _, _, _, _]⟩, ⟨b2, 32, 12, [_, _, _, _, _, _, _, _, _, _, _, _]⟩] ?_
  refine sr_ ?_
  refine om_ ?_
  refine OD.callX wp_ rfl rfl rfl Tryd.call45 (name_vx hm hw l hl ht p16 ad n cap br) ⟨ot, trivial⟩ (List.Perm.refl _) (fun ch hch => (Or.inr ⟨ch, rfl, by obtain ⟨q, e, h1, h2⟩ := hch; exact ⟨q, e, hR16.trans (by rw [h1]; rfl), h2⟩⟩ : BodyX _ _ _ _ _ _)) ?_
  rintro _ _ ⟨c, hr17, rfl, rfl⟩
  refine OD.perm (S' := ⟨br, 70, 3, [.list 3 (l.flatMap cT) l.length, .v (.int .i64 (((p16 + 1) : Nat) : Int)), .v (.slice ad n cap)]⟩ :: [⟨b3, 32, 12, [_, _, _, _, _, _, _, _, _, _, _, _]⟩, ⟨b2, 32, 12, [_, _, _, _, _, _, _, _, _, _, _, _]⟩]) (List.Perm.refl _) ?_
  have hlt17 := (name_le (hr17 [])).2.2
  have hR17 : R = (markP l ⟨#[61]⟩ (p16 + 1) os).bind (fun _ p ops => (exprP l p).bind (fun e p ops => (whereP l p ops).bind (fun w p ops => .ok { st0 with kind := 5, table := t, set := c, to := e, wher := w } p ops))) := hR16.trans (by rw [hr17]; rfl)
  refine os_ (fa_ 10) ?_
  refine ot_ 1 [_, _, _, _, _, _, _, _, _, _, _, _] Tryd.sizeOf9 ?_
  refine on_ [(0, _), (2, _), (3, _)] [⟨br, 70, 3, [_, _, _]⟩, ⟨b3, 32, 12, [_, _, _, _, _, _, _, _, _, _, _, _]⟩, ⟨b2, 32, 12, [_, _, _, _, _, _, _, _, _, _, _, _]⟩] ?_
  refine sr_ ?_
  refine om_ ?_
  refine OD.callX wp_ rfl rfl rfl Tryd.call49 (mark_vx l hl (p16 + 1) ⟨#[61]⟩ ad n cap br) ⟨ot, opd_const, trivial⟩ (List.Perm.refl _) (fun ch hch => (Or.inr ⟨ch, rfl, ⟨_, _, hR17.trans (by rw [mark_no hch.1]; rfl), hch.2⟩⟩ : BodyX _ _ _ _ _ _)) ?_
  rintro _ _ ⟨hm18, rfl⟩
  refine OD.perm (S' := ⟨br, 70, 3, [.list 3 (l.flatMap cT) l.length, .v (.int .i64 ((((p16 + 1) + 1) : Nat) : Int)), .v (.slice ad n cap)]⟩ :: [⟨b3, 32, 12, [_, _, _, _, _, _, _, _, _, _, _, _]⟩, ⟨b2, 32, 12, [_, _, _, _, _, _, _, _, _, _, _, _]⟩]) (List.Perm.refl _) ?_
  have hR18 : R = (exprP l ((p16 + 1) + 1)).bind (fun e p ops => (whereP l p ops).bind (fun w p ops => .ok { st0 with kind := 5, table := t, set := c, to := e, wher := w } p ops)) := hR17.trans (by rw [mark_yes hm18]; rfl)
  refine on_ [(0, _), (2, _), (3, _)] [⟨br, 70, 3, [_, _, _]⟩, ⟨b3, 32, 12, [_, _, _, _, _, _, _, _, _, _, _, _]⟩, ⟨b2, 32, 12, [_, _, _, _, _, _, _, _, _, _, _, _]⟩] ?_
  refine sr_ ?_
  refine om_ ?_
  have hs19 := ns_expr (isQ_lt hm18)
  refine OD.callX wp_ rfl rfl rfl Tryd.call50 (expr_vx hl hm hw hk ht ((p16 + 1) + 1) (isQ_lt hm18) _ rfl hs19 ad n cap) ⟨ot, trivial⟩ (List.Perm.refl _) (fun ch hch => (Or.inr ⟨ch, rfl, by obtain ⟨q, e, h1, h2⟩ := hch; exact ⟨q, e, hR18.trans (by rw [h1]; rfl), h2⟩⟩ : BodyX _ _ _ _ _ _)) ?_
  rintro _ _ ⟨e, p19, o19, ad19, n19, cap19, hr19, ⟨rfl, hv19⟩, hp19, rfl⟩
  refine OD.perm (S' := ⟨br, 70, 3, [.list 3 (l.flatMap cT) l.length, .v (.int .i64 ((p19 : Nat) : Int)), .v (.slice ad19 n19 cap19)]⟩ :: [⟨b3, 32, 12, [_, _, _, _, _, _, _, _, _, _, _, _]⟩, ⟨b2, 32, 12, [_, _, _, _, _, _, _, _, _, _, _, _]⟩]) (List.Perm.refl _) ?_
  have hR19 : R = (whereP l p19 o19).bind (fun w p ops => .ok { st0 with kind := 5, table := t, set := c, to := e, wher := w } p ops) := hR18.trans (by rw [hr19]; rfl)
  refine os_ (fa_ 11) ?_
  refine ot_ 1 [_, _, _, _, _, _, _, _, _, _, _, _] Tryd.sizeOf30 ?_
  refine on_ [(0, _), (2, _), (3, _)] [⟨br, 70, 3, [_, _, _]⟩, ⟨b3, 32, 12, [_, _, _, _, _, _, _, _, _, _, _, _]⟩, ⟨b2, 32, 12, [_, _, _, _, _, _, _, _, _, _, _, _]⟩] ?_
  refine CD.region ?_
  refine om_ ?_
  have hs20 := (ns_where : whereP l p19 o19 ≠ .stuck)
  refine OD.callX wp_ rfl rfl rfl Tryd.call51 (where_vx hl hm hw hk ht p19 hp19 o19 _ rfl hs20 ad19 n19 cap19) ⟨ot, trivial⟩ (List.Perm.refl _) (fun ch hch => (Or.inr ⟨ch, rfl, by obtain ⟨q, e, h1, h2⟩ := hch; exact ⟨q, e, hR19.trans (by rw [h1]; rfl), h2⟩⟩ : BodyX _ _ _ _ _ _)) ?_
  rintro _ _ ⟨w, p20, o20, ad20, n20, cap20, hr20, ⟨rfl, hv20⟩, hp20, rfl⟩
  refine OD.perm (S' := ⟨br, 70, 3, [.list 3 (l.flatMap cT) l.length, .v (.int .i64 ((p20 : Nat) : Int)), .v (.slice ad20 n20 cap20)]⟩ :: [⟨b3, 32, 12, [_, _, _, _, _, _, _, _, _, _, _, _]⟩, ⟨b2, 32, 12, [_, _, _, _, _, _, _, _, _, _, _, _]⟩]) (List.Perm.refl _) ?_
  have hR20 : R = .ok { st0 with kind := 5, table := t, set := c, to := e, wher := w } p20 o20 := hR19.trans (by rw [hr20]; rfl)
  refine os_ (fa_ 6) ?_
  refine ot_ 1 [_, _, _, _, _, _, _, _, _, _, _, _] Tryd.sizeOf30 ?_
  refine on_ [(2, _), (3, _)] [⟨br, 70, 3, [_, _, _]⟩, ⟨b3, 32, 12, [_, _, _, _, _, _, _, _, _, _, _, _]⟩, ⟨b2, 32, 12, [_, _, _, _, _, _, _, _, _, _, _, _]⟩] ?_
  refine CD.seq ?_
  refine CD.cells (k := 1) (cs' := [_, _, _, _, .list 1 [] 0, _, _, _, _, _, _, _]) (S' := [⟨br, 70, 3, [.list 3 (l.flatMap cT) l.length, .v (.int .i64 ((p20 : Nat) : Int)), .v (.slice ad20 n20 cap20)]⟩, _, _]) rfl (by repeat (first | exact trivial | exact ⟨gv_rfl, trivial⟩ | exact ⟨gv_nil, trivial⟩ | refine ⟨gv_rfl, ?_⟩ | refine ⟨gv_nil, ?_⟩)) rfl ?_
  refine CD.region ?_
  refine os_ (lab_ 1 [_, _, _, _, _, _, _, _, _, _, _, _]) ?_
  refine ot_ 2 [_, _, _, _, _, _, _, _, _, _, _, _] Tryd.sizeOf32 ?_
  refine on_ [(2, _)] [⟨br, 70, 3, [_, _, _]⟩, ⟨b3, 32, 12, [_, _, _, _, _, _, _, _, _, _, _, _]⟩, ⟨b2, 32, 12, [_, _, _, _, _, _, _, _, _, _, _, _]⟩] ?_
  refine CD.ret ?_
  refine Or.inl ?_
  refine ⟨.inr rfl, _, [⟨br, 70, 3, [.list 3 (l.flatMap cT) l.length, .v (.int .i64 ((p20 : Nat) : Int)), .v (.slice ad20 n20 cap20)]⟩], sw_, ret_one Tryd.results25 (res_cells (k := 2) (ds := [_, _, _, _, _, _, _, _, _, _, _, _]) le_ lk rfl rfl Tryd.isAgg32 Tryd.sizeOf32 rfl rfl), ?_⟩
  exact ⟨{ st0 with kind := 5, table := t, set := c, to := e, wher := w }, p20, o20, _, _, _, hR20, ⟨rfl, ⟨Nat.zero_le _, Nat.zero_le _, Nat.zero_le _, hv20, hv19⟩⟩, hp20, rfl⟩
 have hc4' := hc4
 (try simp only [V.cnd, ne_eq] at hc4')
 have e4f : isQ l p 1 ⟨#[85, 80, 68, 65, 84, 69]⟩ = false := hc4
 rw [e4f]
 simp only [Bool.false_eq_true, if_false]
 refine sr_ ?_
 refine om_ ?_
 refine OD.call wp_ rfl rfl rfl Tryd.call43 (eat_vc l hl p 1 ⟨#[68, 69, 76, 69, 84, 69]⟩ ad n cap br) ⟨ot, opd_const, opd_const, trivial⟩ (List.Perm.refl _) ?_
 rintro _ _ ⟨rfl, rfl⟩
 refine OD.perm (S' := ⟨br, 70, 3, [.list 3 (l.flatMap cT) l.length, .v (.int .i64 (((if isQ l p 1 ⟨#[68, 69, 76, 69, 84, 69]⟩ = true then p + 1 else p) : Nat) : Int)), .v (.slice ad n cap)]⟩ :: [⟨b3, 32, 12, [_, _, _, _, _, _, _, _, _, _, _, _]⟩, ⟨b2, 32, 12, [_, _, _, _, _, _, _, _, _, _, _, _]⟩]) (List.Perm.refl _) ?_
 refine om_ ?_
 refine on_ [(0, _), (2, _), (3, _), (73, _)] [⟨br, 70, 3, [_, _, _]⟩, ⟨b3, 32, 12, [_, _, _, _, _, _, _, _, _, _, _, _]⟩, ⟨b2, 32, 12, [_, _, _, _, _, _, _, _, _, _, _, _]⟩] ?_
 refine CD.cond ot (fun hc5 => ?_) (fun hc5 => ?_)
 ·have hc5' := hc5
  (try simp only [V.cnd, ne_eq] at hc5')
  have e5t : isQ l p 1 ⟨#[68, 69, 76, 69, 84, 69]⟩ = true := hc5
  rw [e5t]
  simp only [if_true]
  have hR21 : R = (mustP l [⟨#[70, 82, 79, 77]⟩] (p + 1) os).bind (fun _ p ops => (nameP l p ops).bind (fun t p ops => (whereP l p ops).bind (fun w p ops => .ok { st0 with kind := 6, table := t, wher := w } p ops))) := hR.trans (by unfold stP; rw [if_neg (F_ e0f), if_neg (F_ e1f), if_neg (F_ e2f), if_neg (F_ e3f), if_neg (F_ e4f), if_pos e5t])
  refine sr_ ?_
  refine om_ ?_
  refine ob_ (numD 0 [_]) [.string ⟨#[]⟩] [_] Tryd.zeroValue9 Tryd.runUnderlying29 Tryd.sizeOf9 (fun b77 => ?_)
  refine og_ 0 77 1 1 ?_
  refine OD.callX wp_ rfl rfl rfl Tryd.call44 (must_vx l hl [⟨#[70, 82, 79, 77]⟩] (by decide) (p + 1) ad n cap br) ⟨ot, by exact rfl, trivial⟩ (List.Perm.refl _) (fun ch hch => (Or.inr ⟨ch, rfl, by obtain ⟨q, e, h1, h2⟩ := hch; exact ⟨q, e, hR21.trans (by rw [h1]; rfl), h2⟩⟩ : BodyX _ _ _ _ _ _)) ?_
  rintro _ _ ⟨p22, hr22, rfl⟩
  refine OD.perm (S' := ⟨br, 70, 3, [.list 3 (l.flatMap cT) l.length, .v (.int .i64 ((p22 : Nat) : Int)), .v (.slice ad n cap)]⟩ :: [⟨b3, 32, 12, [_, _, _, _, _, _, _, _, _, _, _, _]⟩, ⟨b2, 32, 12, [_, _, _, _, _, _, _, _, _, _, _, _]⟩]) (List.Perm.refl _) ?_
  have hp22 := (must_le (hr22 []) (isQ_lt e5t)).2.1
  have hR22 : R = (nameP l p22 os).bind (fun t p ops => (whereP l p ops).bind (fun w p ops => .ok { st0 with kind := 6, table := t, wher := w } p ops)) := hR21.trans (by rw [hr22]; rfl)
  refine on_ [(0, _), (2, _), (3, _)] [⟨br, 70, 3, [_, _, _]⟩, ⟨b3, 32, 12, [_, _, _, _, _, _, _, _, _, _, _, _]⟩, ⟨b2, 32, 12, [_, _, _, _, _, _, _, _, _, _, _, _]⟩] ?_
  refine sr_ ?_
  refine om_ ?_
  refine OD.callX wp_ rfl rfl rfl Tryd.call45 (name_vx hm hw l hl ht p22 ad n cap br) ⟨ot, trivial⟩ (List.Perm.refl _) (fun ch hch => (Or.inr ⟨ch, rfl, by obtain ⟨q, e, h1, h2⟩ := hch; exact ⟨q, e, hR22.trans (by rw [h1]; rfl), h2⟩⟩ : BodyX _ _ _ _ _ _)) ?_
  rintro _ _ ⟨t, hr23, rfl, rfl⟩
  refine OD.perm (S' := ⟨br, 70, 3, [.list 3 (l.flatMap cT) l.length, .v (.int .i64 (((p22 + 1) : Nat) : Int)), .v (.slice ad n cap)]⟩ :: [⟨b3, 32, 12, [_, _, _, _, _, _, _, _, _, _, _, _]⟩, ⟨b2, 32, 12, [_, _, _, _, _, _, _, _, _, _, _, _]⟩]) (List.Perm.refl _) ?_
  have hlt23 := (name_le (hr23 [])).2.2
  have hR23 : R = (whereP l (p22 + 1) os).bind (fun w p ops => .ok { st0 with kind := 6, table := t, wher := w } p ops) := hR22.trans (by rw [hr23]; rfl)
  refine os_ (fa_ 0) ?_
  refine ot_ 1 [_, _, _, _, _, _, _, _, _, _, _, _] Tryd.sizeOf3 ?_
  refine os_ (fa_ 1) ?_
  refine ot_ 1 [_, _, _, _, _, _, _, _, _, _, _, _] Tryd.sizeOf9 ?_
  refine on_ [(0, _), (2, _), (3, _)] [⟨br, 70, 3, [_, _, _]⟩, ⟨b3, 32, 12, [_, _, _, _, _, _, _, _, _, _, _, _]⟩, ⟨b2, 32, 12, [_, _, _, _, _, _, _, _, _, _, _, _]⟩] ?_
  refine CD.region ?_
  refine om_ ?_
  have hs24 := (ns_where : whereP l (p22 + 1) os ≠ .stuck)
  refine OD.callX wp_ rfl rfl rfl Tryd.call51 (where_vx hl hm hw hk ht (p22 + 1) hlt23 os _ rfl hs24 ad n cap) ⟨ot, trivial⟩ (List.Perm.refl _) (fun ch hch => (Or.inr ⟨ch, rfl, by obtain ⟨q, e, h1, h2⟩ := hch; exact ⟨q, e, hR23.trans (by rw [h1]; rfl), h2⟩⟩ : BodyX _ _ _ _ _ _)) ?_
  rintro _ _ ⟨w, p24, o24, ad24, n24, cap24, hr24, ⟨rfl, hv24⟩, hp24, rfl⟩
  refine OD.perm (S' := ⟨br, 70, 3, [.list 3 (l.flatMap cT) l.length, .v (.int .i64 ((p24 : Nat) : Int)), .v (.slice ad24 n24 cap24)]⟩ :: [⟨b3, 32, 12, [_, _, _, _, _, _, _, _, _, _, _, _]⟩, ⟨b2, 32, 12, [_, _, _, _, _, _, _, _, _, _, _, _]⟩]) (List.Perm.refl _) ?_
  have hR24 : R = .ok { st0 with kind := 6, table := t, wher := w } p24 o24 := hR23.trans (by rw [hr24]; rfl)
  refine os_ (fa_ 6) ?_
  refine ot_ 1 [_, _, _, _, _, _, _, _, _, _, _, _] Tryd.sizeOf30 ?_
  refine on_ [(2, _), (3, _)] [⟨br, 70, 3, [_, _, _]⟩, ⟨b3, 32, 12, [_, _, _, _, _, _, _, _, _, _, _, _]⟩, ⟨b2, 32, 12, [_, _, _, _, _, _, _, _, _, _, _, _]⟩] ?_
  refine CD.seq ?_
  refine CD.cells (k := 1) (cs' := [_, _, _, _, .list 1 [] 0, _, _, _, _, _, _, _]) (S' := [⟨br, 70, 3, [.list 3 (l.flatMap cT) l.length, .v (.int .i64 ((p24 : Nat) : Int)), .v (.slice ad24 n24 cap24)]⟩, _, _]) rfl (by repeat (first | exact trivial | exact ⟨gv_rfl, trivial⟩ | exact ⟨gv_nil, trivial⟩ | refine ⟨gv_rfl, ?_⟩ | refine ⟨gv_nil, ?_⟩)) rfl ?_
  refine CD.region ?_
  refine os_ (lab_ 1 [_, _, _, _, _, _, _, _, _, _, _, _]) ?_
  refine ot_ 2 [_, _, _, _, _, _, _, _, _, _, _, _] Tryd.sizeOf32 ?_
  refine on_ [(2, _)] [⟨br, 70, 3, [_, _, _]⟩, ⟨b3, 32, 12, [_, _, _, _, _, _, _, _, _, _, _, _]⟩, ⟨b2, 32, 12, [_, _, _, _, _, _, _, _, _, _, _, _]⟩] ?_
  refine CD.ret ?_
  refine Or.inl ?_
  refine ⟨.inr rfl, _, [⟨br, 70, 3, [.list 3 (l.flatMap cT) l.length, .v (.int .i64 ((p24 : Nat) : Int)), .v (.slice ad24 n24 cap24)]⟩], sw_, ret_one Tryd.results25 (res_cells (k := 2) (ds := [_, _, _, _, _, _, _, _, _, _, _, _]) le_ lk rfl rfl Tryd.isAgg32 Tryd.sizeOf32 rfl rfl), ?_⟩
  exact ⟨{ st0 with kind := 6, table := t, wher := w }, p24, o24, _, _, _, hR24, ⟨rfl, ⟨Nat.zero_le _, Nat.zero_le _, Nat.zero_le _, hv24, Nat.zero_le _⟩⟩, hp24, rfl⟩
 have hc5' := hc5
 (try simp only [V.cnd, ne_eq] at hc5')
 have e5f : isQ l p 1 ⟨#[68, 69, 76, 69, 84, 69]⟩ = false := hc5
 rw [e5f]
 simp only [Bool.false_eq_true, if_false]
 refine sr_ ?_
 refine om_ ?_
 refine OD.call wp_ rfl rfl rfl Tryd.call43 (eat_vc l hl p 1 ⟨#[66, 69, 71, 73, 78]⟩ ad n cap br) ⟨ot, opd_const, opd_const, trivial⟩ (List.Perm.refl _) ?_
 rintro _ _ ⟨rfl, rfl⟩
 refine OD.perm (S' := ⟨br, 70, 3, [.list 3 (l.flatMap cT) l.length, .v (.int .i64 (((if isQ l p 1 ⟨#[66, 69, 71, 73, 78]⟩ = true then p + 1 else p) : Nat) : Int)), .v (.slice ad n cap)]⟩ :: [⟨b3, 32, 12, [_, _, _, _, _, _, _, _, _, _, _, _]⟩, ⟨b2, 32, 12, [_, _, _, _, _, _, _, _, _, _, _, _]⟩]) (List.Perm.refl _) ?_
 refine om_ ?_
 refine on_ [(0, _), (2, _), (3, _), (86, _)] [⟨br, 70, 3, [_, _, _]⟩, ⟨b3, 32, 12, [_, _, _, _, _, _, _, _, _, _, _, _]⟩, ⟨b2, 32, 12, [_, _, _, _, _, _, _, _, _, _, _, _]⟩] ?_
 refine CD.cond ot (fun hc6 => ?_) (fun hc6 => ?_)
 ·have hc6' := hc6
  (try simp only [V.cnd, ne_eq] at hc6')
  have e6t : isQ l p 1 ⟨#[66, 69, 71, 73, 78]⟩ = true := hc6
  rw [e6t]
  simp only [if_true]
  have hR25 : R = .ok { st0 with kind := 7 } (p + 1) os := hR.trans (by unfold stP; rw [if_neg (F_ e0f), if_neg (F_ e1f), if_neg (F_ e2f), if_neg (F_ e3f), if_neg (F_ e4f), if_neg (F_ e5f), if_pos e6t])
  refine CD.region ?_
  refine os_ (fa_ 0) ?_
  refine ot_ 1 [_, _, _, _, _, _, _, _, _, _, _, _] Tryd.sizeOf3 ?_
  refine on_ [(2, _), (3, _)] [⟨br, 70, 3, [_, _, _]⟩, ⟨b3, 32, 12, [_, _, _, _, _, _, _, _, _, _, _, _]⟩, ⟨b2, 32, 12, [_, _, _, _, _, _, _, _, _, _, _, _]⟩] ?_
  refine CD.seq ?_
  refine CD.cells (k := 1) (cs' := [_, _, _, _, .list 1 [] 0, _, _, _, _, _, _, _]) (S' := [⟨br, 70, 3, [.list 3 (l.flatMap cT) l.length, .v (.int .i64 (((p + 1) : Nat) : Int)), .v (.slice ad n cap)]⟩, _, _]) rfl (by repeat (first | exact trivial | exact ⟨gv_rfl, trivial⟩ | exact ⟨gv_nil, trivial⟩ | refine ⟨gv_rfl, ?_⟩ | refine ⟨gv_nil, ?_⟩)) rfl ?_
  refine CD.region ?_
  refine os_ (lab_ 1 [_, _, _, _, _, _, _, _, _, _, _, _]) ?_
  refine ot_ 2 [_, _, _, _, _, _, _, _, _, _, _, _] Tryd.sizeOf32 ?_
  refine on_ [(2, _)] [⟨br, 70, 3, [_, _, _]⟩, ⟨b3, 32, 12, [_, _, _, _, _, _, _, _, _, _, _, _]⟩, ⟨b2, 32, 12, [_, _, _, _, _, _, _, _, _, _, _, _]⟩] ?_
  refine CD.ret ?_
  refine Or.inl ?_
  refine ⟨.inr rfl, _, [⟨br, 70, 3, [.list 3 (l.flatMap cT) l.length, .v (.int .i64 (((p + 1) : Nat) : Int)), .v (.slice ad n cap)]⟩], sw_, ret_one Tryd.results25 (res_cells (k := 2) (ds := [_, _, _, _, _, _, _, _, _, _, _, _]) le_ lk rfl rfl Tryd.isAgg32 Tryd.sizeOf32 rfl rfl), ?_⟩
  exact ⟨{ st0 with kind := 7 }, (p + 1), os, _, _, _, hR25, ⟨rfl, ⟨Nat.zero_le _, Nat.zero_le _, Nat.zero_le _, Nat.zero_le _, Nat.zero_le _⟩⟩, (isQ_lt e6t), rfl⟩
 have hc6' := hc6
 (try simp only [V.cnd, ne_eq] at hc6')
 have e6f : isQ l p 1 ⟨#[66, 69, 71, 73, 78]⟩ = false := hc6
 rw [e6f]
 simp only [Bool.false_eq_true, if_false]
 refine sr_ ?_
 refine om_ ?_
 refine OD.call wp_ rfl rfl rfl Tryd.call43 (eat_vc l hl p 1 ⟨#[67, 79, 77, 77, 73, 84]⟩ ad n cap br) ⟨ot, opd_const, opd_const, trivial⟩ (List.Perm.refl _) ?_
 rintro _ _ ⟨rfl, rfl⟩
 refine OD.perm (S' := ⟨br, 70, 3, [.list 3 (l.flatMap cT) l.length, .v (.int .i64 (((if isQ l p 1 ⟨#[67, 79, 77, 77, 73, 84]⟩ = true then p + 1 else p) : Nat) : Int)), .v (.slice ad n cap)]⟩ :: [⟨b3, 32, 12, [_, _, _, _, _, _, _, _, _, _, _, _]⟩, ⟨b2, 32, 12, [_, _, _, _, _, _, _, _, _, _, _, _]⟩]) (List.Perm.refl _) ?_
 refine om_ ?_
 refine on_ [(0, _), (2, _), (3, _), (90, _)] [⟨br, 70, 3, [_, _, _]⟩, ⟨b3, 32, 12, [_, _, _, _, _, _, _, _, _, _, _, _]⟩, ⟨b2, 32, 12, [_, _, _, _, _, _, _, _, _, _, _, _]⟩] ?_
 refine CD.cond ot (fun hc7 => ?_) (fun hc7 => ?_)
 ·have hc7' := hc7
  (try simp only [V.cnd, ne_eq] at hc7')
  have e7t : isQ l p 1 ⟨#[67, 79, 77, 77, 73, 84]⟩ = true := hc7
  rw [e7t]
  simp only [if_true]
  have hR26 : R = .ok { st0 with kind := 8 } (p + 1) os := hR.trans (by unfold stP; rw [if_neg (F_ e0f), if_neg (F_ e1f), if_neg (F_ e2f), if_neg (F_ e3f), if_neg (F_ e4f), if_neg (F_ e5f), if_neg (F_ e6f), if_pos e7t])
  refine CD.region ?_
  refine os_ (fa_ 0) ?_
  refine ot_ 1 [_, _, _, _, _, _, _, _, _, _, _, _] Tryd.sizeOf3 ?_
  refine on_ [(2, _), (3, _)] [⟨br, 70, 3, [_, _, _]⟩, ⟨b3, 32, 12, [_, _, _, _, _, _, _, _, _, _, _, _]⟩, ⟨b2, 32, 12, [_, _, _, _, _, _, _, _, _, _, _, _]⟩] ?_
  refine CD.seq ?_
  refine CD.cells (k := 1) (cs' := [_, _, _, _, .list 1 [] 0, _, _, _, _, _, _, _]) (S' := [⟨br, 70, 3, [.list 3 (l.flatMap cT) l.length, .v (.int .i64 (((p + 1) : Nat) : Int)), .v (.slice ad n cap)]⟩, _, _]) rfl (by repeat (first | exact trivial | exact ⟨gv_rfl, trivial⟩ | exact ⟨gv_nil, trivial⟩ | refine ⟨gv_rfl, ?_⟩ | refine ⟨gv_nil, ?_⟩)) rfl ?_
  refine CD.region ?_
  refine os_ (lab_ 1 [_, _, _, _, _, _, _, _, _, _, _, _]) ?_
  refine ot_ 2 [_, _, _, _, _, _, _, _, _, _, _, _] Tryd.sizeOf32 ?_
  refine on_ [(2, _)] [⟨br, 70, 3, [_, _, _]⟩, ⟨b3, 32, 12, [_, _, _, _, _, _, _, _, _, _, _, _]⟩, ⟨b2, 32, 12, [_, _, _, _, _, _, _, _, _, _, _, _]⟩] ?_
  refine CD.ret ?_
  refine Or.inl ?_
  refine ⟨.inr rfl, _, [⟨br, 70, 3, [.list 3 (l.flatMap cT) l.length, .v (.int .i64 (((p + 1) : Nat) : Int)), .v (.slice ad n cap)]⟩], sw_, ret_one Tryd.results25 (res_cells (k := 2) (ds := [_, _, _, _, _, _, _, _, _, _, _, _]) le_ lk rfl rfl Tryd.isAgg32 Tryd.sizeOf32 rfl rfl), ?_⟩
  exact ⟨{ st0 with kind := 8 }, (p + 1), os, _, _, _, hR26, ⟨rfl, ⟨Nat.zero_le _, Nat.zero_le _, Nat.zero_le _, Nat.zero_le _, Nat.zero_le _⟩⟩, (isQ_lt e7t), rfl⟩
 have hc7' := hc7
 (try simp only [V.cnd, ne_eq] at hc7')
 have e7f : isQ l p 1 ⟨#[67, 79, 77, 77, 73, 84]⟩ = false := hc7
 rw [e7f]
 simp only [Bool.false_eq_true, if_false]
 refine sr_ ?_
 refine om_ ?_
 refine OD.call wp_ rfl rfl rfl Tryd.call43 (eat_vc l hl p 1 ⟨#[82, 79, 76, 76, 66, 65, 67, 75]⟩ ad n cap br) ⟨ot, opd_const, opd_const, trivial⟩ (List.Perm.refl _) ?_
 rintro _ _ ⟨rfl, rfl⟩
 refine OD.perm (S' := ⟨br, 70, 3, [.list 3 (l.flatMap cT) l.length, .v (.int .i64 (((if isQ l p 1 ⟨#[82, 79, 76, 76, 66, 65, 67, 75]⟩ = true then p + 1 else p) : Nat) : Int)), .v (.slice ad n cap)]⟩ :: [⟨b3, 32, 12, [_, _, _, _, _, _, _, _, _, _, _, _]⟩, ⟨b2, 32, 12, [_, _, _, _, _, _, _, _, _, _, _, _]⟩]) (List.Perm.refl _) ?_
 refine om_ ?_
 refine on_ [(0, _), (2, _), (3, _), (94, _)] [⟨br, 70, 3, [_, _, _]⟩, ⟨b3, 32, 12, [_, _, _, _, _, _, _, _, _, _, _, _]⟩, ⟨b2, 32, 12, [_, _, _, _, _, _, _, _, _, _, _, _]⟩] ?_
 refine CD.cond ot (fun hc8 => ?_) (fun hc8 => ?_)
 ·have hc8' := hc8
  (try simp only [V.cnd, ne_eq] at hc8')
  have e8t : isQ l p 1 ⟨#[82, 79, 76, 76, 66, 65, 67, 75]⟩ = true := hc8
  rw [e8t]
  simp only [if_true]
  have hR27 : R = .ok { st0 with kind := 9 } (p + 1) os := hR.trans (by unfold stP; rw [if_neg (F_ e0f), if_neg (F_ e1f), if_neg (F_ e2f), if_neg (F_ e3f), if_neg (F_ e4f), if_neg (F_ e5f), if_neg (F_ e6f), if_neg (F_ e7f), if_pos e8t])
  refine CD.region ?_
  refine os_ (fa_ 0) ?_
  refine ot_ 1 [_, _, _, _, _, _, _, _, _, _, _, _] Tryd.sizeOf3 ?_
  refine on_ [(2, _), (3, _)] [⟨br, 70, 3, [_, _, _]⟩, ⟨b3, 32, 12, [_, _, _, _, _, _, _, _, _, _, _, _]⟩, ⟨b2, 32, 12, [_, _, _, _, _, _, _, _, _, _, _, _]⟩] ?_
  refine CD.seq ?_
  refine CD.cells (k := 1) (cs' := [_, _, _, _, .list 1 [] 0, _, _, _, _, _, _, _]) (S' := [⟨br, 70, 3, [.list 3 (l.flatMap cT) l.length, .v (.int .i64 (((p + 1) : Nat) : Int)), .v (.slice ad n cap)]⟩, _, _]) rfl (by repeat (first | exact trivial | exact ⟨gv_rfl, trivial⟩ | exact ⟨gv_nil, trivial⟩ | refine ⟨gv_rfl, ?_⟩ | refine ⟨gv_nil, ?_⟩)) rfl ?_
  refine CD.region ?_
  refine os_ (lab_ 1 [_, _, _, _, _, _, _, _, _, _, _, _]) ?_
  refine ot_ 2 [_, _, _, _, _, _, _, _, _, _, _, _] Tryd.sizeOf32 ?_
  refine on_ [(2, _)] [⟨br, 70, 3, [_, _, _]⟩, ⟨b3, 32, 12, [_, _, _, _, _, _, _, _, _, _, _, _]⟩, ⟨b2, 32, 12, [_, _, _, _, _, _, _, _, _, _, _, _]⟩] ?_
  refine CD.ret ?_
  refine Or.inl ?_
  refine ⟨.inr rfl, _, [⟨br, 70, 3, [.list 3 (l.flatMap cT) l.length, .v (.int .i64 (((p + 1) : Nat) : Int)), .v (.slice ad n cap)]⟩], sw_, ret_one Tryd.results25 (res_cells (k := 2) (ds := [_, _, _, _, _, _, _, _, _, _, _, _]) le_ lk rfl rfl Tryd.isAgg32 Tryd.sizeOf32 rfl rfl), ?_⟩
  exact ⟨{ st0 with kind := 9 }, (p + 1), os, _, _, _, hR27, ⟨rfl, ⟨Nat.zero_le _, Nat.zero_le _, Nat.zero_le _, Nat.zero_le _, Nat.zero_le _⟩⟩, (isQ_lt e8t), rfl⟩
 have hc8' := hc8
 (try simp only [V.cnd, ne_eq] at hc8')
 have e8f : isQ l p 1 ⟨#[82, 79, 76, 76, 66, 65, 67, 75]⟩ = false := hc8
 rw [e8f]
 simp only [Bool.false_eq_true, if_false]
 have hR28 : R = gv l p 6 := hR.trans (by unfold stP; rw [if_neg (F_ e0f), if_neg (F_ e1f), if_neg (F_ e2f), if_neg (F_ e3f), if_neg (F_ e4f), if_neg (F_ e5f), if_neg (F_ e6f), if_neg (F_ e7f), if_neg (F_ e8f)])
 refine CD.region ?_
 refine om_ ?_
 exact OD.callX wp_ rfl rfl rfl Tryd.call26 (give_vx l hl p 6 ad n cap br) ⟨ot, opd_const, trivial⟩ (List.Perm.refl _) (fun ch hch => (Or.inr ⟨ch, rfl, ⟨_, _, hR28, hch⟩⟩ : BodyX _ _ _ _ _ _)) (fun r S' h => h.elim)

end Go.Proofs.YtjgekbmahhhokaaDoor.Pa
