/-
  What the proof of ParseMinus leans on, part 4 of 4: walks of the program's functions at the level of values, and plain facts of what they compute.
-/
import Derived.Test.YtjgekbmahhhokaaDoorPParseMinus3
namespace Go.Proofs.YtjgekbmahhhokaaDoor.Pa
open Go.RowKit V Pk Go.Proofs.YtjgekbmahhhokaaDoor.Vl Go.Proofs.YtjgekbmahhhokaaDoor.Nm
set_option linter.unusedVariables false
set_option linter.unusedSimpArgs false

variable {G : List (Nat × List Value)}
def dvS (s : StL) (r : D) : Prop := r = .agg (cSt s) ∧ okS s

theorem places32_Pbb : ∀ w, ((#[{ name := "Kind", type := 3, offset := 0, embedded := false, tag := "", pkgPath := "", byteOffset := 0 }, { name := "Table", type := 9, offset := 1, embedded := false, tag := "", pkgPath := "", byteOffset := 8 }, { name := "Cols", type := 27, offset := 2, embedded := false, tag := "", pkgPath := "", byteOffset := 24 }, { name := "Row", type := 28, offset := 3, embedded := false, tag := "", pkgPath := "", byteOffset := 48 }, { name := "Names", type := 29, offset := 4, embedded := false, tag := "", pkgPath := "", byteOffset := 72 }, { name := "Count", type := 4, offset := 5, embedded := false, tag := "", pkgPath := "", byteOffset := 96 }, { name := "Where", type := 30, offset := 6, embedded := false, tag := "", pkgPath := "", byteOffset := 104 }, { name := "Order", type := 9, offset := 7, embedded := false, tag := "", pkgPath := "", byteOffset := 128 }, { name := "Down", type := 4, offset := 8, embedded := false, tag := "", pkgPath := "", byteOffset := 144 }, { name := "Limit", type := 3, offset := 9, embedded := false, tag := "", pkgPath := "", byteOffset := 152 }, { name := "Set", type := 9, offset := 10, embedded := false, tag := "", pkgPath := "", byteOffset := 160 }, { name := "To", type := 30, offset := 11, embedded := false, tag := "", pkgPath := "", byteOffset := 176 }] : Array Field).mapM fun f => do pure (f.offset, ← sizeOf f.type) : Sem (Array (Nat × Nat))).run Tryd.prog w = .ok #[(0, 1), (1, 1), (2, 1), (3, 1), (4, 1), (5, 1), (6, 1), (7, 1), (8, 1), (9, 1), (10, 1), (11, 1)] w := fun w => by simp [Tryd.sizeOf27, Tryd.sizeOf28, Tryd.sizeOf29, Tryd.sizeOf3, Tryd.sizeOf30, Tryd.sizeOf4, Tryd.sizeOf9]

set_option maxHeartbeats 4000000 in
set_option maxRecDepth 100000 in
theorem statement_vx {br : Nat} {l : List Tk} (hl : l.length ≤ 100) (hm : (0, marksC) ∈ G) (hw : (2, wordsC) ∈ G) (hk : (5, cmpC) ∈ G) (hty : (1, typesC) ∈ G) (ht : ∀ t ∈ l, t.s.size ≤ maxLen ∧ (t.k = 2 → 0 ≤ t.n ∧ t.n ≤ 9223372036854775807)) (p : Nat) (hp : p ≤ l.length) (os : List OpL) (R : Rs StL) (hR : R = stP l p os) (ad : Option Addr) (n cap : Nat) : VX Tryd.prog G 25 [.v (.pointer (some ⟨br, 0, none⟩))] [⟨br, 70, 3, [.list 3 (l.flatMap cT) l.length, .v (.int .i64 ((p : Nat) : Int)), .v (.slice ad n cap)]⟩] (fun r S' => EndR br l R dvS r S') (PanX R) := by
 refine VX.body Tryd.func25 rfl Tryd.ntmps25 (Nat.le_of_ble_eq_true rfl) fun X0 w0 S00 => ?_
 refine sr_ ?_
 refine OD.alloc (ds := [_, _, _, _, _, _, _, _, _, _, _, _]) (wants_plain rfl) rfl rfl Tryd.zeroValue32 rfl (fun b2 => ?_)
 refine OD.wk (Wk.as_ (n := 99) (l' := [(0, _), (2, _)]) (S' := [⟨b2, 32, 12, [_, _, _, _, _, _, _, _, _, _, _, _]⟩, ⟨br, 70, 3, [_, _, _]⟩]) rfl rfl ⟨lk, lk, trivial⟩) ?_
 refine OD.nil ?_
 refine sr_ ?_
 refine OD.still (wants_plain rfl) rfl (still_bld (pl := [(9, _)]) (ds := [_, _, _, _, _, _, _, _, _, _, _, _]) rfl Tryd.zeroValue32 Tryd.runUnderlying32 places32_Pbb ⟨rfl, opd_const, trivial⟩ rfl rfl) ?_
 refine OD.alloc (ds := [_, _, _, _, _, _, _, _, _, _, _, _]) (wants_plain rfl) rfl rfl Tryd.zeroValue32 rfl (fun b3 => ?_)
 refine OD.store (k := 0) (cs' := [_, _, _, _, _, _, _, _, _, _, _, _]) (wants_plain rfl) rfl rfl ot rfl rfl ot rfl rfl Tryd.sizeOf32 rfl rfl rfl ?_
 refine OD.wk (Wk.as_ (n := 99) (l' := [(0, _), (2, _), (3, _)]) (S' := [⟨b3, 32, 12, [_, _, _, _, _, _, _, _, _, _, _, _]⟩, ⟨b2, 32, 12, [_, _, _, _, _, _, _, _, _, _, _, _]⟩, ⟨br, 70, 3, [_, _, _]⟩]) rfl rfl ⟨lk, lk, lk, trivial⟩) ?_
 refine OD.nil ?_
 refine CD.seq ?_
 refine CD.block ?_
 refine CD.seq ?_
 refine CD.perm (S' := [_, _, _]) (List.perm_append_comm (l₁ := [_, _]) (l₂ := [_])) ?_
 refine CD.cells (k := 1) (cs' := [_, _, .list 2 [] 0, .list 3 [] 0, _, _, .list 5 [] 0, _, _, _, _, .list 5 [] 0]) (S' := [⟨br, 70, 3, [.list 3 (l.flatMap cT) l.length, .v (.int .i64 ((p : Nat) : Int)), .v (.slice ad n cap)]⟩, _, _]) rfl (by repeat (first | exact trivial | exact ⟨gv_rfl, trivial⟩ | exact ⟨gv_nil, trivial⟩ | refine ⟨gv_rfl, ?_⟩ | refine ⟨gv_nil, ?_⟩)) rfl ?_
 refine CD.region ?_
 refine os_ mv_ ?_
 refine OD.call (wants_plain rfl) rfl rfl rfl Tryd.call43 (eat_vc l hl p 1 ⟨#[67, 82, 69, 65, 84, 69]⟩ ad n cap br) ⟨ot, opd_const, opd_const, trivial⟩ (List.Perm.refl _) ?_
 rintro _ _ ⟨rfl, rfl⟩
 refine OD.perm (S' := ⟨br, 70, 3, [.list 3 (l.flatMap cT) l.length, .v (.int .i64 (((if isQ l p 1 ⟨#[67, 82, 69, 65, 84, 69]⟩ = true then p + 1 else p) : Nat) : Int)), .v (.slice ad n cap)]⟩ :: [⟨b3, 32, 12, [_, _, _, _, _, _, _, _, _, _, _, _]⟩, ⟨b2, 32, 12, [_, _, _, _, _, _, _, _, _, _, _, _]⟩]) (List.Perm.refl _) ?_
 refine os_ mv_ ?_
 refine OD.wk (Wk.as_ (n := 99) (l' := [(0, _), (2, _), (3, _), (7, _)]) (S' := [⟨br, 70, 3, [_, _, _]⟩, ⟨b3, 32, 12, [_, _, _, _, _, _, _, _, _, _, _, _]⟩, ⟨b2, 32, 12, [_, _, _, _, _, _, _, _, _, _, _, _]⟩]) rfl rfl ⟨lk, lk, lk, lk, trivial⟩) ?_
 refine OD.nil ?_
 refine CD.cond ot (fun hc0 => ?_) (fun hc0 => ?_)
 ·have hc0' := hc0
  (try simp only [V.cnd, ne_eq] at hc0')
  have e0t : isQ l p 1 ⟨#[67, 82, 69, 65, 84, 69]⟩ = true := hc0
  rw [e0t]
  simp only [if_true]
  have hR1 : R = (mustP l [⟨#[84, 65, 66, 76, 69]⟩] (p + 1) os).bind (fun _ p ops => (nameP l p ops).bind (fun t p ops => (colsB l p ops).bind (fun c p ops => .ok { st0 with kind := 1, table := t, cols := c } p ops))) := hR.trans (by unfold stP; rw [if_pos e0t])
  refine sr_ ?_
  refine os_ mv_ ?_
  refine OD.bldS (pl := numD 0 [_]) (zvs := [.string ⟨#[]⟩]) (ds := [_]) (wants_plain rfl) rfl rfl Tryd.zeroValue9 Tryd.runUnderlying29 Tryd.sizeOf9 rfl rfl (by kernel_rfl) ⟨rfl, opd_const, trivial⟩ (by exact rfl) (fill_full (by exact rfl) (by exact rfl) (by exact rfl)) (fun b11 => ?_)
  refine OD.give (k := 0) (t := 11) (sz := 1) (m := 1) rfl lk rfl rfl rfl (Nat.le_refl _) (by decide) ?_
  refine OD.callX (wants_plain rfl) rfl rfl rfl Tryd.call44 (must_vx l hl [⟨#[84, 65, 66, 76, 69]⟩] (by decide) (p + 1) ad n cap br) ⟨ot, by exact rfl, trivial⟩ (List.Perm.refl _) (fun ch hch => (Or.inr ⟨ch, rfl, by obtain ⟨q, e, h1, h2⟩ := hch; exact ⟨q, e, hR1.trans (by rw [h1]; rfl), h2⟩⟩ : BodyX _ _ _ _ _ _)) ?_
  rintro _ _ ⟨p2, hr2, rfl⟩
  refine OD.perm (S' := ⟨br, 70, 3, [.list 3 (l.flatMap cT) l.length, .v (.int .i64 ((p2 : Nat) : Int)), .v (.slice ad n cap)]⟩ :: [⟨b3, 32, 12, [_, _, _, _, _, _, _, _, _, _, _, _]⟩, ⟨b2, 32, 12, [_, _, _, _, _, _, _, _, _, _, _, _]⟩]) (List.Perm.refl _) ?_
  have hp2 := (must_le (hr2 []) (isQ_lt e0t)).2.1
  have hR2 : R = (nameP l p2 os).bind (fun t p ops => (colsB l p ops).bind (fun c p ops => .ok { st0 with kind := 1, table := t, cols := c } p ops)) := hR1.trans (by rw [hr2]; rfl)
  refine OD.wk (Wk.as_ (n := 99) (l' := [(0, _), (2, _), (3, _)]) (S' := [⟨br, 70, 3, [_, _, _]⟩, ⟨b3, 32, 12, [_, _, _, _, _, _, _, _, _, _, _, _]⟩, ⟨b2, 32, 12, [_, _, _, _, _, _, _, _, _, _, _, _]⟩]) rfl rfl ⟨lk, lk, lk, trivial⟩) ?_
  refine OD.nil ?_
  refine sr_ ?_
  refine os_ mv_ ?_
  refine OD.callX (wants_plain rfl) rfl rfl rfl Tryd.call45 (name_vx hm hw l hl ht p2 ad n cap br) ⟨ot, trivial⟩ (List.Perm.refl _) (fun ch hch => (Or.inr ⟨ch, rfl, by obtain ⟨q, e, h1, h2⟩ := hch; exact ⟨q, e, hR2.trans (by rw [h1]; rfl), h2⟩⟩ : BodyX _ _ _ _ _ _)) ?_
  rintro _ _ ⟨t, hr3, rfl, rfl⟩
  refine OD.perm (S' := ⟨br, 70, 3, [.list 3 (l.flatMap cT) l.length, .v (.int .i64 (((p2 + 1) : Nat) : Int)), .v (.slice ad n cap)]⟩ :: [⟨b3, 32, 12, [_, _, _, _, _, _, _, _, _, _, _, _]⟩, ⟨b2, 32, 12, [_, _, _, _, _, _, _, _, _, _, _, _]⟩]) (List.Perm.refl _) ?_
  have hlt3 := (name_le (hr3 [])).2.2
  have hR3 : R = (colsB l (p2 + 1) os).bind (fun c p ops => .ok { st0 with kind := 1, table := t, cols := c } p ops) := hR2.trans (by rw [hr3]; rfl)
  refine os_ (fa_ 0) ?_
  refine OD.store (k := 1) (cs' := [_, _, _, _, _, _, _, _, _, _, _, _]) (wants_plain rfl) rfl rfl ot rfl rfl opd_const rfl rfl Tryd.sizeOf3 rfl rfl rfl ?_
  refine os_ (fa_ 1) ?_
  refine OD.store (k := 1) (cs' := [_, _, _, _, _, _, _, _, _, _, _, _]) (wants_plain rfl) rfl rfl ot rfl rfl ot rfl rfl Tryd.sizeOf9 rfl rfl rfl ?_
  refine OD.wk (Wk.as_ (n := 99) (l' := [(0, _), (2, _), (3, _)]) (S' := [⟨br, 70, 3, [_, _, _]⟩, ⟨b3, 32, 12, [_, _, _, _, _, _, _, _, _, _, _, _]⟩, ⟨b2, 32, 12, [_, _, _, _, _, _, _, _, _, _, _, _]⟩]) rfl rfl ⟨lk, lk, lk, trivial⟩) ?_
  refine OD.nil ?_
  refine CD.region ?_
  refine os_ mv_ ?_
  refine OD.callX (wants_plain rfl) rfl rfl rfl Tryd.call46 (columns_vx hl hm hw hty ht (p2 + 1) hlt3 os (colsB l (p2 + 1) os) rfl ad n cap) ⟨ot, trivial⟩ (List.Perm.refl _) (fun ch hch => (Or.inr ⟨ch, rfl, by obtain ⟨q, e, h1, h2⟩ := hch; exact ⟨q, e, hR3.trans (by rw [h1]; rfl), h2⟩⟩ : BodyX _ _ _ _ _ _)) ?_
  rintro _ _ ⟨c, p4, o4, ad4, n4, cap4, hr4, ⟨rfl, hv_c⟩, hp4, rfl⟩
  refine OD.perm (S' := ⟨br, 70, 3, [.list 3 (l.flatMap cT) l.length, .v (.int .i64 ((p4 : Nat) : Int)), .v (.slice ad4 n4 cap4)]⟩ :: [⟨b3, 32, 12, [_, _, _, _, _, _, _, _, _, _, _, _]⟩, ⟨b2, 32, 12, [_, _, _, _, _, _, _, _, _, _, _, _]⟩]) (List.Perm.refl _) ?_
  have hR4 : R = .ok { st0 with kind := 1, table := t, cols := c } p4 o4 := hR3.trans (by rw [hr4]; rfl)
  refine os_ (fa_ 2) ?_
  refine OD.store (k := 1) (cs' := [_, _, _, _, _, _, _, _, _, _, _, _]) (wants_plain rfl) rfl rfl ot rfl rfl ot rfl rfl Tryd.sizeOf27 rfl rfl rfl ?_
  refine OD.wk (Wk.as_ (n := 99) (l' := [(2, _), (3, _)]) (S' := [⟨br, 70, 3, [_, _, _]⟩, ⟨b3, 32, 12, [_, _, _, _, _, _, _, _, _, _, _, _]⟩, ⟨b2, 32, 12, [_, _, _, _, _, _, _, _, _, _, _, _]⟩]) rfl rfl ⟨lk, lk, trivial⟩) ?_
  refine OD.nil ?_
  refine CD.seq ?_
  refine CD.cells (k := 1) (cs' := [_, _, _, _, .list 1 [] 0, _, _, _, _, _, _, _]) (S' := [⟨br, 70, 3, [.list 3 (l.flatMap cT) l.length, .v (.int .i64 ((p4 : Nat) : Int)), .v (.slice ad4 n4 cap4)]⟩, _, _]) rfl (by repeat (first | exact trivial | exact ⟨gv_rfl, trivial⟩ | exact ⟨gv_nil, trivial⟩ | refine ⟨gv_rfl, ?_⟩ | refine ⟨gv_nil, ?_⟩)) rfl ?_
  refine CD.region ?_
  refine os_ (lab_ 1 [_, _, _, _, _, _, _, _, _, _, _, _]) ?_
  refine OD.store (k := 2) (cs' := [_, _, _, _, _, _, _, _, _, _, _, _]) (wants_plain rfl) rfl rfl ot rfl rfl ot rfl rfl Tryd.sizeOf32 rfl rfl rfl ?_
  refine OD.wk (Wk.as_ (n := 99) (l' := [(2, _)]) (S' := [⟨br, 70, 3, [_, _, _]⟩, ⟨b3, 32, 12, [_, _, _, _, _, _, _, _, _, _, _, _]⟩, ⟨b2, 32, 12, [_, _, _, _, _, _, _, _, _, _, _, _]⟩]) rfl rfl ⟨lk, trivial⟩) ?_
  refine OD.nil ?_
  refine CD.ret ?_
  refine Or.inl ?_
  refine ⟨.inr rfl, _, [⟨br, 70, 3, [.list 3 (l.flatMap cT) l.length, .v (.int .i64 ((p4 : Nat) : Int)), .v (.slice ad4 n4 cap4)]⟩], (by repeat (first | exact List.Sublist.refl _ | exact List.nil_sublist _ | apply List.Sublist.cons_cons | apply List.Sublist.cons)), ret_one Tryd.results25 (res_cells (k := 2) (ds := [_, _, _, _, _, _, _, _, _, _, _, _]) (Nat.le_of_ble_eq_true rfl) lk rfl rfl Tryd.isAgg32 Tryd.sizeOf32 rfl rfl), ?_⟩
  exact ⟨{ st0 with kind := 1, table := t, cols := c }, p4, o4, _, _, _, hR4, ⟨rfl, ⟨hv_c, Nat.zero_le _, Nat.zero_le _, Nat.zero_le _, Nat.zero_le _⟩⟩, hp4, rfl⟩
 ·have hc0' := hc0
  (try simp only [V.cnd, ne_eq] at hc0')
  have e0f : isQ l p 1 ⟨#[67, 82, 69, 65, 84, 69]⟩ = false := hc0
  rw [e0f]
  simp only [Bool.false_eq_true, if_false]
  refine sr_ ?_
  refine os_ mv_ ?_
  refine OD.call (wants_plain rfl) rfl rfl rfl Tryd.call43 (eat_vc l hl p 1 ⟨#[68, 82, 79, 80]⟩ ad n cap br) ⟨ot, opd_const, opd_const, trivial⟩ (List.Perm.refl _) ?_
  rintro _ _ ⟨rfl, rfl⟩
  refine OD.perm (S' := ⟨br, 70, 3, [.list 3 (l.flatMap cT) l.length, .v (.int .i64 (((if isQ l p 1 ⟨#[68, 82, 79, 80]⟩ = true then p + 1 else p) : Nat) : Int)), .v (.slice ad n cap)]⟩ :: [⟨b3, 32, 12, [_, _, _, _, _, _, _, _, _, _, _, _]⟩, ⟨b2, 32, 12, [_, _, _, _, _, _, _, _, _, _, _, _]⟩]) (List.Perm.refl _) ?_
  refine os_ mv_ ?_
  refine OD.wk (Wk.as_ (n := 99) (l' := [(0, _), (2, _), (3, _), (20, _)]) (S' := [⟨br, 70, 3, [_, _, _]⟩, ⟨b3, 32, 12, [_, _, _, _, _, _, _, _, _, _, _, _]⟩, ⟨b2, 32, 12, [_, _, _, _, _, _, _, _, _, _, _, _]⟩]) rfl rfl ⟨lk, lk, lk, lk, trivial⟩) ?_
  refine OD.nil ?_
  refine CD.cond ot (fun hc1 => ?_) (fun hc1 => ?_)
  ·have hc1' := hc1
   (try simp only [V.cnd, ne_eq] at hc1')
   have e1t : isQ l p 1 ⟨#[68, 82, 79, 80]⟩ = true := hc1
   rw [e1t]
   simp only [if_true]
   have hR5 : R = (mustP l [⟨#[84, 65, 66, 76, 69]⟩] (p + 1) os).bind (fun _ p ops => (nameP l p ops).bind (fun t p ops => .ok { st0 with kind := 2, table := t } p ops)) := hR.trans (by unfold stP; rw [if_neg (F_ e0f), if_pos e1t])
   refine sr_ ?_
   refine os_ mv_ ?_
   refine OD.bldS (pl := numD 0 [_]) (zvs := [.string ⟨#[]⟩]) (ds := [_]) (wants_plain rfl) rfl rfl Tryd.zeroValue9 Tryd.runUnderlying29 Tryd.sizeOf9 rfl rfl (by kernel_rfl) ⟨rfl, opd_const, trivial⟩ (by exact rfl) (fill_full (by exact rfl) (by exact rfl) (by exact rfl)) (fun b24 => ?_)
   refine OD.give (k := 0) (t := 24) (sz := 1) (m := 1) rfl lk rfl rfl rfl (Nat.le_refl _) (by decide) ?_
   refine OD.callX (wants_plain rfl) rfl rfl rfl Tryd.call44 (must_vx l hl [⟨#[84, 65, 66, 76, 69]⟩] (by decide) (p + 1) ad n cap br) ⟨ot, by exact rfl, trivial⟩ (List.Perm.refl _) (fun ch hch => (Or.inr ⟨ch, rfl, by obtain ⟨q, e, h1, h2⟩ := hch; exact ⟨q, e, hR5.trans (by rw [h1]; rfl), h2⟩⟩ : BodyX _ _ _ _ _ _)) ?_
   rintro _ _ ⟨p6, hr6, rfl⟩
   refine OD.perm (S' := ⟨br, 70, 3, [.list 3 (l.flatMap cT) l.length, .v (.int .i64 ((p6 : Nat) : Int)), .v (.slice ad n cap)]⟩ :: [⟨b3, 32, 12, [_, _, _, _, _, _, _, _, _, _, _, _]⟩, ⟨b2, 32, 12, [_, _, _, _, _, _, _, _, _, _, _, _]⟩]) (List.Perm.refl _) ?_
   have hp6 := (must_le (hr6 []) (isQ_lt e1t)).2.1
   have hR6 : R = (nameP l p6 os).bind (fun t p ops => .ok { st0 with kind := 2, table := t } p ops) := hR5.trans (by rw [hr6]; rfl)
   refine OD.wk (Wk.as_ (n := 99) (l' := [(0, _), (2, _), (3, _)]) (S' := [⟨br, 70, 3, [_, _, _]⟩, ⟨b3, 32, 12, [_, _, _, _, _, _, _, _, _, _, _, _]⟩, ⟨b2, 32, 12, [_, _, _, _, _, _, _, _, _, _, _, _]⟩]) rfl rfl ⟨lk, lk, lk, trivial⟩) ?_
   refine OD.nil ?_
   refine CD.region ?_
   refine os_ mv_ ?_
   refine OD.callX (wants_plain rfl) rfl rfl rfl Tryd.call45 (name_vx hm hw l hl ht p6 ad n cap br) ⟨ot, trivial⟩ (List.Perm.refl _) (fun ch hch => (Or.inr ⟨ch, rfl, by obtain ⟨q, e, h1, h2⟩ := hch; exact ⟨q, e, hR6.trans (by rw [h1]; rfl), h2⟩⟩ : BodyX _ _ _ _ _ _)) ?_
   rintro _ _ ⟨t, hr7, rfl, rfl⟩
   refine OD.perm (S' := ⟨br, 70, 3, [.list 3 (l.flatMap cT) l.length, .v (.int .i64 (((p6 + 1) : Nat) : Int)), .v (.slice ad n cap)]⟩ :: [⟨b3, 32, 12, [_, _, _, _, _, _, _, _, _, _, _, _]⟩, ⟨b2, 32, 12, [_, _, _, _, _, _, _, _, _, _, _, _]⟩]) (List.Perm.refl _) ?_
   have hlt7 := (name_le (hr7 [])).2.2
   have hR7 : R = .ok { st0 with kind := 2, table := t } (p6 + 1) os := hR6.trans (by rw [hr7]; rfl)
   refine os_ (fa_ 0) ?_
   refine OD.store (k := 1) (cs' := [_, _, _, _, _, _, _, _, _, _, _, _]) (wants_plain rfl) rfl rfl ot rfl rfl opd_const rfl rfl Tryd.sizeOf3 rfl rfl rfl ?_
   refine os_ (fa_ 1) ?_
   refine OD.store (k := 1) (cs' := [_, _, _, _, _, _, _, _, _, _, _, _]) (wants_plain rfl) rfl rfl ot rfl rfl ot rfl rfl Tryd.sizeOf9 rfl rfl rfl ?_
   refine OD.wk (Wk.as_ (n := 99) (l' := [(2, _), (3, _)]) (S' := [⟨br, 70, 3, [_, _, _]⟩, ⟨b3, 32, 12, [_, _, _, _, _, _, _, _, _, _, _, _]⟩, ⟨b2, 32, 12, [_, _, _, _, _, _, _, _, _, _, _, _]⟩]) rfl rfl ⟨lk, lk, trivial⟩) ?_
   refine OD.nil ?_
   refine CD.seq ?_
   refine CD.cells (k := 1) (cs' := [_, _, _, _, .list 1 [] 0, _, _, _, _, _, _, _]) (S' := [⟨br, 70, 3, [.list 3 (l.flatMap cT) l.length, .v (.int .i64 (((p6 + 1) : Nat) : Int)), .v (.slice ad n cap)]⟩, _, _]) rfl (by repeat (first | exact trivial | exact ⟨gv_rfl, trivial⟩ | exact ⟨gv_nil, trivial⟩ | refine ⟨gv_rfl, ?_⟩ | refine ⟨gv_nil, ?_⟩)) rfl ?_
   refine CD.region ?_
   refine os_ (lab_ 1 [_, _, _, _, _, _, _, _, _, _, _, _]) ?_
   refine OD.store (k := 2) (cs' := [_, _, _, _, _, _, _, _, _, _, _, _]) (wants_plain rfl) rfl rfl ot rfl rfl ot rfl rfl Tryd.sizeOf32 rfl rfl rfl ?_
   refine OD.wk (Wk.as_ (n := 99) (l' := [(2, _)]) (S' := [⟨br, 70, 3, [_, _, _]⟩, ⟨b3, 32, 12, [_, _, _, _, _, _, _, _, _, _, _, _]⟩, ⟨b2, 32, 12, [_, _, _, _, _, _, _, _, _, _, _, _]⟩]) rfl rfl ⟨lk, trivial⟩) ?_
   refine OD.nil ?_
   refine CD.ret ?_
   refine Or.inl ?_
   refine ⟨.inr rfl, _, [⟨br, 70, 3, [.list 3 (l.flatMap cT) l.length, .v (.int .i64 (((p6 + 1) : Nat) : Int)), .v (.slice ad n cap)]⟩], (by repeat (first | exact List.Sublist.refl _ | exact List.nil_sublist _ | apply List.Sublist.cons_cons | apply List.Sublist.cons)), ret_one Tryd.results25 (res_cells (k := 2) (ds := [_, _, _, _, _, _, _, _, _, _, _, _]) (Nat.le_of_ble_eq_true rfl) lk rfl rfl Tryd.isAgg32 Tryd.sizeOf32 rfl rfl), ?_⟩
   exact ⟨{ st0 with kind := 2, table := t }, (p6 + 1), os, _, _, _, hR7, ⟨rfl, ⟨Nat.zero_le _, Nat.zero_le _, Nat.zero_le _, Nat.zero_le _, Nat.zero_le _⟩⟩, hlt7, rfl⟩
  ·have hc1' := hc1
   (try simp only [V.cnd, ne_eq] at hc1')
   have e1f : isQ l p 1 ⟨#[68, 82, 79, 80]⟩ = false := hc1
   rw [e1f]
   simp only [Bool.false_eq_true, if_false]
   refine sr_ ?_
   refine os_ mv_ ?_
   refine OD.call (wants_plain rfl) rfl rfl rfl Tryd.call43 (eat_vc l hl p 1 ⟨#[73, 78, 83, 69, 82, 84]⟩ ad n cap br) ⟨ot, opd_const, opd_const, trivial⟩ (List.Perm.refl _) ?_
   rintro _ _ ⟨rfl, rfl⟩
   refine OD.perm (S' := ⟨br, 70, 3, [.list 3 (l.flatMap cT) l.length, .v (.int .i64 (((if isQ l p 1 ⟨#[73, 78, 83, 69, 82, 84]⟩ = true then p + 1 else p) : Nat) : Int)), .v (.slice ad n cap)]⟩ :: [⟨b3, 32, 12, [_, _, _, _, _, _, _, _, _, _, _, _]⟩, ⟨b2, 32, 12, [_, _, _, _, _, _, _, _, _, _, _, _]⟩]) (List.Perm.refl _) ?_
   refine os_ mv_ ?_
   refine OD.wk (Wk.as_ (n := 99) (l' := [(0, _), (2, _), (3, _), (30, _)]) (S' := [⟨br, 70, 3, [_, _, _]⟩, ⟨b3, 32, 12, [_, _, _, _, _, _, _, _, _, _, _, _]⟩, ⟨b2, 32, 12, [_, _, _, _, _, _, _, _, _, _, _, _]⟩]) rfl rfl ⟨lk, lk, lk, lk, trivial⟩) ?_
   refine OD.nil ?_
   refine CD.cond ot (fun hc2 => ?_) (fun hc2 => ?_)
   ·have hc2' := hc2
    (try simp only [V.cnd, ne_eq] at hc2')
    have e2t : isQ l p 1 ⟨#[73, 78, 83, 69, 82, 84]⟩ = true := hc2
    rw [e2t]
    simp only [if_true]
    have hR8 : R = (mustP l [⟨#[73, 78, 84, 79]⟩] (p + 1) os).bind (fun _ p ops => (nameP l p ops).bind (fun t p ops => (mustP l [⟨#[86, 65, 76, 85, 69, 83]⟩] p ops).bind (fun _ p ops => (rowB l p ops).bind (fun r p ops => .ok { st0 with kind := 3, table := t, row := r } p ops)))) := hR.trans (by unfold stP; rw [if_neg (F_ e0f), if_neg (F_ e1f), if_pos e2t])
    refine sr_ ?_
    refine os_ mv_ ?_
    refine OD.bldS (pl := numD 0 [_]) (zvs := [.string ⟨#[]⟩]) (ds := [_]) (wants_plain rfl) rfl rfl Tryd.zeroValue9 Tryd.runUnderlying29 Tryd.sizeOf9 rfl rfl (by kernel_rfl) ⟨rfl, opd_const, trivial⟩ (by exact rfl) (fill_full (by exact rfl) (by exact rfl) (by exact rfl)) (fun b34 => ?_)
    refine OD.give (k := 0) (t := 34) (sz := 1) (m := 1) rfl lk rfl rfl rfl (Nat.le_refl _) (by decide) ?_
    refine OD.callX (wants_plain rfl) rfl rfl rfl Tryd.call44 (must_vx l hl [⟨#[73, 78, 84, 79]⟩] (by decide) (p + 1) ad n cap br) ⟨ot, by exact rfl, trivial⟩ (List.Perm.refl _) (fun ch hch => (Or.inr ⟨ch, rfl, by obtain ⟨q, e, h1, h2⟩ := hch; exact ⟨q, e, hR8.trans (by rw [h1]; rfl), h2⟩⟩ : BodyX _ _ _ _ _ _)) ?_
    rintro _ _ ⟨p9, hr9, rfl⟩
    refine OD.perm (S' := ⟨br, 70, 3, [.list 3 (l.flatMap cT) l.length, .v (.int .i64 ((p9 : Nat) : Int)), .v (.slice ad n cap)]⟩ :: [⟨b3, 32, 12, [_, _, _, _, _, _, _, _, _, _, _, _]⟩, ⟨b2, 32, 12, [_, _, _, _, _, _, _, _, _, _, _, _]⟩]) (List.Perm.refl _) ?_
    have hp9 := (must_le (hr9 []) (isQ_lt e2t)).2.1
    have hR9 : R = (nameP l p9 os).bind (fun t p ops => (mustP l [⟨#[86, 65, 76, 85, 69, 83]⟩] p ops).bind (fun _ p ops => (rowB l p ops).bind (fun r p ops => .ok { st0 with kind := 3, table := t, row := r } p ops))) := hR8.trans (by rw [hr9]; rfl)
    refine OD.wk (Wk.as_ (n := 99) (l' := [(0, _), (2, _), (3, _)]) (S' := [⟨br, 70, 3, [_, _, _]⟩, ⟨b3, 32, 12, [_, _, _, _, _, _, _, _, _, _, _, _]⟩, ⟨b2, 32, 12, [_, _, _, _, _, _, _, _, _, _, _, _]⟩]) rfl rfl ⟨lk, lk, lk, trivial⟩) ?_
    refine OD.nil ?_
    refine sr_ ?_
    refine os_ mv_ ?_
    refine OD.callX (wants_plain rfl) rfl rfl rfl Tryd.call45 (name_vx hm hw l hl ht p9 ad n cap br) ⟨ot, trivial⟩ (List.Perm.refl _) (fun ch hch => (Or.inr ⟨ch, rfl, by obtain ⟨q, e, h1, h2⟩ := hch; exact ⟨q, e, hR9.trans (by rw [h1]; rfl), h2⟩⟩ : BodyX _ _ _ _ _ _)) ?_
    rintro _ _ ⟨t, hr10, rfl, rfl⟩
    refine OD.perm (S' := ⟨br, 70, 3, [.list 3 (l.flatMap cT) l.length, .v (.int .i64 (((p9 + 1) : Nat) : Int)), .v (.slice ad n cap)]⟩ :: [⟨b3, 32, 12, [_, _, _, _, _, _, _, _, _, _, _, _]⟩, ⟨b2, 32, 12, [_, _, _, _, _, _, _, _, _, _, _, _]⟩]) (List.Perm.refl _) ?_
    have hlt10 := (name_le (hr10 [])).2.2
    have hR10 : R = (mustP l [⟨#[86, 65, 76, 85, 69, 83]⟩] (p9 + 1) os).bind (fun _ p ops => (rowB l p ops).bind (fun r p ops => .ok { st0 with kind := 3, table := t, row := r } p ops)) := hR9.trans (by rw [hr10]; rfl)
    refine os_ (fa_ 0) ?_
    refine OD.store (k := 1) (cs' := [_, _, _, _, _, _, _, _, _, _, _, _]) (wants_plain rfl) rfl rfl ot rfl rfl opd_const rfl rfl Tryd.sizeOf3 rfl rfl rfl ?_
    refine os_ (fa_ 1) ?_
    refine OD.store (k := 1) (cs' := [_, _, _, _, _, _, _, _, _, _, _, _]) (wants_plain rfl) rfl rfl ot rfl rfl ot rfl rfl Tryd.sizeOf9 rfl rfl rfl ?_
    refine OD.wk (Wk.as_ (n := 99) (l' := [(0, _), (2, _), (3, _)]) (S' := [⟨br, 70, 3, [_, _, _]⟩, ⟨b3, 32, 12, [_, _, _, _, _, _, _, _, _, _, _, _]⟩, ⟨b2, 32, 12, [_, _, _, _, _, _, _, _, _, _, _, _]⟩]) rfl rfl ⟨lk, lk, lk, trivial⟩) ?_
    refine OD.nil ?_
    refine sr_ ?_
    refine os_ mv_ ?_
    refine OD.bldS (pl := numD 0 [_]) (zvs := [.string ⟨#[]⟩]) (ds := [_]) (wants_plain rfl) rfl rfl Tryd.zeroValue9 Tryd.runUnderlying29 Tryd.sizeOf9 rfl rfl (by kernel_rfl) ⟨rfl, opd_const, trivial⟩ (by exact rfl) (fill_full (by exact rfl) (by exact rfl) (by exact rfl)) (fun b41 => ?_)
    refine OD.give (k := 0) (t := 41) (sz := 1) (m := 1) rfl lk rfl rfl rfl (Nat.le_refl _) (by decide) ?_
    refine OD.callX (wants_plain rfl) rfl rfl rfl Tryd.call44 (must_vx l hl [⟨#[86, 65, 76, 85, 69, 83]⟩] (by decide) (p9 + 1) ad n cap br) ⟨ot, by exact rfl, trivial⟩ (List.Perm.refl _) (fun ch hch => (Or.inr ⟨ch, rfl, by obtain ⟨q, e, h1, h2⟩ := hch; exact ⟨q, e, hR10.trans (by rw [h1]; rfl), h2⟩⟩ : BodyX _ _ _ _ _ _)) ?_
    rintro _ _ ⟨p11, hr11, rfl⟩
    refine OD.perm (S' := ⟨br, 70, 3, [.list 3 (l.flatMap cT) l.length, .v (.int .i64 ((p11 : Nat) : Int)), .v (.slice ad n cap)]⟩ :: [⟨b3, 32, 12, [_, _, _, _, _, _, _, _, _, _, _, _]⟩, ⟨b2, 32, 12, [_, _, _, _, _, _, _, _, _, _, _, _]⟩]) (List.Perm.refl _) ?_
    have hp11 := (must_le (hr11 []) hlt10).2.1
    have hR11 : R = (rowB l p11 os).bind (fun r p ops => .ok { st0 with kind := 3, table := t, row := r } p ops) := hR10.trans (by rw [hr11]; rfl)
    refine OD.wk (Wk.as_ (n := 99) (l' := [(0, _), (2, _), (3, _)]) (S' := [⟨br, 70, 3, [_, _, _]⟩, ⟨b3, 32, 12, [_, _, _, _, _, _, _, _, _, _, _, _]⟩, ⟨b2, 32, 12, [_, _, _, _, _, _, _, _, _, _, _, _]⟩]) rfl rfl ⟨lk, lk, lk, trivial⟩) ?_
    refine OD.nil ?_
    refine CD.region ?_
    refine os_ mv_ ?_
    refine OD.callX (wants_plain rfl) rfl rfl rfl Tryd.call47 (row_vx hl ht p11 hp11 os (rowB l p11 os) rfl ad n cap) ⟨ot, trivial⟩ (List.Perm.refl _) (fun ch hch => (Or.inr ⟨ch, rfl, by obtain ⟨q, e, h1, h2⟩ := hch; exact ⟨q, e, hR11.trans (by rw [h1]; rfl), h2⟩⟩ : BodyX _ _ _ _ _ _)) ?_
    rintro _ _ ⟨r, p12, o12, ad12, n12, cap12, hr12, ⟨rfl, hv_r⟩, hp12, rfl⟩
    refine OD.perm (S' := ⟨br, 70, 3, [.list 3 (l.flatMap cT) l.length, .v (.int .i64 ((p12 : Nat) : Int)), .v (.slice ad12 n12 cap12)]⟩ :: [⟨b3, 32, 12, [_, _, _, _, _, _, _, _, _, _, _, _]⟩, ⟨b2, 32, 12, [_, _, _, _, _, _, _, _, _, _, _, _]⟩]) (List.Perm.refl _) ?_
    have hR12 : R = .ok { st0 with kind := 3, table := t, row := r } p12 o12 := hR11.trans (by rw [hr12]; rfl)
    refine os_ (fa_ 3) ?_
    refine OD.store (k := 1) (cs' := [_, _, _, _, _, _, _, _, _, _, _, _]) (wants_plain rfl) rfl rfl ot rfl rfl ot rfl rfl Tryd.sizeOf28 rfl rfl rfl ?_
    refine OD.wk (Wk.as_ (n := 99) (l' := [(2, _), (3, _)]) (S' := [⟨br, 70, 3, [_, _, _]⟩, ⟨b3, 32, 12, [_, _, _, _, _, _, _, _, _, _, _, _]⟩, ⟨b2, 32, 12, [_, _, _, _, _, _, _, _, _, _, _, _]⟩]) rfl rfl ⟨lk, lk, trivial⟩) ?_
    refine OD.nil ?_
    refine CD.seq ?_
    refine CD.cells (k := 1) (cs' := [_, _, _, _, .list 1 [] 0, _, _, _, _, _, _, _]) (S' := [⟨br, 70, 3, [.list 3 (l.flatMap cT) l.length, .v (.int .i64 ((p12 : Nat) : Int)), .v (.slice ad12 n12 cap12)]⟩, _, _]) rfl (by repeat (first | exact trivial | exact ⟨gv_rfl, trivial⟩ | exact ⟨gv_nil, trivial⟩ | refine ⟨gv_rfl, ?_⟩ | refine ⟨gv_nil, ?_⟩)) rfl ?_
    refine CD.region ?_
    refine os_ (lab_ 1 [_, _, _, _, _, _, _, _, _, _, _, _]) ?_
    refine OD.store (k := 2) (cs' := [_, _, _, _, _, _, _, _, _, _, _, _]) (wants_plain rfl) rfl rfl ot rfl rfl ot rfl rfl Tryd.sizeOf32 rfl rfl rfl ?_
    refine OD.wk (Wk.as_ (n := 99) (l' := [(2, _)]) (S' := [⟨br, 70, 3, [_, _, _]⟩, ⟨b3, 32, 12, [_, _, _, _, _, _, _, _, _, _, _, _]⟩, ⟨b2, 32, 12, [_, _, _, _, _, _, _, _, _, _, _, _]⟩]) rfl rfl ⟨lk, trivial⟩) ?_
    refine OD.nil ?_
    refine CD.ret ?_
    refine Or.inl ?_
    refine ⟨.inr rfl, _, [⟨br, 70, 3, [.list 3 (l.flatMap cT) l.length, .v (.int .i64 ((p12 : Nat) : Int)), .v (.slice ad12 n12 cap12)]⟩], (by repeat (first | exact List.Sublist.refl _ | exact List.nil_sublist _ | apply List.Sublist.cons_cons | apply List.Sublist.cons)), ret_one Tryd.results25 (res_cells (k := 2) (ds := [_, _, _, _, _, _, _, _, _, _, _, _]) (Nat.le_of_ble_eq_true rfl) lk rfl rfl Tryd.isAgg32 Tryd.sizeOf32 rfl rfl), ?_⟩
    exact ⟨{ st0 with kind := 3, table := t, row := r }, p12, o12, _, _, _, hR12, ⟨rfl, ⟨Nat.zero_le _, hv_r, Nat.zero_le _, Nat.zero_le _, Nat.zero_le _⟩⟩, hp12, rfl⟩
   ·have hc2' := hc2
    (try simp only [V.cnd, ne_eq] at hc2')
    have e2f : isQ l p 1 ⟨#[73, 78, 83, 69, 82, 84]⟩ = false := hc2
    rw [e2f]
    simp only [Bool.false_eq_true, if_false]
    refine sr_ ?_
    refine os_ mv_ ?_
    refine OD.call (wants_plain rfl) rfl rfl rfl Tryd.call43 (eat_vc l hl p 1 ⟨#[83, 69, 76, 69, 67, 84]⟩ ad n cap br) ⟨ot, opd_const, opd_const, trivial⟩ (List.Perm.refl _) ?_
    rintro _ _ ⟨rfl, rfl⟩
    refine OD.perm (S' := ⟨br, 70, 3, [.list 3 (l.flatMap cT) l.length, .v (.int .i64 (((if isQ l p 1 ⟨#[83, 69, 76, 69, 67, 84]⟩ = true then p + 1 else p) : Nat) : Int)), .v (.slice ad n cap)]⟩ :: [⟨b3, 32, 12, [_, _, _, _, _, _, _, _, _, _, _, _]⟩, ⟨b2, 32, 12, [_, _, _, _, _, _, _, _, _, _, _, _]⟩]) (List.Perm.refl _) ?_
    refine os_ mv_ ?_
    refine OD.wk (Wk.as_ (n := 99) (l' := [(0, _), (2, _), (3, _), (46, _)]) (S' := [⟨br, 70, 3, [_, _, _]⟩, ⟨b3, 32, 12, [_, _, _, _, _, _, _, _, _, _, _, _]⟩, ⟨b2, 32, 12, [_, _, _, _, _, _, _, _, _, _, _, _]⟩]) rfl rfl ⟨lk, lk, lk, lk, trivial⟩) ?_
    refine OD.nil ?_
    refine CD.cond ot (fun hc3 => ?_) (fun hc3 => ?_)
    ·have hc3' := hc3
     (try simp only [V.cnd, ne_eq] at hc3')
     have e3t : isQ l p 1 ⟨#[83, 69, 76, 69, 67, 84]⟩ = true := hc3
     rw [e3t]
     simp only [if_true]
     have hR13 : R = pickP l (p + 1) os := hR.trans (by unfold stP; rw [if_neg (F_ e0f), if_neg (F_ e1f), if_neg (F_ e2f), if_pos e3t])
     refine sr_ ?_
     refine os_ (fa_ 0) ?_
     refine OD.store (k := 1) (cs' := [_, _, _, _, _, _, _, _, _, _, _, _]) (wants_plain rfl) rfl rfl ot rfl rfl opd_const rfl rfl Tryd.sizeOf3 rfl rfl rfl ?_
     refine OD.wk (Wk.as_ (n := 99) (l' := [(0, _), (2, _), (3, _)]) (S' := [⟨br, 70, 3, [_, _, _]⟩, ⟨b3, 32, 12, [_, _, _, _, _, _, _, _, _, _, _, _]⟩, ⟨b2, 32, 12, [_, _, _, _, _, _, _, _, _, _, _, _]⟩]) rfl rfl ⟨lk, lk, lk, trivial⟩) ?_
     refine OD.nil ?_
     refine CD.region ?_
     refine os_ mv_ ?_
     refine OD.callX (wants_plain rfl) rfl rfl rfl Tryd.call48 (pick_vx hl hm hw hk ht (p + 1) (isQ_lt e3t) os _ hR13 ad n cap b3) ⟨ot, ot, trivial⟩ (List.Perm.refl _) (fun ch hch => (Or.inr ⟨ch, rfl, hch⟩ : BodyX _ _ _ _ _ _)) ?_
     rintro _ _ ⟨s, p9, o9, ad9, n9, cap9, hr9, hok9, hp9, rfl⟩
     refine OD.perm (S' := [⟨br, 70, 3, [.list 3 (l.flatMap cT) l.length, .v (.int .i64 ((p9 : Nat) : Int)), .v (.slice ad9 n9 cap9)]⟩, ⟨b3, 32, 12, [_, _, _, _, _, _, _, _, _, _, _, _]⟩, ⟨b2, 32, 12, [_, _, _, _, _, _, _, _, _, _, _, _]⟩]) (List.Perm.refl _) ?_
     refine OD.wk (Wk.as_ (n := 99) (l' := [(2, _), (3, _)]) (S' := [⟨br, 70, 3, [_, _, _]⟩, ⟨b3, 32, 12, [_, _, _, _, _, _, _, _, _, _, _, _]⟩, ⟨b2, 32, 12, [_, _, _, _, _, _, _, _, _, _, _, _]⟩]) rfl rfl ⟨lk, lk, trivial⟩) ?_
     refine OD.nil ?_
     refine CD.seq ?_
     refine CD.region ?_
     refine os_ (lab_ 1 [_, _, _, _, _, _, _, _, _, _, _, _]) ?_
     refine OD.store (k := 2) (cs' := [_, _, _, _, _, _, _, _, _, _, _, _]) (wants_plain rfl) rfl rfl ot rfl rfl ot rfl rfl Tryd.sizeOf32 rfl rfl rfl ?_
     refine OD.wk (Wk.as_ (n := 99) (l' := [(2, _)]) (S' := [⟨br, 70, 3, [_, _, _]⟩, ⟨b3, 32, 12, [_, _, _, _, _, _, _, _, _, _, _, _]⟩, ⟨b2, 32, 12, [_, _, _, _, _, _, _, _, _, _, _, _]⟩]) rfl rfl ⟨lk, trivial⟩) ?_
     refine OD.nil ?_
     refine CD.ret ?_
     refine Or.inl ?_
     refine ⟨.inr rfl, _, [⟨br, 70, 3, [.list 3 (l.flatMap cT) l.length, .v (.int .i64 ((p9 : Nat) : Int)), .v (.slice ad9 n9 cap9)]⟩], (by repeat (first | exact List.Sublist.refl _ | exact List.nil_sublist _ | apply List.Sublist.cons_cons | apply List.Sublist.cons)), ret_one Tryd.results25 (res_cells (k := 2) (ds := [_, _, _, _, _, _, _, _, _, _, _, _]) (Nat.le_of_ble_eq_true rfl) lk rfl rfl Tryd.isAgg32 Tryd.sizeOf32 rfl rfl), ?_⟩
     exact ⟨s, p9, o9, _, _, _, hr9, ⟨rfl, hok9⟩, hp9, rfl⟩
    ·have hc3' := hc3
     (try simp only [V.cnd, ne_eq] at hc3')
     have e3f : isQ l p 1 ⟨#[83, 69, 76, 69, 67, 84]⟩ = false := hc3
     rw [e3f]
     simp only [Bool.false_eq_true, if_false]
     refine sr_ ?_
     refine os_ mv_ ?_
     refine OD.call (wants_plain rfl) rfl rfl rfl Tryd.call43 (eat_vc l hl p 1 ⟨#[85, 80, 68, 65, 84, 69]⟩ ad n cap br) ⟨ot, opd_const, opd_const, trivial⟩ (List.Perm.refl _) ?_
     rintro _ _ ⟨rfl, rfl⟩
     refine OD.perm (S' := ⟨br, 70, 3, [.list 3 (l.flatMap cT) l.length, .v (.int .i64 (((if isQ l p 1 ⟨#[85, 80, 68, 65, 84, 69]⟩ = true then p + 1 else p) : Nat) : Int)), .v (.slice ad n cap)]⟩ :: [⟨b3, 32, 12, [_, _, _, _, _, _, _, _, _, _, _, _]⟩, ⟨b2, 32, 12, [_, _, _, _, _, _, _, _, _, _, _, _]⟩]) (List.Perm.refl _) ?_
     refine os_ mv_ ?_
     refine OD.wk (Wk.as_ (n := 99) (l' := [(0, _), (2, _), (3, _), (52, _)]) (S' := [⟨br, 70, 3, [_, _, _]⟩, ⟨b3, 32, 12, [_, _, _, _, _, _, _, _, _, _, _, _]⟩, ⟨b2, 32, 12, [_, _, _, _, _, _, _, _, _, _, _, _]⟩]) rfl rfl ⟨lk, lk, lk, lk, trivial⟩) ?_
     refine OD.nil ?_
     refine CD.cond ot (fun hc4 => ?_) (fun hc4 => ?_)
     ·have hc4' := hc4
      (try simp only [V.cnd, ne_eq] at hc4')
      have e4t : isQ l p 1 ⟨#[85, 80, 68, 65, 84, 69]⟩ = true := hc4
      rw [e4t]
      simp only [if_true]
      have hR14 : R = (nameP l (p + 1) os).bind (fun t p ops => (mustP l [⟨#[83, 69, 84]⟩] p ops).bind (fun _ p ops => (nameP l p ops).bind (fun c p ops => (markP l ⟨#[61]⟩ p ops).bind (fun _ p ops => (exprP l p).bind (fun e p ops => (whereP l p ops).bind (fun w p ops => .ok { st0 with kind := 5, table := t, set := c, to := e, wher := w } p ops)))))) := hR.trans (by unfold stP; rw [if_neg (F_ e0f), if_neg (F_ e1f), if_neg (F_ e2f), if_neg (F_ e3f), if_pos e4t])
      refine sr_ ?_
      refine os_ mv_ ?_
      refine OD.callX (wants_plain rfl) rfl rfl rfl Tryd.call45 (name_vx hm hw l hl ht (p + 1) ad n cap br) ⟨ot, trivial⟩ (List.Perm.refl _) (fun ch hch => (Or.inr ⟨ch, rfl, by obtain ⟨q, e, h1, h2⟩ := hch; exact ⟨q, e, hR14.trans (by rw [h1]; rfl), h2⟩⟩ : BodyX _ _ _ _ _ _)) ?_
      rintro _ _ ⟨t, hr15, rfl, rfl⟩
      refine OD.perm (S' := ⟨br, 70, 3, [.list 3 (l.flatMap cT) l.length, .v (.int .i64 ((((p + 1) + 1) : Nat) : Int)), .v (.slice ad n cap)]⟩ :: [⟨b3, 32, 12, [_, _, _, _, _, _, _, _, _, _, _, _]⟩, ⟨b2, 32, 12, [_, _, _, _, _, _, _, _, _, _, _, _]⟩]) (List.Perm.refl _) ?_
      have hlt15 := (name_le (hr15 [])).2.2
      have hR15 : R = (mustP l [⟨#[83, 69, 84]⟩] ((p + 1) + 1) os).bind (fun _ p ops => (nameP l p ops).bind (fun c p ops => (markP l ⟨#[61]⟩ p ops).bind (fun _ p ops => (exprP l p).bind (fun e p ops => (whereP l p ops).bind (fun w p ops => .ok { st0 with kind := 5, table := t, set := c, to := e, wher := w } p ops))))) := hR14.trans (by rw [hr15]; rfl)
      refine os_ (fa_ 0) ?_
      refine OD.store (k := 1) (cs' := [_, _, _, _, _, _, _, _, _, _, _, _]) (wants_plain rfl) rfl rfl ot rfl rfl opd_const rfl rfl Tryd.sizeOf3 rfl rfl rfl ?_
      refine os_ (fa_ 1) ?_
      refine OD.store (k := 1) (cs' := [_, _, _, _, _, _, _, _, _, _, _, _]) (wants_plain rfl) rfl rfl ot rfl rfl ot rfl rfl Tryd.sizeOf9 rfl rfl rfl ?_
      refine OD.wk (Wk.as_ (n := 99) (l' := [(0, _), (2, _), (3, _)]) (S' := [⟨br, 70, 3, [_, _, _]⟩, ⟨b3, 32, 12, [_, _, _, _, _, _, _, _, _, _, _, _]⟩, ⟨b2, 32, 12, [_, _, _, _, _, _, _, _, _, _, _, _]⟩]) rfl rfl ⟨lk, lk, lk, trivial⟩) ?_
      refine OD.nil ?_
      refine sr_ ?_
      refine os_ mv_ ?_
      refine OD.bldS (pl := numD 0 [_]) (zvs := [.string ⟨#[]⟩]) (ds := [_]) (wants_plain rfl) rfl rfl Tryd.zeroValue9 Tryd.runUnderlying29 Tryd.sizeOf9 rfl rfl (by kernel_rfl) ⟨rfl, opd_const, trivial⟩ (by exact rfl) (fill_full (by exact rfl) (by exact rfl) (by exact rfl)) (fun b60 => ?_)
      refine OD.give (k := 0) (t := 60) (sz := 1) (m := 1) rfl lk rfl rfl rfl (Nat.le_refl _) (by decide) ?_
      refine OD.callX (wants_plain rfl) rfl rfl rfl Tryd.call44 (must_vx l hl [⟨#[83, 69, 84]⟩] (by decide) ((p + 1) + 1) ad n cap br) ⟨ot, by exact rfl, trivial⟩ (List.Perm.refl _) (fun ch hch => (Or.inr ⟨ch, rfl, by obtain ⟨q, e, h1, h2⟩ := hch; exact ⟨q, e, hR15.trans (by rw [h1]; rfl), h2⟩⟩ : BodyX _ _ _ _ _ _)) ?_
      rintro _ _ ⟨p16, hr16, rfl⟩
      refine OD.perm (S' := ⟨br, 70, 3, [.list 3 (l.flatMap cT) l.length, .v (.int .i64 ((p16 : Nat) : Int)), .v (.slice ad n cap)]⟩ :: [⟨b3, 32, 12, [_, _, _, _, _, _, _, _, _, _, _, _]⟩, ⟨b2, 32, 12, [_, _, _, _, _, _, _, _, _, _, _, _]⟩]) (List.Perm.refl _) ?_
      have hp16 := (must_le (hr16 []) hlt15).2.1
      have hR16 : R = (nameP l p16 os).bind (fun c p ops => (markP l ⟨#[61]⟩ p ops).bind (fun _ p ops => (exprP l p).bind (fun e p ops => (whereP l p ops).bind (fun w p ops => .ok { st0 with kind := 5, table := t, set := c, to := e, wher := w } p ops)))) := hR15.trans (by rw [hr16]; rfl)
      refine OD.wk (Wk.as_ (n := 99) (l' := [(0, _), (2, _), (3, _)]) (S' := [⟨br, 70, 3, [_, _, _]⟩, ⟨b3, 32, 12, [_, _, _, _, _, _, _, _, _, _, _, _]⟩, ⟨b2, 32, 12, [_, _, _, _, _, _, _, _, _, _, _, _]⟩]) rfl rfl ⟨lk, lk, lk, trivial⟩) ?_
      refine OD.nil ?_
      refine sr_ ?_
      refine os_ mv_ ?_
      refine OD.callX (wants_plain rfl) rfl rfl rfl Tryd.call45 (name_vx hm hw l hl ht p16 ad n cap br) ⟨ot, trivial⟩ (List.Perm.refl _) (fun ch hch => (Or.inr ⟨ch, rfl, by obtain ⟨q, e, h1, h2⟩ := hch; exact ⟨q, e, hR16.trans (by rw [h1]; rfl), h2⟩⟩ : BodyX _ _ _ _ _ _)) ?_
      rintro _ _ ⟨c, hr17, rfl, rfl⟩
      refine OD.perm (S' := ⟨br, 70, 3, [.list 3 (l.flatMap cT) l.length, .v (.int .i64 (((p16 + 1) : Nat) : Int)), .v (.slice ad n cap)]⟩ :: [⟨b3, 32, 12, [_, _, _, _, _, _, _, _, _, _, _, _]⟩, ⟨b2, 32, 12, [_, _, _, _, _, _, _, _, _, _, _, _]⟩]) (List.Perm.refl _) ?_
      have hlt17 := (name_le (hr17 [])).2.2
      have hR17 : R = (markP l ⟨#[61]⟩ (p16 + 1) os).bind (fun _ p ops => (exprP l p).bind (fun e p ops => (whereP l p ops).bind (fun w p ops => .ok { st0 with kind := 5, table := t, set := c, to := e, wher := w } p ops))) := hR16.trans (by rw [hr17]; rfl)
      refine os_ (fa_ 10) ?_
      refine OD.store (k := 1) (cs' := [_, _, _, _, _, _, _, _, _, _, _, _]) (wants_plain rfl) rfl rfl ot rfl rfl ot rfl rfl Tryd.sizeOf9 rfl rfl rfl ?_
      refine OD.wk (Wk.as_ (n := 99) (l' := [(0, _), (2, _), (3, _)]) (S' := [⟨br, 70, 3, [_, _, _]⟩, ⟨b3, 32, 12, [_, _, _, _, _, _, _, _, _, _, _, _]⟩, ⟨b2, 32, 12, [_, _, _, _, _, _, _, _, _, _, _, _]⟩]) rfl rfl ⟨lk, lk, lk, trivial⟩) ?_
      refine OD.nil ?_
      refine sr_ ?_
      refine os_ mv_ ?_
      refine OD.callX (wants_plain rfl) rfl rfl rfl Tryd.call49 (mark_vx l hl (p16 + 1) ⟨#[61]⟩ ad n cap br) ⟨ot, opd_const, trivial⟩ (List.Perm.refl _) (fun ch hch => (Or.inr ⟨ch, rfl, ⟨_, _, hR17.trans (by rw [mark_no hch.1]; rfl), hch.2⟩⟩ : BodyX _ _ _ _ _ _)) ?_
      rintro _ _ ⟨hm18, rfl⟩
      refine OD.perm (S' := ⟨br, 70, 3, [.list 3 (l.flatMap cT) l.length, .v (.int .i64 ((((p16 + 1) + 1) : Nat) : Int)), .v (.slice ad n cap)]⟩ :: [⟨b3, 32, 12, [_, _, _, _, _, _, _, _, _, _, _, _]⟩, ⟨b2, 32, 12, [_, _, _, _, _, _, _, _, _, _, _, _]⟩]) (List.Perm.refl _) ?_
      have hR18 : R = (exprP l ((p16 + 1) + 1)).bind (fun e p ops => (whereP l p ops).bind (fun w p ops => .ok { st0 with kind := 5, table := t, set := c, to := e, wher := w } p ops)) := hR17.trans (by rw [mark_yes hm18]; rfl)
      refine OD.wk (Wk.as_ (n := 99) (l' := [(0, _), (2, _), (3, _)]) (S' := [⟨br, 70, 3, [_, _, _]⟩, ⟨b3, 32, 12, [_, _, _, _, _, _, _, _, _, _, _, _]⟩, ⟨b2, 32, 12, [_, _, _, _, _, _, _, _, _, _, _, _]⟩]) rfl rfl ⟨lk, lk, lk, trivial⟩) ?_
      refine OD.nil ?_
      refine sr_ ?_
      refine os_ mv_ ?_
      have hs19 := ns_expr (isQ_lt hm18)
      refine OD.callX (wants_plain rfl) rfl rfl rfl Tryd.call50 (expr_vx hl hm hw hk ht ((p16 + 1) + 1) (isQ_lt hm18) _ rfl hs19 ad n cap) ⟨ot, trivial⟩ (List.Perm.refl _) (fun ch hch => (Or.inr ⟨ch, rfl, by obtain ⟨q, e, h1, h2⟩ := hch; exact ⟨q, e, hR18.trans (by rw [h1]; rfl), h2⟩⟩ : BodyX _ _ _ _ _ _)) ?_
      rintro _ _ ⟨e, p19, o19, ad19, n19, cap19, hr19, ⟨rfl, hv19⟩, hp19, rfl⟩
      refine OD.perm (S' := ⟨br, 70, 3, [.list 3 (l.flatMap cT) l.length, .v (.int .i64 ((p19 : Nat) : Int)), .v (.slice ad19 n19 cap19)]⟩ :: [⟨b3, 32, 12, [_, _, _, _, _, _, _, _, _, _, _, _]⟩, ⟨b2, 32, 12, [_, _, _, _, _, _, _, _, _, _, _, _]⟩]) (List.Perm.refl _) ?_
      have hR19 : R = (whereP l p19 o19).bind (fun w p ops => .ok { st0 with kind := 5, table := t, set := c, to := e, wher := w } p ops) := hR18.trans (by rw [hr19]; rfl)
      refine os_ (fa_ 11) ?_
      refine OD.store (k := 1) (cs' := [_, _, _, _, _, _, _, _, _, _, _, _]) (wants_plain rfl) rfl rfl ot rfl rfl ot rfl rfl Tryd.sizeOf30 rfl rfl rfl ?_
      refine OD.wk (Wk.as_ (n := 99) (l' := [(0, _), (2, _), (3, _)]) (S' := [⟨br, 70, 3, [_, _, _]⟩, ⟨b3, 32, 12, [_, _, _, _, _, _, _, _, _, _, _, _]⟩, ⟨b2, 32, 12, [_, _, _, _, _, _, _, _, _, _, _, _]⟩]) rfl rfl ⟨lk, lk, lk, trivial⟩) ?_
      refine OD.nil ?_
      refine CD.region ?_
      refine os_ mv_ ?_
      have hs20 := (ns_where : whereP l p19 o19 ≠ .stuck)
      refine OD.callX (wants_plain rfl) rfl rfl rfl Tryd.call51 (where_vx hl hm hw hk ht p19 hp19 o19 _ rfl hs20 ad19 n19 cap19) ⟨ot, trivial⟩ (List.Perm.refl _) (fun ch hch => (Or.inr ⟨ch, rfl, by obtain ⟨q, e, h1, h2⟩ := hch; exact ⟨q, e, hR19.trans (by rw [h1]; rfl), h2⟩⟩ : BodyX _ _ _ _ _ _)) ?_
      rintro _ _ ⟨w, p20, o20, ad20, n20, cap20, hr20, ⟨rfl, hv20⟩, hp20, rfl⟩
      refine OD.perm (S' := ⟨br, 70, 3, [.list 3 (l.flatMap cT) l.length, .v (.int .i64 ((p20 : Nat) : Int)), .v (.slice ad20 n20 cap20)]⟩ :: [⟨b3, 32, 12, [_, _, _, _, _, _, _, _, _, _, _, _]⟩, ⟨b2, 32, 12, [_, _, _, _, _, _, _, _, _, _, _, _]⟩]) (List.Perm.refl _) ?_
      have hR20 : R = .ok { st0 with kind := 5, table := t, set := c, to := e, wher := w } p20 o20 := hR19.trans (by rw [hr20]; rfl)
      refine os_ (fa_ 6) ?_
      refine OD.store (k := 1) (cs' := [_, _, _, _, _, _, _, _, _, _, _, _]) (wants_plain rfl) rfl rfl ot rfl rfl ot rfl rfl Tryd.sizeOf30 rfl rfl rfl ?_
      refine OD.wk (Wk.as_ (n := 99) (l' := [(2, _), (3, _)]) (S' := [⟨br, 70, 3, [_, _, _]⟩, ⟨b3, 32, 12, [_, _, _, _, _, _, _, _, _, _, _, _]⟩, ⟨b2, 32, 12, [_, _, _, _, _, _, _, _, _, _, _, _]⟩]) rfl rfl ⟨lk, lk, trivial⟩) ?_
      refine OD.nil ?_
      refine CD.seq ?_
      refine CD.cells (k := 1) (cs' := [_, _, _, _, .list 1 [] 0, _, _, _, _, _, _, _]) (S' := [⟨br, 70, 3, [.list 3 (l.flatMap cT) l.length, .v (.int .i64 ((p20 : Nat) : Int)), .v (.slice ad20 n20 cap20)]⟩, _, _]) rfl (by repeat (first | exact trivial | exact ⟨gv_rfl, trivial⟩ | exact ⟨gv_nil, trivial⟩ | refine ⟨gv_rfl, ?_⟩ | refine ⟨gv_nil, ?_⟩)) rfl ?_
      refine CD.region ?_
      refine os_ (lab_ 1 [_, _, _, _, _, _, _, _, _, _, _, _]) ?_
      refine OD.store (k := 2) (cs' := [_, _, _, _, _, _, _, _, _, _, _, _]) (wants_plain rfl) rfl rfl ot rfl rfl ot rfl rfl Tryd.sizeOf32 rfl rfl rfl ?_
      refine OD.wk (Wk.as_ (n := 99) (l' := [(2, _)]) (S' := [⟨br, 70, 3, [_, _, _]⟩, ⟨b3, 32, 12, [_, _, _, _, _, _, _, _, _, _, _, _]⟩, ⟨b2, 32, 12, [_, _, _, _, _, _, _, _, _, _, _, _]⟩]) rfl rfl ⟨lk, trivial⟩) ?_
      refine OD.nil ?_
      refine CD.ret ?_
      refine Or.inl ?_
      refine ⟨.inr rfl, _, [⟨br, 70, 3, [.list 3 (l.flatMap cT) l.length, .v (.int .i64 ((p20 : Nat) : Int)), .v (.slice ad20 n20 cap20)]⟩], (by repeat (first | exact List.Sublist.refl _ | exact List.nil_sublist _ | apply List.Sublist.cons_cons | apply List.Sublist.cons)), ret_one Tryd.results25 (res_cells (k := 2) (ds := [_, _, _, _, _, _, _, _, _, _, _, _]) (Nat.le_of_ble_eq_true rfl) lk rfl rfl Tryd.isAgg32 Tryd.sizeOf32 rfl rfl), ?_⟩
      exact ⟨{ st0 with kind := 5, table := t, set := c, to := e, wher := w }, p20, o20, _, _, _, hR20, ⟨rfl, ⟨Nat.zero_le _, Nat.zero_le _, Nat.zero_le _, hv20, hv19⟩⟩, hp20, rfl⟩
     ·have hc4' := hc4
      (try simp only [V.cnd, ne_eq] at hc4')
      have e4f : isQ l p 1 ⟨#[85, 80, 68, 65, 84, 69]⟩ = false := hc4
      rw [e4f]
      simp only [Bool.false_eq_true, if_false]
      refine sr_ ?_
      refine os_ mv_ ?_
      refine OD.call (wants_plain rfl) rfl rfl rfl Tryd.call43 (eat_vc l hl p 1 ⟨#[68, 69, 76, 69, 84, 69]⟩ ad n cap br) ⟨ot, opd_const, opd_const, trivial⟩ (List.Perm.refl _) ?_
      rintro _ _ ⟨rfl, rfl⟩
      refine OD.perm (S' := ⟨br, 70, 3, [.list 3 (l.flatMap cT) l.length, .v (.int .i64 (((if isQ l p 1 ⟨#[68, 69, 76, 69, 84, 69]⟩ = true then p + 1 else p) : Nat) : Int)), .v (.slice ad n cap)]⟩ :: [⟨b3, 32, 12, [_, _, _, _, _, _, _, _, _, _, _, _]⟩, ⟨b2, 32, 12, [_, _, _, _, _, _, _, _, _, _, _, _]⟩]) (List.Perm.refl _) ?_
      refine os_ mv_ ?_
      refine OD.wk (Wk.as_ (n := 99) (l' := [(0, _), (2, _), (3, _), (73, _)]) (S' := [⟨br, 70, 3, [_, _, _]⟩, ⟨b3, 32, 12, [_, _, _, _, _, _, _, _, _, _, _, _]⟩, ⟨b2, 32, 12, [_, _, _, _, _, _, _, _, _, _, _, _]⟩]) rfl rfl ⟨lk, lk, lk, lk, trivial⟩) ?_
      refine OD.nil ?_
      refine CD.cond ot (fun hc5 => ?_) (fun hc5 => ?_)
      ·have hc5' := hc5
       (try simp only [V.cnd, ne_eq] at hc5')
       have e5t : isQ l p 1 ⟨#[68, 69, 76, 69, 84, 69]⟩ = true := hc5
       rw [e5t]
       simp only [if_true]
       have hR21 : R = (mustP l [⟨#[70, 82, 79, 77]⟩] (p + 1) os).bind (fun _ p ops => (nameP l p ops).bind (fun t p ops => (whereP l p ops).bind (fun w p ops => .ok { st0 with kind := 6, table := t, wher := w } p ops))) := hR.trans (by unfold stP; rw [if_neg (F_ e0f), if_neg (F_ e1f), if_neg (F_ e2f), if_neg (F_ e3f), if_neg (F_ e4f), if_pos e5t])
       refine sr_ ?_
       refine os_ mv_ ?_
       refine OD.bldS (pl := numD 0 [_]) (zvs := [.string ⟨#[]⟩]) (ds := [_]) (wants_plain rfl) rfl rfl Tryd.zeroValue9 Tryd.runUnderlying29 Tryd.sizeOf9 rfl rfl (by kernel_rfl) ⟨rfl, opd_const, trivial⟩ (by exact rfl) (fill_full (by exact rfl) (by exact rfl) (by exact rfl)) (fun b77 => ?_)
       refine OD.give (k := 0) (t := 77) (sz := 1) (m := 1) rfl lk rfl rfl rfl (Nat.le_refl _) (by decide) ?_
       refine OD.callX (wants_plain rfl) rfl rfl rfl Tryd.call44 (must_vx l hl [⟨#[70, 82, 79, 77]⟩] (by decide) (p + 1) ad n cap br) ⟨ot, by exact rfl, trivial⟩ (List.Perm.refl _) (fun ch hch => (Or.inr ⟨ch, rfl, by obtain ⟨q, e, h1, h2⟩ := hch; exact ⟨q, e, hR21.trans (by rw [h1]; rfl), h2⟩⟩ : BodyX _ _ _ _ _ _)) ?_
       rintro _ _ ⟨p22, hr22, rfl⟩
       refine OD.perm (S' := ⟨br, 70, 3, [.list 3 (l.flatMap cT) l.length, .v (.int .i64 ((p22 : Nat) : Int)), .v (.slice ad n cap)]⟩ :: [⟨b3, 32, 12, [_, _, _, _, _, _, _, _, _, _, _, _]⟩, ⟨b2, 32, 12, [_, _, _, _, _, _, _, _, _, _, _, _]⟩]) (List.Perm.refl _) ?_
       have hp22 := (must_le (hr22 []) (isQ_lt e5t)).2.1
       have hR22 : R = (nameP l p22 os).bind (fun t p ops => (whereP l p ops).bind (fun w p ops => .ok { st0 with kind := 6, table := t, wher := w } p ops)) := hR21.trans (by rw [hr22]; rfl)
       refine OD.wk (Wk.as_ (n := 99) (l' := [(0, _), (2, _), (3, _)]) (S' := [⟨br, 70, 3, [_, _, _]⟩, ⟨b3, 32, 12, [_, _, _, _, _, _, _, _, _, _, _, _]⟩, ⟨b2, 32, 12, [_, _, _, _, _, _, _, _, _, _, _, _]⟩]) rfl rfl ⟨lk, lk, lk, trivial⟩) ?_
       refine OD.nil ?_
       refine sr_ ?_
       refine os_ mv_ ?_
       refine OD.callX (wants_plain rfl) rfl rfl rfl Tryd.call45 (name_vx hm hw l hl ht p22 ad n cap br) ⟨ot, trivial⟩ (List.Perm.refl _) (fun ch hch => (Or.inr ⟨ch, rfl, by obtain ⟨q, e, h1, h2⟩ := hch; exact ⟨q, e, hR22.trans (by rw [h1]; rfl), h2⟩⟩ : BodyX _ _ _ _ _ _)) ?_
       rintro _ _ ⟨t, hr23, rfl, rfl⟩
       refine OD.perm (S' := ⟨br, 70, 3, [.list 3 (l.flatMap cT) l.length, .v (.int .i64 (((p22 + 1) : Nat) : Int)), .v (.slice ad n cap)]⟩ :: [⟨b3, 32, 12, [_, _, _, _, _, _, _, _, _, _, _, _]⟩, ⟨b2, 32, 12, [_, _, _, _, _, _, _, _, _, _, _, _]⟩]) (List.Perm.refl _) ?_
       have hlt23 := (name_le (hr23 [])).2.2
       have hR23 : R = (whereP l (p22 + 1) os).bind (fun w p ops => .ok { st0 with kind := 6, table := t, wher := w } p ops) := hR22.trans (by rw [hr23]; rfl)
       refine os_ (fa_ 0) ?_
       refine OD.store (k := 1) (cs' := [_, _, _, _, _, _, _, _, _, _, _, _]) (wants_plain rfl) rfl rfl ot rfl rfl opd_const rfl rfl Tryd.sizeOf3 rfl rfl rfl ?_
       refine os_ (fa_ 1) ?_
       refine OD.store (k := 1) (cs' := [_, _, _, _, _, _, _, _, _, _, _, _]) (wants_plain rfl) rfl rfl ot rfl rfl ot rfl rfl Tryd.sizeOf9 rfl rfl rfl ?_
       refine OD.wk (Wk.as_ (n := 99) (l' := [(0, _), (2, _), (3, _)]) (S' := [⟨br, 70, 3, [_, _, _]⟩, ⟨b3, 32, 12, [_, _, _, _, _, _, _, _, _, _, _, _]⟩, ⟨b2, 32, 12, [_, _, _, _, _, _, _, _, _, _, _, _]⟩]) rfl rfl ⟨lk, lk, lk, trivial⟩) ?_
       refine OD.nil ?_
       refine CD.region ?_
       refine os_ mv_ ?_
       have hs24 := (ns_where : whereP l (p22 + 1) os ≠ .stuck)
       refine OD.callX (wants_plain rfl) rfl rfl rfl Tryd.call51 (where_vx hl hm hw hk ht (p22 + 1) hlt23 os _ rfl hs24 ad n cap) ⟨ot, trivial⟩ (List.Perm.refl _) (fun ch hch => (Or.inr ⟨ch, rfl, by obtain ⟨q, e, h1, h2⟩ := hch; exact ⟨q, e, hR23.trans (by rw [h1]; rfl), h2⟩⟩ : BodyX _ _ _ _ _ _)) ?_
       rintro _ _ ⟨w, p24, o24, ad24, n24, cap24, hr24, ⟨rfl, hv24⟩, hp24, rfl⟩
       refine OD.perm (S' := ⟨br, 70, 3, [.list 3 (l.flatMap cT) l.length, .v (.int .i64 ((p24 : Nat) : Int)), .v (.slice ad24 n24 cap24)]⟩ :: [⟨b3, 32, 12, [_, _, _, _, _, _, _, _, _, _, _, _]⟩, ⟨b2, 32, 12, [_, _, _, _, _, _, _, _, _, _, _, _]⟩]) (List.Perm.refl _) ?_
       have hR24 : R = .ok { st0 with kind := 6, table := t, wher := w } p24 o24 := hR23.trans (by rw [hr24]; rfl)
       refine os_ (fa_ 6) ?_
       refine OD.store (k := 1) (cs' := [_, _, _, _, _, _, _, _, _, _, _, _]) (wants_plain rfl) rfl rfl ot rfl rfl ot rfl rfl Tryd.sizeOf30 rfl rfl rfl ?_
       refine OD.wk (Wk.as_ (n := 99) (l' := [(2, _), (3, _)]) (S' := [⟨br, 70, 3, [_, _, _]⟩, ⟨b3, 32, 12, [_, _, _, _, _, _, _, _, _, _, _, _]⟩, ⟨b2, 32, 12, [_, _, _, _, _, _, _, _, _, _, _, _]⟩]) rfl rfl ⟨lk, lk, trivial⟩) ?_
       refine OD.nil ?_
       refine CD.seq ?_
       refine CD.cells (k := 1) (cs' := [_, _, _, _, .list 1 [] 0, _, _, _, _, _, _, _]) (S' := [⟨br, 70, 3, [.list 3 (l.flatMap cT) l.length, .v (.int .i64 ((p24 : Nat) : Int)), .v (.slice ad24 n24 cap24)]⟩, _, _]) rfl (by repeat (first | exact trivial | exact ⟨gv_rfl, trivial⟩ | exact ⟨gv_nil, trivial⟩ | refine ⟨gv_rfl, ?_⟩ | refine ⟨gv_nil, ?_⟩)) rfl ?_
       refine CD.region ?_
       refine os_ (lab_ 1 [_, _, _, _, _, _, _, _, _, _, _, _]) ?_
       refine OD.store (k := 2) (cs' := [_, _, _, _, _, _, _, _, _, _, _, _]) (wants_plain rfl) rfl rfl ot rfl rfl ot rfl rfl Tryd.sizeOf32 rfl rfl rfl ?_
       refine OD.wk (Wk.as_ (n := 99) (l' := [(2, _)]) (S' := [⟨br, 70, 3, [_, _, _]⟩, ⟨b3, 32, 12, [_, _, _, _, _, _, _, _, _, _, _, _]⟩, ⟨b2, 32, 12, [_, _, _, _, _, _, _, _, _, _, _, _]⟩]) rfl rfl ⟨lk, trivial⟩) ?_
       refine OD.nil ?_
       refine CD.ret ?_
       refine Or.inl ?_
       refine ⟨.inr rfl, _, [⟨br, 70, 3, [.list 3 (l.flatMap cT) l.length, .v (.int .i64 ((p24 : Nat) : Int)), .v (.slice ad24 n24 cap24)]⟩], (by repeat (first | exact List.Sublist.refl _ | exact List.nil_sublist _ | apply List.Sublist.cons_cons | apply List.Sublist.cons)), ret_one Tryd.results25 (res_cells (k := 2) (ds := [_, _, _, _, _, _, _, _, _, _, _, _]) (Nat.le_of_ble_eq_true rfl) lk rfl rfl Tryd.isAgg32 Tryd.sizeOf32 rfl rfl), ?_⟩
       exact ⟨{ st0 with kind := 6, table := t, wher := w }, p24, o24, _, _, _, hR24, ⟨rfl, ⟨Nat.zero_le _, Nat.zero_le _, Nat.zero_le _, hv24, Nat.zero_le _⟩⟩, hp24, rfl⟩
      ·have hc5' := hc5
       (try simp only [V.cnd, ne_eq] at hc5')
       have e5f : isQ l p 1 ⟨#[68, 69, 76, 69, 84, 69]⟩ = false := hc5
       rw [e5f]
       simp only [Bool.false_eq_true, if_false]
       refine sr_ ?_
       refine os_ mv_ ?_
       refine OD.call (wants_plain rfl) rfl rfl rfl Tryd.call43 (eat_vc l hl p 1 ⟨#[66, 69, 71, 73, 78]⟩ ad n cap br) ⟨ot, opd_const, opd_const, trivial⟩ (List.Perm.refl _) ?_
       rintro _ _ ⟨rfl, rfl⟩
       refine OD.perm (S' := ⟨br, 70, 3, [.list 3 (l.flatMap cT) l.length, .v (.int .i64 (((if isQ l p 1 ⟨#[66, 69, 71, 73, 78]⟩ = true then p + 1 else p) : Nat) : Int)), .v (.slice ad n cap)]⟩ :: [⟨b3, 32, 12, [_, _, _, _, _, _, _, _, _, _, _, _]⟩, ⟨b2, 32, 12, [_, _, _, _, _, _, _, _, _, _, _, _]⟩]) (List.Perm.refl _) ?_
       refine os_ mv_ ?_
       refine OD.wk (Wk.as_ (n := 99) (l' := [(0, _), (2, _), (3, _), (86, _)]) (S' := [⟨br, 70, 3, [_, _, _]⟩, ⟨b3, 32, 12, [_, _, _, _, _, _, _, _, _, _, _, _]⟩, ⟨b2, 32, 12, [_, _, _, _, _, _, _, _, _, _, _, _]⟩]) rfl rfl ⟨lk, lk, lk, lk, trivial⟩) ?_
       refine OD.nil ?_
       refine CD.cond ot (fun hc6 => ?_) (fun hc6 => ?_)
       ·have hc6' := hc6
        (try simp only [V.cnd, ne_eq] at hc6')
        have e6t : isQ l p 1 ⟨#[66, 69, 71, 73, 78]⟩ = true := hc6
        rw [e6t]
        simp only [if_true]
        have hR25 : R = .ok { st0 with kind := 7 } (p + 1) os := hR.trans (by unfold stP; rw [if_neg (F_ e0f), if_neg (F_ e1f), if_neg (F_ e2f), if_neg (F_ e3f), if_neg (F_ e4f), if_neg (F_ e5f), if_pos e6t])
        refine CD.region ?_
        refine os_ (fa_ 0) ?_
        refine OD.store (k := 1) (cs' := [_, _, _, _, _, _, _, _, _, _, _, _]) (wants_plain rfl) rfl rfl ot rfl rfl opd_const rfl rfl Tryd.sizeOf3 rfl rfl rfl ?_
        refine OD.wk (Wk.as_ (n := 99) (l' := [(2, _), (3, _)]) (S' := [⟨br, 70, 3, [_, _, _]⟩, ⟨b3, 32, 12, [_, _, _, _, _, _, _, _, _, _, _, _]⟩, ⟨b2, 32, 12, [_, _, _, _, _, _, _, _, _, _, _, _]⟩]) rfl rfl ⟨lk, lk, trivial⟩) ?_
        refine OD.nil ?_
        refine CD.seq ?_
        refine CD.cells (k := 1) (cs' := [_, _, _, _, .list 1 [] 0, _, _, _, _, _, _, _]) (S' := [⟨br, 70, 3, [.list 3 (l.flatMap cT) l.length, .v (.int .i64 (((p + 1) : Nat) : Int)), .v (.slice ad n cap)]⟩, _, _]) rfl (by repeat (first | exact trivial | exact ⟨gv_rfl, trivial⟩ | exact ⟨gv_nil, trivial⟩ | refine ⟨gv_rfl, ?_⟩ | refine ⟨gv_nil, ?_⟩)) rfl ?_
        refine CD.region ?_
        refine os_ (lab_ 1 [_, _, _, _, _, _, _, _, _, _, _, _]) ?_
        refine OD.store (k := 2) (cs' := [_, _, _, _, _, _, _, _, _, _, _, _]) (wants_plain rfl) rfl rfl ot rfl rfl ot rfl rfl Tryd.sizeOf32 rfl rfl rfl ?_
        refine OD.wk (Wk.as_ (n := 99) (l' := [(2, _)]) (S' := [⟨br, 70, 3, [_, _, _]⟩, ⟨b3, 32, 12, [_, _, _, _, _, _, _, _, _, _, _, _]⟩, ⟨b2, 32, 12, [_, _, _, _, _, _, _, _, _, _, _, _]⟩]) rfl rfl ⟨lk, trivial⟩) ?_
        refine OD.nil ?_
        refine CD.ret ?_
        refine Or.inl ?_
        refine ⟨.inr rfl, _, [⟨br, 70, 3, [.list 3 (l.flatMap cT) l.length, .v (.int .i64 (((p + 1) : Nat) : Int)), .v (.slice ad n cap)]⟩], (by repeat (first | exact List.Sublist.refl _ | exact List.nil_sublist _ | apply List.Sublist.cons_cons | apply List.Sublist.cons)), ret_one Tryd.results25 (res_cells (k := 2) (ds := [_, _, _, _, _, _, _, _, _, _, _, _]) (Nat.le_of_ble_eq_true rfl) lk rfl rfl Tryd.isAgg32 Tryd.sizeOf32 rfl rfl), ?_⟩
        exact ⟨{ st0 with kind := 7 }, (p + 1), os, _, _, _, hR25, ⟨rfl, ⟨Nat.zero_le _, Nat.zero_le _, Nat.zero_le _, Nat.zero_le _, Nat.zero_le _⟩⟩, (isQ_lt e6t), rfl⟩
       ·have hc6' := hc6
        (try simp only [V.cnd, ne_eq] at hc6')
        have e6f : isQ l p 1 ⟨#[66, 69, 71, 73, 78]⟩ = false := hc6
        rw [e6f]
        simp only [Bool.false_eq_true, if_false]
        refine sr_ ?_
        refine os_ mv_ ?_
        refine OD.call (wants_plain rfl) rfl rfl rfl Tryd.call43 (eat_vc l hl p 1 ⟨#[67, 79, 77, 77, 73, 84]⟩ ad n cap br) ⟨ot, opd_const, opd_const, trivial⟩ (List.Perm.refl _) ?_
        rintro _ _ ⟨rfl, rfl⟩
        refine OD.perm (S' := ⟨br, 70, 3, [.list 3 (l.flatMap cT) l.length, .v (.int .i64 (((if isQ l p 1 ⟨#[67, 79, 77, 77, 73, 84]⟩ = true then p + 1 else p) : Nat) : Int)), .v (.slice ad n cap)]⟩ :: [⟨b3, 32, 12, [_, _, _, _, _, _, _, _, _, _, _, _]⟩, ⟨b2, 32, 12, [_, _, _, _, _, _, _, _, _, _, _, _]⟩]) (List.Perm.refl _) ?_
        refine os_ mv_ ?_
        refine OD.wk (Wk.as_ (n := 99) (l' := [(0, _), (2, _), (3, _), (90, _)]) (S' := [⟨br, 70, 3, [_, _, _]⟩, ⟨b3, 32, 12, [_, _, _, _, _, _, _, _, _, _, _, _]⟩, ⟨b2, 32, 12, [_, _, _, _, _, _, _, _, _, _, _, _]⟩]) rfl rfl ⟨lk, lk, lk, lk, trivial⟩) ?_
        refine OD.nil ?_
        refine CD.cond ot (fun hc7 => ?_) (fun hc7 => ?_)
        ·have hc7' := hc7
         (try simp only [V.cnd, ne_eq] at hc7')
         have e7t : isQ l p 1 ⟨#[67, 79, 77, 77, 73, 84]⟩ = true := hc7
         rw [e7t]
         simp only [if_true]
         have hR26 : R = .ok { st0 with kind := 8 } (p + 1) os := hR.trans (by unfold stP; rw [if_neg (F_ e0f), if_neg (F_ e1f), if_neg (F_ e2f), if_neg (F_ e3f), if_neg (F_ e4f), if_neg (F_ e5f), if_neg (F_ e6f), if_pos e7t])
         refine CD.region ?_
         refine os_ (fa_ 0) ?_
         refine OD.store (k := 1) (cs' := [_, _, _, _, _, _, _, _, _, _, _, _]) (wants_plain rfl) rfl rfl ot rfl rfl opd_const rfl rfl Tryd.sizeOf3 rfl rfl rfl ?_
         refine OD.wk (Wk.as_ (n := 99) (l' := [(2, _), (3, _)]) (S' := [⟨br, 70, 3, [_, _, _]⟩, ⟨b3, 32, 12, [_, _, _, _, _, _, _, _, _, _, _, _]⟩, ⟨b2, 32, 12, [_, _, _, _, _, _, _, _, _, _, _, _]⟩]) rfl rfl ⟨lk, lk, trivial⟩) ?_
         refine OD.nil ?_
         refine CD.seq ?_
         refine CD.cells (k := 1) (cs' := [_, _, _, _, .list 1 [] 0, _, _, _, _, _, _, _]) (S' := [⟨br, 70, 3, [.list 3 (l.flatMap cT) l.length, .v (.int .i64 (((p + 1) : Nat) : Int)), .v (.slice ad n cap)]⟩, _, _]) rfl (by repeat (first | exact trivial | exact ⟨gv_rfl, trivial⟩ | exact ⟨gv_nil, trivial⟩ | refine ⟨gv_rfl, ?_⟩ | refine ⟨gv_nil, ?_⟩)) rfl ?_
         refine CD.region ?_
         refine os_ (lab_ 1 [_, _, _, _, _, _, _, _, _, _, _, _]) ?_
         refine OD.store (k := 2) (cs' := [_, _, _, _, _, _, _, _, _, _, _, _]) (wants_plain rfl) rfl rfl ot rfl rfl ot rfl rfl Tryd.sizeOf32 rfl rfl rfl ?_
         refine OD.wk (Wk.as_ (n := 99) (l' := [(2, _)]) (S' := [⟨br, 70, 3, [_, _, _]⟩, ⟨b3, 32, 12, [_, _, _, _, _, _, _, _, _, _, _, _]⟩, ⟨b2, 32, 12, [_, _, _, _, _, _, _, _, _, _, _, _]⟩]) rfl rfl ⟨lk, trivial⟩) ?_
         refine OD.nil ?_
         refine CD.ret ?_
         refine Or.inl ?_
         refine ⟨.inr rfl, _, [⟨br, 70, 3, [.list 3 (l.flatMap cT) l.length, .v (.int .i64 (((p + 1) : Nat) : Int)), .v (.slice ad n cap)]⟩], (by repeat (first | exact List.Sublist.refl _ | exact List.nil_sublist _ | apply List.Sublist.cons_cons | apply List.Sublist.cons)), ret_one Tryd.results25 (res_cells (k := 2) (ds := [_, _, _, _, _, _, _, _, _, _, _, _]) (Nat.le_of_ble_eq_true rfl) lk rfl rfl Tryd.isAgg32 Tryd.sizeOf32 rfl rfl), ?_⟩
         exact ⟨{ st0 with kind := 8 }, (p + 1), os, _, _, _, hR26, ⟨rfl, ⟨Nat.zero_le _, Nat.zero_le _, Nat.zero_le _, Nat.zero_le _, Nat.zero_le _⟩⟩, (isQ_lt e7t), rfl⟩
        ·have hc7' := hc7
         (try simp only [V.cnd, ne_eq] at hc7')
         have e7f : isQ l p 1 ⟨#[67, 79, 77, 77, 73, 84]⟩ = false := hc7
         rw [e7f]
         simp only [Bool.false_eq_true, if_false]
         refine sr_ ?_
         refine os_ mv_ ?_
         refine OD.call (wants_plain rfl) rfl rfl rfl Tryd.call43 (eat_vc l hl p 1 ⟨#[82, 79, 76, 76, 66, 65, 67, 75]⟩ ad n cap br) ⟨ot, opd_const, opd_const, trivial⟩ (List.Perm.refl _) ?_
         rintro _ _ ⟨rfl, rfl⟩
         refine OD.perm (S' := ⟨br, 70, 3, [.list 3 (l.flatMap cT) l.length, .v (.int .i64 (((if isQ l p 1 ⟨#[82, 79, 76, 76, 66, 65, 67, 75]⟩ = true then p + 1 else p) : Nat) : Int)), .v (.slice ad n cap)]⟩ :: [⟨b3, 32, 12, [_, _, _, _, _, _, _, _, _, _, _, _]⟩, ⟨b2, 32, 12, [_, _, _, _, _, _, _, _, _, _, _, _]⟩]) (List.Perm.refl _) ?_
         refine os_ mv_ ?_
         refine OD.wk (Wk.as_ (n := 99) (l' := [(0, _), (2, _), (3, _), (94, _)]) (S' := [⟨br, 70, 3, [_, _, _]⟩, ⟨b3, 32, 12, [_, _, _, _, _, _, _, _, _, _, _, _]⟩, ⟨b2, 32, 12, [_, _, _, _, _, _, _, _, _, _, _, _]⟩]) rfl rfl ⟨lk, lk, lk, lk, trivial⟩) ?_
         refine OD.nil ?_
         refine CD.cond ot (fun hc8 => ?_) (fun hc8 => ?_)
         ·have hc8' := hc8
          (try simp only [V.cnd, ne_eq] at hc8')
          have e8t : isQ l p 1 ⟨#[82, 79, 76, 76, 66, 65, 67, 75]⟩ = true := hc8
          rw [e8t]
          simp only [if_true]
          have hR27 : R = .ok { st0 with kind := 9 } (p + 1) os := hR.trans (by unfold stP; rw [if_neg (F_ e0f), if_neg (F_ e1f), if_neg (F_ e2f), if_neg (F_ e3f), if_neg (F_ e4f), if_neg (F_ e5f), if_neg (F_ e6f), if_neg (F_ e7f), if_pos e8t])
          refine CD.region ?_
          refine os_ (fa_ 0) ?_
          refine OD.store (k := 1) (cs' := [_, _, _, _, _, _, _, _, _, _, _, _]) (wants_plain rfl) rfl rfl ot rfl rfl opd_const rfl rfl Tryd.sizeOf3 rfl rfl rfl ?_
          refine OD.wk (Wk.as_ (n := 99) (l' := [(2, _), (3, _)]) (S' := [⟨br, 70, 3, [_, _, _]⟩, ⟨b3, 32, 12, [_, _, _, _, _, _, _, _, _, _, _, _]⟩, ⟨b2, 32, 12, [_, _, _, _, _, _, _, _, _, _, _, _]⟩]) rfl rfl ⟨lk, lk, trivial⟩) ?_
          refine OD.nil ?_
          refine CD.seq ?_
          refine CD.cells (k := 1) (cs' := [_, _, _, _, .list 1 [] 0, _, _, _, _, _, _, _]) (S' := [⟨br, 70, 3, [.list 3 (l.flatMap cT) l.length, .v (.int .i64 (((p + 1) : Nat) : Int)), .v (.slice ad n cap)]⟩, _, _]) rfl (by repeat (first | exact trivial | exact ⟨gv_rfl, trivial⟩ | exact ⟨gv_nil, trivial⟩ | refine ⟨gv_rfl, ?_⟩ | refine ⟨gv_nil, ?_⟩)) rfl ?_
          refine CD.region ?_
          refine os_ (lab_ 1 [_, _, _, _, _, _, _, _, _, _, _, _]) ?_
          refine OD.store (k := 2) (cs' := [_, _, _, _, _, _, _, _, _, _, _, _]) (wants_plain rfl) rfl rfl ot rfl rfl ot rfl rfl Tryd.sizeOf32 rfl rfl rfl ?_
          refine OD.wk (Wk.as_ (n := 99) (l' := [(2, _)]) (S' := [⟨br, 70, 3, [_, _, _]⟩, ⟨b3, 32, 12, [_, _, _, _, _, _, _, _, _, _, _, _]⟩, ⟨b2, 32, 12, [_, _, _, _, _, _, _, _, _, _, _, _]⟩]) rfl rfl ⟨lk, trivial⟩) ?_
          refine OD.nil ?_
          refine CD.ret ?_
          refine Or.inl ?_
          refine ⟨.inr rfl, _, [⟨br, 70, 3, [.list 3 (l.flatMap cT) l.length, .v (.int .i64 (((p + 1) : Nat) : Int)), .v (.slice ad n cap)]⟩], (by repeat (first | exact List.Sublist.refl _ | exact List.nil_sublist _ | apply List.Sublist.cons_cons | apply List.Sublist.cons)), ret_one Tryd.results25 (res_cells (k := 2) (ds := [_, _, _, _, _, _, _, _, _, _, _, _]) (Nat.le_of_ble_eq_true rfl) lk rfl rfl Tryd.isAgg32 Tryd.sizeOf32 rfl rfl), ?_⟩
          exact ⟨{ st0 with kind := 9 }, (p + 1), os, _, _, _, hR27, ⟨rfl, ⟨Nat.zero_le _, Nat.zero_le _, Nat.zero_le _, Nat.zero_le _, Nat.zero_le _⟩⟩, (isQ_lt e8t), rfl⟩
         ·have hc8' := hc8
          (try simp only [V.cnd, ne_eq] at hc8')
          have e8f : isQ l p 1 ⟨#[82, 79, 76, 76, 66, 65, 67, 75]⟩ = false := hc8
          rw [e8f]
          simp only [Bool.false_eq_true, if_false]
          have hR28 : R = gv l p 6 := hR.trans (by unfold stP; rw [if_neg (F_ e0f), if_neg (F_ e1f), if_neg (F_ e2f), if_neg (F_ e3f), if_neg (F_ e4f), if_neg (F_ e5f), if_neg (F_ e6f), if_neg (F_ e7f), if_neg (F_ e8f)])
          refine CD.region ?_
          refine os_ mv_ ?_
          exact OD.callX (wants_plain rfl) rfl rfl rfl Tryd.call26 (give_vx l hl p 6 ad n cap br) ⟨ot, opd_const, trivial⟩ (List.Perm.refl _) (fun ch hch => (Or.inr ⟨ch, rfl, ⟨_, _, hR28, hch⟩⟩ : BodyX _ _ _ _ _ _)) (fun r S' h => h.elim)

end Go.Proofs.YtjgekbmahhhokaaDoor.Pa

namespace Go.Proofs.YtjgekbmahhhokaaDoor.V
open Go.RowKit
set_option linter.unusedVariables false
set_option linter.unusedSimpArgs false

variable {P : Program} {C : Ctx} {G : List (Nat × List Value)} {Q : Exit → St → Prop} {x y : St} {R : Exit → Act → World → Prop}

theorem flat_vals {w : World} {L : Nat → Prop} {vs us : List Value} (hl : us.length = (vs.map D.v).length) (h : ∀ i (h : i < (vs.map D.v).length) (h' : i < us.length), Rep w L (vs.map D.v)[i] us[i]) : us = vs := by
 rw [List.length_map] at hl
 apply List.ext_getElem hl
 intro i h1 h2
 have := h i (by simpa using h2) h1
 simp only [List.getElem_map] at this
 exact this.v_eq
theorem KD.seqC {c d : Code} {Q1 : Exit → St → Prop} (hesc : ∀ a w, ¬ C.esc a w) (h : CD P C c x Q1) (hn : ∀ y, Q1 .normal y → KD P C d y R) (ho : ∀ e a w y, e ≠ .normal → Sim C y a w → Q1 e y → R e a w) : KD P C (.seq c d) x R := KD.seq (KD.of h fun e a w hq => by
 rcases hq with ⟨y, hs, hq⟩ | ⟨_, he⟩
 ·cases e with
  | normal => exact hn y hq a w hs
  | exit _ => exact ho _ a w y (by intro h; cases h) hs hq
  | goto _ => exact ho _ a w y (by intro h; cases h) hs hq
  | ret => exact ho _ a w y (by intro h; cases h) hs hq
  | panic _ => exact ho _ a w y (by intro h; cases h) hs hq
  | outgrown => exact ho _ a w y (by intro h; cases h) hs hq
 ·exact (hesc _ _ he).elim)

/-- What a frame without deferred calls leaves. -/
theorem leave_ret {X : Nat → Prop} {w0 : World} {S : List Blk} {esc : Act → World → Prop} {a : Act} {w : World} {fn : Func} {post : D → List Blk → Prop} (h : Sim ⟨X, w0, bks S, G, [], esc⟩ y a w) (hb : ∃ r S', S'.Sublist y.S ∧ Ret P fn y r ∧ post r S') :
    LeavesInM Fence.wide 0 P fn a.tmps (EndV post X w0 S) a.defers .returning w := by
  rw [h.defers]
  obtain ⟨r, S', hsub, hret, hpost⟩ := hb
  obtain ⟨v, q1, q2⟩ := hret _ a w h
  have hsb : (bks S').Sublist (bks y.S) := List.Sublist.map _ hsub
  exact ⟨v, q2, v, r, S', rfl, hpost, h.own.sub hsub, q1.mono fun b _ hn => ⟨rfl, fun hl => hn (hl.imp id fun q => hsb.subset q)⟩,
    ⟨h.fr.os, h.fr.tape, h.fr.output, h.fr.size, fun b hb' hn => ⟨(h.fr.block b hb' hn).1, fun q => (h.fr.block b hb' hn).2 (hsb.subset q)⟩⟩⟩

/-- The deferred call of a closure. -/
def defd (g : FuncId) (vs : List Value) : Deferred := { target := .fn (.func g) vs.toArray, args := #[] }
theorem KD.defer {id t : Nat} {g : FuncId} {o1 o2 : Oper} {vs : List Value} {rest : Code} {k : Rd} {ts : Array TypeId} (hg1 : o1.guard = none) (hg2 : o2.guard = none) (h1 : Still P C.G x o1 k (.clo (.func g) (vs.map .v))) (hd1 : o1.dst = some t) (ho2 : o2.op = .defer { callee := .value (.tmp t), args := #[], argTypes := ts }) (hd2 : o2.dst = none) (ht : Nat.blt t x.n = true)
  (K : KD P ⟨C.X, C.w0, C.S0, C.G, defd g vs :: C.df, C.esc⟩ rest ⟨x.n, (t, .clo (.func g) (vs.map .v)) :: x.env, x.S⟩ R) : KD P C (.seq (.region id [o1, o2].toArray false) rest) x R := KD.seq fun a w hs => wp_region_lit (by
 unfold wpList
 rw [if_pos (wants_plain hg1 C a w hs)]
 refine .inl (h1.eff hd1 _ _ _ _ _ rfl hs fun y a' w' hy hs' _ _ => ?_)
 subst hy
 unfold wpList
 rw [if_pos (wants_plain hg2 C a' w' hs')]
 refine .inl ?_
 have hev : a'.eval (.tmp t) = .func (.func g) #[] vs.toArray := by
  have := hs'.eval (.tmp t)
  have ho : opd (x.put t (.clo (.func g) (vs.map .v))) (.tmp t) = .clo (.func g) (vs.map .v) := by simp [opd, St.put, ht, look_cons]
  rw [ho] at this
  generalize a'.eval (.tmp t) = u at this
  cases this with
  | clo _ _ us hl hr => rw [flat_vals hl hr]
 have hrun : (execOp a'.eval o2).run P w' = .ok (.defer (defd g vs)) w' := by
  unfold execOp
  simp only [ho2, resolve, hev, Deferred.ofValue, Sem.run_bind, Sem.run_pure, Result.andThen_ok]
  simp [defd]
 unfold Oper.wp
 rw [hrun, Oper.upon_defer, hd2]
 exact K _ w' ⟨congrArg (defd g vs :: ·) hs'.defers, hs'.size, hs'.env, hs'.own, hs'.fr, hs'.ex, hs'.tab⟩)

theorem gv_tup {a b : List D} (h : Gvs a b) : Gv (.tup a) (.tup b) := fun w L v hr => by
 obtain ⟨h1, h2⟩ := h.spec
 cases hr with
 | tup _ vs hl hq => exact .tup b vs (by omega) fun i q q' => h2 i (by omega) q _ _ _ (hq i (by omega) q')
theorem Ret.gv {fn : Func} {r r' : D} (h : Ret P fn y r) (g : Gv r r') : Ret P fn y r' := fun C a w hs => let ⟨v, h1, h2⟩ := h C a w hs; ⟨v, g _ _ _ h1, h2⟩
theorem repL_flat {w : World} {L : Nat → Prop} (vs : List Value) : RepL w L (vs.map D.v) vs := ⟨by simp, fun i h h' => by rw [List.getElem_map]; exact .v _⟩
theorem still_tassert {G : List (Nat × List Value)} {o : Oper} {xt te : TypeId} {y : Operand} {vs : List Value} {fs : Array Field} (ho : o.op = .typeAssert y xt te false) (hy : opd x y = .v (.iface te (.agg vs.toArray))) (hu : P.underlying te = some (.struct fs)) : Still P G x o .none (.agg (vs.map .v)) := fun C a w _ h =>
 ⟨_, .agg _ vs (by simp) (fun i h h' => by rw [List.getElem_map]; exact .v _), fun w' _ => by
  unfold execOp
  simp [ho, h.flat hy, Instr.typeAssert, run_underlying hu]⟩
theorem wants_none {ops : Array Oper} {o : Oper} (h : o.guard = none) (a : Act) : Region.wanted o (yielded ops a.tmps) = true := by simp [Region.wanted, h]
/-- A closure that begins with recover. -/
theorem VDf.recover {g : FuncId} {fn : Func} {n id t0 t1 : Nat} {o0 o1 : Oper} {rest : Code} {caps : List D} {S : List Blk} {pc : List Blk → Prop} {u u' : FrameMode} {v : Value} {ts : Array TypeId} (hf : P.funcs[g]? = some fn) (hb : fn.body = some (.seq (.region id #[o0, o1] false) rest)) (hn : fn.ntmps = n) (hr : fn.results = #[]) (hl : caps.length ≤ n)
    (hg0 : o0.guard = none) (hg1 : o1.guard = none) (ho0 : o0.op = .call { callee := .builtin .recover, args := #[], argTypes := ts }) (hd0 : o0.dst = some t0) (ho1 : o1.op = .assign (.tmp t0)) (hd1 : o1.dst = some t1) (ht0 : t0 < n)
    (hrec : ∀ c0 cs, c0.mode = u → (recoverD (c0 :: cs) = some (v, { c0 with mode := u' } :: cs)) ∨ (recoverD (c0 :: cs) = none ∧ v = .nilIface ∧ u' = u))
    (K : ∀ X w0, CD P ⟨X, w0, bks S, G, [], fun _ _ => False⟩ rest ⟨n, (t1, .v v) :: (t0, .v v) :: envOf 0 caps, S⟩ (fun e y => e = .normal ∧ pc y.S)) : VDf P G g caps S u u' pc := fun X w vs hp => by
  have hvl : vs.length = caps.length := hp.args.1
  have hsim : Sim ⟨X, w, bks S, G, [], fun _ _ => False⟩ ⟨n, envOf 0 caps, S⟩ { tmps := vs.toArray ++ Array.replicate (fn.ntmps - vs.toArray.size) undef, defers := [] } w := by
    refine ⟨rfl, by simp [hn]; omega, fun t ht => ?_, hp.own, Fr.refl _ _, hp.ex, hp.tab⟩
    simp only [look_envOf, Nat.zero_le, if_true, Nat.sub_zero]
    by_cases hlt : t < caps.length
    · have e1 : caps.getD t .junk = caps[t] := by simp [List.getD, hlt]
      have e2 : (vs.toArray ++ Array.replicate (fn.ntmps - vs.toArray.size) undef).getD t undef = vs[t]'(by omega) := by
        rw [Array.getD_eq_getD_getElem?, Array.getElem?_append_left (by simp; omega)]
        simp [show t < vs.length by omega]
      rw [e1, e2]
      exact hp.args.2 t hlt (by omega)
    · have e1 : caps.getD t .junk = .junk := by simp [List.getD, List.getElem?_eq_none (show caps.length ≤ t by omega)]
      rw [e1]; exact .junk _
  generalize hA : ({ tmps := vs.toArray ++ Array.replicate (fn.ntmps - vs.toArray.size) undef, defers := [] } : Act) = A at hsim
  refine callsDIn_of_wpSIn hf hb trivial fun c0 cs hu => wpSIn_seq (wpSIn_region ?_)
  rw [hA]
  have hrun0 : (execOp A.eval o0).run P w = .ok .recover w := by
    unfold execOp
    simp [ho0, resolve, invoke, builtin]
  have hs2 : Sim ⟨X, w, bks S, G, [], fun _ _ => False⟩ ⟨n, (t1, .v v) :: (t0, .v v) :: envOf 0 caps, S⟩ ((A.put (some t0) v).put (some t1) v) w := (hsim.put (t := t0) (Rep.v v)).put (t := t1) (Rep.v v)
  have hev : (A.put (some t0) v).eval (.tmp t0) = v := by
    have := (hsim.put (t := t0) (Rep.v v)).flat (o := .tmp t0) (u := v) (by
      have : Nat.blt t0 n = true := by simp [Nat.blt]; omega
      simp [opd, St.put, look_cons, this])
    exact this
  have hrun1 : (execOp (A.put (some t0) v).eval o1).run P w = .ok (.value v) w := by
    unfold execOp
    simp [ho1, hev]
  have key : ∀ cs', cs' = { c0 with mode := u' } :: cs → wpOpsSIn Fence.wide 0 P #[o0, o1] (Exit.thenS (rest.wpSIn Fence.wide 0 P (bodyPostS P fn c0 cs fun e u2 w' => (∃ v, e = .returned v) ∧ u2 = u' ∧ ∃ S', pc S' ∧ Own w' (live X S') S' ∧ Fr w (bks S) w' (bks S'))) (bodyPostS P fn c0 cs fun e u2 w' => (∃ v, e = .returned v) ∧ u2 = u' ∧ ∃ S', pc S' ∧ Own w' (live X S') S' ∧ Fr w (bks S) w' (bks S'))) [1] (A.put (some t0) v) cs' w := fun cs' hcs => by
    have e1 : (#[o0, o1] : Array Oper)[1]? = some o1 := rfl
    simp only [wpOpsSIn, e1]
    refine ⟨fun _ _ => trivial, ?_⟩
    rw [if_pos (wants_none hg1 _), hrun1, hd1]
    refine wpSIn_of_wpIn rfl (wpIn_wide.2 (wp_mono (K X w _ _ hs2) fun e a3 w3 hq => ?_))
    rcases hq with ⟨y, hy, rfl, hpc⟩ | ⟨_, he⟩
    · subst hcs
      refine ⟨hy.defers, u', rfl, .tuple #[], by unfold results; simp [hr], ⟨_, rfl⟩, rfl, y.S, hpc, hy.own, hy.fr⟩
    · exact he.elim
  have e0 : (#[o0, o1] : Array Oper)[0]? = some o0 := rfl
  show wpOpsSIn Fence.wide 0 P #[o0, o1] _ [0, 1] A (c0 :: cs) w
  rw [wpOpsSIn]
  simp only [e0]
  refine ⟨fun _ _ => trivial, ?_⟩
  rw [if_pos (wants_none hg0 _), hrun0, hd0]
  rcases hrec c0 cs hu with h | ⟨h, rfl, rfl⟩
  · rw [h]; exact key _ rfl
  · rw [h]; exact key _ (by subst hu; rfl)

end Go.Proofs.YtjgekbmahhhokaaDoor.V

namespace Go.Proofs.YtjgekbmahhhokaaDoor.Pa
open Go.RowKit V Pk Go.Proofs.YtjgekbmahhhokaaDoor.Vl Go.Proofs.YtjgekbmahhhokaaDoor.Nm
set_option linter.unusedVariables false
set_option linter.unusedSimpArgs false

variable {G : List (Nat × List Value)}
theorem bad_at {l : List Tk} {i : Nat} (h : i < l.length) (hq : badTk l 0 = badTk (l.drop i) i) (hc : checkT l[i] ≠ 0) : badTk l 0 = some (i, checkT l[i]) := by
 rw [hq, List.drop_eq_getElem_cons h, badTk, if_neg hc]
theorem bad_on {l : List Tk} {i : Nat} (h : i < l.length) (hq : badTk l 0 = badTk (l.drop i) i) (hc : checkT l[i] = 0) : badTk l 0 = badTk (l.drop (i + 1)) (i + 1) := by
 rw [hq, List.drop_eq_getElem_cons h, badTk, if_pos hc]
theorem bad_none : ∀ {l : List Tk} {i : Nat}, badTk l i = none → ∀ t ∈ l, checkT t = 0
 | [], _, _, t, h => by cases h
 | a :: r, i, h, t, ht => by
  unfold badTk at h
  split at h
  ·rename_i hc
   rcases List.mem_cons.1 ht with rfl | ht
   ·exact hc
   ·exact bad_none h t ht
  ·cases h
theorem num_pos {t : Tk} (h : checkT t = 0) (hk : t.k = 2) : 0 ≤ t.n := by
 unfold checkT at h
 rw [if_neg (by omega), if_pos hk] at h
 split at h
 ·cases h
 ·omega
theorem parse_big {l : List Tk} (h : l.length > 100) : parseF l = (stZ, 0, 10) := by unfold parseF; rw [if_pos h]
theorem parse_bad {l : List Tk} {i : Nat} {e : Int} (h : l.length ≤ 100) (hb : badTk l 0 = some (i, e)) : parseF l = (stZ, i, e) := by unfold parseF; rw [if_neg (by omega), hb]
theorem parse_no {l : List Tk} {p : Nat} {e : Int} (h : l.length ≤ 100) (hb : badTk l 0 = none) (hs : stP l 0 [] = .no p e) : parseF l = (stZ, p, e) := by unfold parseF; rw [if_neg (by omega), hb, hs]; rfl
theorem parse_ok {l : List Tk} {s : StL} {p : Nat} {os : List OpL} (h : l.length ≤ 100) (hb : badTk l 0 = none) (hs : stP l 0 [] = .ok s p os) (hp : ¬ p < l.length) : parseF l = (s, 0, 0) := by
 unfold parseF; rw [if_neg (by omega), hb, hs]; simp only [Rs.bind, if_neg hp]
theorem parse_more {l : List Tk} {s : StL} {p : Nat} {os : List OpL} (h : l.length ≤ 100) (hb : badTk l 0 = none) (hs : stP l 0 [] = .ok s p os) (hp : p < l.length) : parseF l = (stZ, p, if l.length ≤ p then 7 else 6) := by
 unfold parseF; rw [if_neg (by omega), hb, hs]; simp only [Rs.bind, if_pos hp, gv]
/-- What Parse hands back. -/
def dvP (r : StL × Nat × Int) : D := .tup [.agg (cSt r.1), .v (.int .i64 ((r.2.1 : Nat) : Int)), .v (.int .i64 r.2.2)]
theorem recoverD_ret (c0 : Frame) (cs : List Frame) (h : c0.mode = .returning) : (recoverD (c0 :: cs) = some (.nilIface, { c0 with mode := .returning } :: cs)) ∨ (recoverD (c0 :: cs) = none ∧ Value.nilIface = .nilIface ∧ FrameMode.returning = .returning) := .inr ⟨by simp [recoverD, h], rfl, rfl⟩
theorem recoverD_pan (v : Value) (c0 : Frame) (cs : List Frame) (h : c0.mode = .panicking [{ v := v, recovered := false }]) : (recoverD (c0 :: cs) = some (v, { c0 with mode := .panicking [{ v := v, recovered := true }] } :: cs)) ∨ (recoverD (c0 :: cs) = none ∧ v = .nilIface ∧ FrameMode.panicking [{ v := v, recovered := true }] = .panicking [{ v := v, recovered := false }]) := .inl (by simp [recoverD, h])

set_option maxHeartbeats 4000000 in
set_option maxRecDepth 100000 in
theorem cl_ret (b2 b3 b4 : Nat) (S : List Blk) : VDf Tryd.prog G 24 [.v (.pointer (some ⟨b2, 0, none⟩)), .v (.pointer (some ⟨b3, 0, none⟩)), .v (.pointer (some ⟨b4, 0, none⟩))] S .returning .returning (fun S' => S' = S) := by
 refine VDf.recover (v := .nilIface) Tryd.func24 rfl Tryd.ntmps24 Tryd.results24 (Nat.le_of_ble_eq_true rfl) rfl rfl rfl rfl rfl rfl (by decide) (fun c0 cs h => recoverD_ret c0 cs h) fun X0 w0 => ?_
 refine sr_ ?_
 refine os_ mv_ ?_
 refine OD.still (wants_plain rfl) rfl (still_errNo rfl ot Tryd.underlying20) ?_
 refine OD.wk (Wk.as_ (n := 15) (l' := [(0, _), (1, _), (2, _), (3, _), (7, _)]) (S' := S) rfl rfl ⟨lk, lk, lk, lk, lk, trivial⟩) ?_
 refine OD.nil ?_
 refine CD.cond ot (fun hc0 => ?_) (fun hc0 => ?_)
 ·exact absurd hc0 (by decide)
 ·have hc0' := hc0
  (try simp only [V.cnd, ne_eq] at hc0')
  refine CD.skip ?_
  exact ⟨rfl, rfl⟩

theorem places32_Pbc : ∀ w, ((#[{ name := "Kind", type := 3, offset := 0, embedded := false, tag := "", pkgPath := "", byteOffset := 0 }, { name := "Table", type := 9, offset := 1, embedded := false, tag := "", pkgPath := "", byteOffset := 8 }, { name := "Cols", type := 27, offset := 2, embedded := false, tag := "", pkgPath := "", byteOffset := 24 }, { name := "Row", type := 28, offset := 3, embedded := false, tag := "", pkgPath := "", byteOffset := 48 }, { name := "Names", type := 29, offset := 4, embedded := false, tag := "", pkgPath := "", byteOffset := 72 }, { name := "Count", type := 4, offset := 5, embedded := false, tag := "", pkgPath := "", byteOffset := 96 }, { name := "Where", type := 30, offset := 6, embedded := false, tag := "", pkgPath := "", byteOffset := 104 }, { name := "Order", type := 9, offset := 7, embedded := false, tag := "", pkgPath := "", byteOffset := 128 }, { name := "Down", type := 4, offset := 8, embedded := false, tag := "", pkgPath := "", byteOffset := 144 }, { name := "Limit", type := 3, offset := 9, embedded := false, tag := "", pkgPath := "", byteOffset := 152 }, { name := "Set", type := 9, offset := 10, embedded := false, tag := "", pkgPath := "", byteOffset := 160 }, { name := "To", type := 30, offset := 11, embedded := false, tag := "", pkgPath := "", byteOffset := 176 }] : Array Field).mapM fun f => do pure (f.offset, ← sizeOf f.type) : Sem (Array (Nat × Nat))).run Tryd.prog w = .ok #[(0, 1), (1, 1), (2, 1), (3, 1), (4, 1), (5, 1), (6, 1), (7, 1), (8, 1), (9, 1), (10, 1), (11, 1)] w := fun w => by simp [Tryd.sizeOf27, Tryd.sizeOf28, Tryd.sizeOf29, Tryd.sizeOf3, Tryd.sizeOf30, Tryd.sizeOf4, Tryd.sizeOf9]

set_option maxHeartbeats 4000000 in
set_option maxRecDepth 100000 in
theorem cl_pan0 (k2 k3 k4 p : Nat) (e : Int) (c4 c3 : D) (cs : List D) (hcs : cs.length = 12) : VDf Tryd.prog G 24 [.v (.pointer (some ⟨k2, 0, none⟩)), .v (.pointer (some ⟨k3, 0, none⟩)), .v (.pointer (some ⟨k4, 0, none⟩))] [⟨k4, 33, 1, [c4]⟩, ⟨k3, 3, 1, [c3]⟩, ⟨k2, 32, 12, cs⟩] (.panicking (wrC p e)) (.panicking [{ v := .iface 67 (.agg #[.int .i64 (p : Nat), .int .i64 e]), recovered := true }]) (fun S' => ∃ B, S' = [B, ⟨k4, 33, 1, [.v (.int .i64 e)]⟩, ⟨k3, 3, 1, [.v (.int .i64 ((p : Nat) : Int))]⟩, ⟨k2, 32, 12, [.v (.int .i64 0), .v (.string ⟨#[]⟩), .v (.slice none 0 0), .v (.slice none 0 0), .v (.slice none 0 0), .v (.bool false), .v (.slice none 0 0), .v (.string ⟨#[]⟩), .v (.bool false), .v (.int .i64 0), .v (.string ⟨#[]⟩), .v (.slice none 0 0)]⟩]) := by
 rcases cs with _ | ⟨x0, _ | ⟨x1, _ | ⟨x2, _ | ⟨x3, _ | ⟨x4, _ | ⟨x5, _ | ⟨x6, _ | ⟨x7, _ | ⟨x8, _ | ⟨x9, _ | ⟨x10, _ | ⟨x11, _ | ⟨x12, cs⟩⟩⟩⟩⟩⟩⟩⟩⟩⟩⟩⟩⟩ <;> first | (simp at hcs; done) | skip
 refine VDf.recover (v := .iface 67 (.agg #[.int .i64 (p : Nat), .int .i64 e])) Tryd.func24 rfl Tryd.ntmps24 Tryd.results24 (Nat.le_of_ble_eq_true rfl) rfl rfl rfl rfl rfl rfl (by decide) (fun c0 cs h => recoverD_pan _ c0 cs h) fun X0 w0 => ?_
 refine sr_ ?_
 refine os_ mv_ ?_
 refine OD.still (wants_plain rfl) rfl (still_errYes rfl ot Tryd.underlying20) ?_
 refine OD.wk (Wk.as_ (n := 15) (l' := [(0, _), (1, _), (2, _), (3, _), (7, _)]) (S' := [⟨k4, 33, 1, [_]⟩, ⟨k3, 3, 1, [_]⟩, ⟨k2, 32, 12, [_, _, _, _, _, _, _, _, _, _, _, _]⟩]) rfl rfl ⟨lk, lk, lk, lk, lk, trivial⟩) ?_
 refine OD.nil ?_
 refine CD.cond ot (fun hc0 => ?_) (fun hc0 => ?_)
 ·have hc0' := hc0
  (try simp only [V.cnd, ne_eq] at hc0')
  refine sr_ ?_
  refine os_ mv_ ?_
  refine OD.still (wants_plain rfl) rfl (still_tassert (vs := [.int .i64 ((p : Nat) : Int), .int .i64 e]) rfl ot Tryd.underlying67) ?_
  refine OD.alloc (ds := [_, _]) (wants_plain rfl) rfl rfl Tryd.zeroValue67 rfl (fun b4 => ?_)
  refine OD.store (k := 0) (cs' := [_, _]) (wants_plain rfl) rfl rfl ot rfl rfl ot rfl rfl Tryd.sizeOf67 rfl rfl rfl ?_
  refine OD.wk (Wk.as_ (n := 15) (l' := [(0, _), (1, _), (2, _), (4, _)]) (S' := [⟨b4, 67, 2, [_, _]⟩, ⟨k4, 33, 1, [_]⟩, ⟨k3, 3, 1, [_]⟩, ⟨k2, 32, 12, [_, _, _, _, _, _, _, _, _, _, _, _]⟩]) rfl rfl ⟨lk, lk, lk, lk, trivial⟩) ?_
  refine OD.nil ?_
  refine CD.draw (bks (List.take 1 _)) (by kernel_rfl) (fun _ h => (List.Sublist.map _ (List.take_sublist _ _)).subset h) ?_
  refine a0_ 0 rfl (still_bld (pl := []) (ds := [_, _, _, _, _, _, _, _, _, _, _, _]) rfl Tryd.zeroValue32 Tryd.runUnderlying32 places32_Pbc trivial rfl rfl) ?_
  refine a0_ 1 rfl (fa_ 0) ?_
  refine a0_ 2 rfl (lb_ 0) ?_
  refine a0_ 3 rfl (fa_ 1) ?_
  refine a0_ 4 rfl (lb_ 0) ?_
  refine AD0.later rfl ?_
  refine AD.one (i := 5) (by kernel_rfl) ?_
  refine AStep.store (k := 3) (cs' := [_, _, _, _, _, _, _, _, _, _, _, _]) rfl (wants_plain rfl) rfl rfl ot rfl rfl ot rfl rfl Tryd.sizeOf32 rfl rfl rfl (by intro b hb; simp [bks, St.put] at hb ⊢; try first | exact hb | simp [hb] | (rcases hb with hb | hb <;> simp [hb]) | (rcases hb with hb | hb | hb <;> simp [hb])) ?_
  refine AD.one (i := 6) (by kernel_rfl) ?_
  refine AStep.store (k := 2) (cs' := [_]) rfl (wants_plain rfl) rfl rfl ot rfl rfl ot rfl rfl Tryd.sizeOf3 rfl rfl rfl (by intro b hb; simp [bks, St.put] at hb ⊢; try first | exact hb | simp [hb] | (rcases hb with hb | hb <;> simp [hb]) | (rcases hb with hb | hb | hb <;> simp [hb])) ?_
  refine AD.one (i := 7) (by kernel_rfl) ?_
  refine AStep.store (k := 1) (cs' := [_]) rfl (wants_plain rfl) rfl rfl ot rfl rfl ot rfl rfl Tryd.sizeOf33 rfl rfl rfl (by intro b hb; simp [bks, St.put] at hb ⊢; try first | exact hb | simp [hb] | (rcases hb with hb | hb <;> simp [hb]) | (rcases hb with hb | hb | hb <;> simp [hb])) ?_
  refine AD.wk (y := ⟨15, [], [⟨b4, 67, 2, [_, _]⟩, ⟨k4, 33, 1, [_]⟩, ⟨k3, 3, 1, [_]⟩, ⟨k2, 32, 12, [_, _, _, _, _, _, _, _, _, _, _, _]⟩]⟩) (Wk.as_ rfl rfl trivial) rfl ?_
  refine AD.done (by kernel_rfl) ?_
  exact ⟨rfl, _, rfl⟩
 ·exact absurd hc0 (by decide)

theorem places70_Pbc : ∀ w, ((#[{ name := "l", type := 26, offset := 0, embedded := false, tag := "", pkgPath := "padlock/parse", byteOffset := 0 }, { name := "at", type := 3, offset := 1, embedded := false, tag := "", pkgPath := "padlock/parse", byteOffset := 24 }, { name := "ops", type := 30, offset := 2, embedded := false, tag := "", pkgPath := "padlock/parse", byteOffset := 32 }] : Array Field).mapM fun f => do pure (f.offset, ← sizeOf f.type) : Sem (Array (Nat × Nat))).run Tryd.prog w = .ok #[(0, 1), (1, 1), (2, 1)] w := fun w => by simp [Tryd.sizeOf26, Tryd.sizeOf3, Tryd.sizeOf30]

set_option maxHeartbeats 4000000 in
set_option maxRecDepth 100000 in
theorem parse_vc (hm : (0, marksC) ∈ G) (hw : (2, wordsC) ∈ G) (hk : (5, cmpC) ∈ G) (hty : (1, typesC) ∈ G) (l : List Tk) (hs : ∀ t ∈ l, t.s.size ≤ maxLen ∧ t.n ≤ 9223372036854775807) : VP Tryd.prog G 13 [.list 3 (l.flatMap cT) l.length] (dvP (parseF l)) := by
 refine VC.closing Tryd.func13 rfl Tryd.ntmps13 (Nat.le_of_ble_eq_true rfl) fun X w0 => ?_
 refine KD.seqC (Q1 := fun e y => e = .normal ∧ ∃ b2 b3 b4, y = (⟨44, [(0, .list 3 (l.flatMap cT) l.length), (2, .v (.pointer (some ⟨b2, 0, none⟩))), (3, .v (.pointer (some ⟨b3, 0, none⟩))), (4, .v (.pointer (some ⟨b4, 0, none⟩)))], [⟨b4, 33, 1, [.v (.int .i64 0)]⟩, ⟨b3, 3, 1, [.v (.int .i64 0)]⟩, ⟨b2, 32, 12, [.v (.int .i64 0), .v (.string ⟨#[]⟩), .v (.slice none 0 0), .v (.slice none 0 0), .v (.slice none 0 0), .v (.bool false), .v (.slice none 0 0), .v (.string ⟨#[]⟩), .v (.bool false), .v (.int .i64 0), .v (.string ⟨#[]⟩), .v (.slice none 0 0)]⟩]⟩ : St)) (fun _ _ h => h) ?_ ?_ (fun e a w y he _ h => absurd h.1 he)
 ·skip
  refine CD.region ?_
  refine OD.alloc (ds := [_, _, _, _, _, _, _, _, _, _, _, _]) (wants_plain rfl) rfl rfl Tryd.zeroValue32 rfl (fun b2 => ?_)
  refine OD.alloc (ds := [_]) (wants_plain rfl) rfl rfl Tryd.zeroValue3 rfl (fun b3 => ?_)
  refine OD.alloc (ds := [_]) (wants_plain rfl) rfl rfl Tryd.zeroValue33 rfl (fun b4 => ?_)
  refine OD.wk (Wk.as_ (n := 44) (l' := [(0, _), (2, _), (3, _), (4, _)]) (S' := [⟨b4, 33, 1, [_]⟩, ⟨b3, 3, 1, [_]⟩, ⟨b2, 32, 12, [_, _, _, _, _, _, _, _, _, _, _, _]⟩]) rfl rfl ⟨lk, lk, lk, lk, trivial⟩) ?_
  refine OD.nil ?_
  exact ⟨rfl, _, _, _, rfl⟩
 rintro _ ⟨-, b2, b3, b4, rfl⟩
 refine KD.seqC (Q1 := fun e y => (e = .normal ∧ l.length ≤ 100 ∧ y = (⟨44, [(0, .list 3 (l.flatMap cT) l.length), (2, .v (.pointer (some ⟨b2, 0, none⟩))), (3, .v (.pointer (some ⟨b3, 0, none⟩))), (4, .v (.pointer (some ⟨b4, 0, none⟩)))], [⟨b4, 33, 1, [.v (.int .i64 0)]⟩, ⟨b3, 3, 1, [.v (.int .i64 0)]⟩, ⟨b2, 32, 12, [.v (.int .i64 0), .v (.string ⟨#[]⟩), .v (.slice none 0 0), .v (.slice none 0 0), .v (.slice none 0 0), .v (.bool false), .v (.slice none 0 0), .v (.string ⟨#[]⟩), .v (.bool false), .v (.int .i64 0), .v (.string ⟨#[]⟩), .v (.slice none 0 0)]⟩]⟩ : St)) ∨ (e = .ret ∧ ∃ r S', List.Sublist S' y.S ∧ Ret Tryd.prog Tryd.f13 y r ∧ (r = dvP (parseF l) ∧ S' = []))) (fun _ _ h => h) ?_ ?_ (fun e a w y he hs h => by (rcases h with h | ⟨rfl, h⟩; exact absurd h.1 he; exact leave_ret hs h))
 ·skip
  refine sr_ ?_
  refine os_ mv_ ?_
  refine os_ ln_ ?_
  refine os_ bn_ ?_
  refine nm_ [0, 2, 3, 4, 11] ?_
  refine CD.cond ot (fun hc0 => ?_) (fun hc0 => ?_)
  ·have hc0' := hc0
   (try simp only [V.cnd, ne_eq] at hc0')
   have hbig : l.length > 100 := by simp at hc0; omega
   refine sr_ ?_
   refine OD.still (wants_plain rfl) rfl (still_bld (pl := []) (ds := [_, _, _, _, _, _, _, _, _, _, _, _]) rfl Tryd.zeroValue32 Tryd.runUnderlying32 places32_Pbc trivial rfl rfl) ?_
   refine OD.store (k := 2) (cs' := [_, _, _, _, _, _, _, _, _, _, _, _]) (wants_plain rfl) rfl rfl ot rfl rfl ot rfl rfl Tryd.sizeOf32 rfl rfl rfl ?_
   refine OD.store (k := 1) (cs' := [_]) (wants_plain rfl) rfl rfl ot rfl rfl opd_const rfl rfl Tryd.sizeOf3 rfl rfl rfl ?_
   refine OD.store (k := 0) (cs' := [_]) (wants_plain rfl) rfl rfl ot rfl rfl opd_const rfl rfl Tryd.sizeOf33 rfl rfl rfl ?_
   refine OD.wk (Wk.as_ (n := 44) (l' := [(0, _), (2, _), (3, _), (4, _)]) (S' := [⟨b4, 33, 1, [_]⟩, ⟨b3, 3, 1, [_]⟩, ⟨b2, 32, 12, [_, _, _, _, _, _, _, _, _, _, _, _]⟩]) rfl rfl ⟨lk, lk, lk, lk, trivial⟩) ?_
   refine OD.nil ?_
   refine CD.ret ?_
   exact Or.inr ⟨rfl, dvP (stZ, 0, 10), [], List.nil_sublist _, (ret_three Tryd.results13 (res_cells (k := 2) (ds := [_, _, _, _, _, _, _, _, _, _, _, _]) (Nat.le_of_ble_eq_true rfl) lk rfl rfl Tryd.isAgg32 Tryd.sizeOf32 rfl rfl) (res_cell (k := 1) (Nat.le_of_ble_eq_true rfl) lk rfl rfl Tryd.isAgg3 rfl) (res_cell (k := 0) (Nat.le_of_ble_eq_true rfl) lk rfl rfl Tryd.isAgg33 rfl)).gv (gv_tup ⟨gv_agg (by repeat (first | exact trivial | exact ⟨gv_rfl, trivial⟩ | exact ⟨gv_nil, trivial⟩ | refine ⟨gv_rfl, ?_⟩ | refine ⟨gv_nil, ?_⟩)), gv_rfl, gv_rfl, trivial⟩), (by rw [parse_big hbig]), rfl⟩
  ·have hc0' := hc0
   (try simp only [V.cnd, ne_eq] at hc0')
   have hl : l.length ≤ 100 := by simp at hc0; omega
   refine CD.wk (Wk.as_ (n := 44) (l' := [(0, _), (2, _), (3, _), (4, _)]) (S' := [⟨b4, 33, 1, [_]⟩, ⟨b3, 3, 1, [_]⟩, ⟨b2, 32, 12, [_, _, _, _, _, _, _, _, _, _, _, _]⟩]) rfl rfl ⟨lk, lk, lk, lk, trivial⟩) ?_
   refine CD.skip ?_
   exact Or.inl ⟨rfl, hl, rfl⟩
 intro y hy
 obtain ⟨hl, rfl⟩ : l.length ≤ 100 ∧ y = (⟨44, [(0, .list 3 (l.flatMap cT) l.length), (2, .v (.pointer (some ⟨b2, 0, none⟩))), (3, .v (.pointer (some ⟨b3, 0, none⟩))), (4, .v (.pointer (some ⟨b4, 0, none⟩)))], [⟨b4, 33, 1, [.v (.int .i64 0)]⟩, ⟨b3, 3, 1, [.v (.int .i64 0)]⟩, ⟨b2, 32, 12, [.v (.int .i64 0), .v (.string ⟨#[]⟩), .v (.slice none 0 0), .v (.slice none 0 0), .v (.slice none 0 0), .v (.bool false), .v (.slice none 0 0), .v (.string ⟨#[]⟩), .v (.bool false), .v (.int .i64 0), .v (.string ⟨#[]⟩), .v (.slice none 0 0)]⟩]⟩ : St) := by (rcases hy with ⟨-, h⟩ | ⟨h, -⟩; exact h; cases h)
 refine KD.seqC (Q1 := fun e y => (e = .normal ∧ badTk l 0 = none ∧ y = (⟨44, [(0, .list 3 (l.flatMap cT) l.length), (2, .v (.pointer (some ⟨b2, 0, none⟩))), (3, .v (.pointer (some ⟨b3, 0, none⟩))), (4, .v (.pointer (some ⟨b4, 0, none⟩)))], [⟨b4, 33, 1, [.v (.int .i64 0)]⟩, ⟨b3, 3, 1, [.v (.int .i64 0)]⟩, ⟨b2, 32, 12, [.v (.int .i64 0), .v (.string ⟨#[]⟩), .v (.slice none 0 0), .v (.slice none 0 0), .v (.slice none 0 0), .v (.bool false), .v (.slice none 0 0), .v (.string ⟨#[]⟩), .v (.bool false), .v (.int .i64 0), .v (.string ⟨#[]⟩), .v (.slice none 0 0)]⟩]⟩ : St)) ∨ (e = .ret ∧ ∃ r S', List.Sublist S' y.S ∧ Ret Tryd.prog Tryd.f13 y r ∧ (r = dvP (parseF l) ∧ S' = []))) (fun _ _ h => h) ?_ ?_ (fun e a w y he hs h => by (rcases h with h | ⟨rfl, h⟩; exact absurd h.1 he; exact leave_ret hs h))
 ·skip
  refine sr_ ?_
  refine os_ mv_ ?_
  refine os_ ln_ ?_
  refine os_ mv_ ?_
  refine nm_ [0, 2, 3, 4, 13, 14, 15] ?_
  refine CD.block ?_
  refine CD.wk (Wk.asS (n := 44) (l' := [(0, .list 3 (l.flatMap cT) l.length), (2, .v (.pointer (some ⟨b2, 0, none⟩))), (3, .v (.pointer (some ⟨b3, 0, none⟩))), (4, .v (.pointer (some ⟨b4, 0, none⟩))), (13, .list 3 (l.flatMap cT) l.length), (14, .v (.int .i64 l.length)), (15, .v (.int .i64 ((0) : Nat)))]) (S' := [⟨b4, 33, 1, [.v (.int .i64 0)]⟩, ⟨b3, 3, 1, [.v (.int .i64 0)]⟩, ⟨b2, 32, 12, [.v (.int .i64 0), .v (.string ⟨#[]⟩), .v (.slice none 0 0), .v (.slice none 0 0), .v (.slice none 0 0), .v (.bool false), .v (.slice none 0 0), .v (.string ⟨#[]⟩), .v (.bool false), .v (.int .i64 0), .v (.string ⟨#[]⟩), .v (.slice none 0 0)]⟩]) rfl (by repeat (first | exact List.Sublist.refl _ | apply List.Sublist.cons)) ⟨lq_, lq_, lq_, lq_, lq_, lq_, lq_, trivial⟩) (CD.loop (fun (i : Nat) y__ => (i ≤ l.length) ∧ (badTk l 0 = badTk (l.drop i) i) ∧ y__ = (⟨44, [(0, .list 3 (l.flatMap cT) l.length), (2, .v (.pointer (some ⟨b2, 0, none⟩))), (3, .v (.pointer (some ⟨b3, 0, none⟩))), (4, .v (.pointer (some ⟨b4, 0, none⟩))), (13, .list 3 (l.flatMap cT) l.length), (14, .v (.int .i64 l.length)), (15, .v (.int .i64 (i : Nat)))], [⟨b4, 33, 1, [.v (.int .i64 0)]⟩, ⟨b3, 3, 1, [.v (.int .i64 0)]⟩, ⟨b2, 32, 12, [.v (.int .i64 0), .v (.string ⟨#[]⟩), .v (.slice none 0 0), .v (.slice none 0 0), .v (.slice none 0 0), .v (.bool false), .v (.slice none 0 0), .v (.string ⟨#[]⟩), .v (.bool false), .v (.int .i64 0), .v (.string ⟨#[]⟩), .v (.slice none 0 0)]⟩]⟩ : St)) (fun (i : Nat) => l.length - i) 0 ⟨(Nat.zero_le _), (by rw [List.drop_zero]), rfl⟩ ?_)
  rintro i _ ⟨hi, hq, rfl⟩
  refine sr_ ?_
  refine os_ bn_ ?_
  refine nm_ [0, 2, 3, 4, 13, 14, 15, 16] ?_
  refine CD.seq ?_
  refine CD.cond ot (fun hc1 => ?_) (fun hc1 => ?_)
  ·have hc1' := hc1
   (try simp only [V.cnd, ne_eq] at hc1')
   have hlt : i < l.length := by simp at hc1; omega
   refine CD.skip ?_
   refine CD.seq ?_
   refine CD.block ?_
   refine sr_ ?_
   refine os_ mv_ ?_
   refine os_ (ix_ 3 (h := by first | exact .l (j := i) rfl hlt | exact .r (j := i) rfl hlt)) ?_
   refine os_ (la_ [_, _, _]) ?_
   refine OD.alloc (ds := [_, _, _]) (wants_plain rfl) rfl rfl Tryd.zeroValue24 rfl (fun b6 => ?_)
   refine os_ mv_ ?_
   refine OD.store (k := 0) (cs' := [_, _, _]) (wants_plain rfl) rfl rfl ot rfl rfl ot rfl rfl Tryd.sizeOf24 rfl rfl rfl ?_
   refine OD.wk (Wk.as_ (n := 44) (l' := [(0, _), (2, _), (3, _), (4, _), (5, _), (6, _), (13, _), (14, _), (15, _)]) (S' := [⟨b6, 24, 3, [_, _, _]⟩, ⟨b4, 33, 1, [_]⟩, ⟨b3, 3, 1, [_]⟩, ⟨b2, 32, 12, [_, _, _, _, _, _, _, _, _, _, _, _]⟩]) rfl rfl ⟨lk, lk, lk, lk, lk, lk, lk, lk, lk, trivial⟩) ?_
   refine OD.nil ?_
   refine sr_ ?_
   refine os_ (lab_ 0 [_, _, _]) ?_
   refine OD.callP (wants_plain rfl) rfl rfl rfl Tryd.call23 (Nm.check_vp hm l[i] (hs _ (List.getElem_mem hlt)).1) ⟨ot, trivial⟩ ?_
   refine os_ mv_ ?_
   refine OD.wk (Wk.as_ (n := 44) (l' := [(0, _), (2, _), (3, _), (4, _), (5, _), (7, _), (13, _), (14, _), (15, _)]) (S' := [⟨b6, 24, 3, [_, _, _]⟩, ⟨b4, 33, 1, [_]⟩, ⟨b3, 3, 1, [_]⟩, ⟨b2, 32, 12, [_, _, _, _, _, _, _, _, _, _, _, _]⟩]) rfl rfl ⟨lk, lk, lk, lk, lk, lk, lk, lk, lk, trivial⟩) ?_
   refine OD.nil ?_
   refine sr_ ?_
   refine os_ mv_ ?_
   refine os_ bn_ ?_
   refine nm_ [0, 2, 3, 4, 5, 7, 13, 14, 15, 23] ?_
   refine CD.cond ot (fun hc2 => ?_) (fun hc2 => ?_)
   ·have hc2' := hc2
    (try simp only [V.cnd, ne_eq] at hc2')
    have hnz : checkT l[i] ≠ 0 := by simpa using hc2
    refine sr_ ?_
    refine OD.still (wants_plain rfl) rfl (still_bld (pl := []) (ds := [_, _, _, _, _, _, _, _, _, _, _, _]) rfl Tryd.zeroValue32 Tryd.runUnderlying32 places32_Pbc trivial rfl rfl) ?_
    refine os_ mv_ ?_
    refine os_ mv_ ?_
    refine OD.store (k := 3) (cs' := [_, _, _, _, _, _, _, _, _, _, _, _]) (wants_plain rfl) rfl rfl ot rfl rfl ot rfl rfl Tryd.sizeOf32 rfl rfl rfl ?_
    refine OD.store (k := 2) (cs' := [_]) (wants_plain rfl) rfl rfl ot rfl rfl ot rfl rfl Tryd.sizeOf3 rfl rfl rfl ?_
    refine OD.store (k := 1) (cs' := [_]) (wants_plain rfl) rfl rfl ot rfl rfl ot rfl rfl Tryd.sizeOf33 rfl rfl rfl ?_
    refine OD.wk (Wk.as_ (n := 44) (l' := [(0, _), (2, _), (3, _), (4, _)]) (S' := [⟨b6, 24, 3, [_, _, _]⟩, ⟨b4, 33, 1, [_]⟩, ⟨b3, 3, 1, [_]⟩, ⟨b2, 32, 12, [_, _, _, _, _, _, _, _, _, _, _, _]⟩]) rfl rfl ⟨lk, lk, lk, lk, trivial⟩) ?_
    refine OD.nil ?_
    refine CD.ret ?_
    exact Or.inr ⟨rfl, dvP (stZ, i, checkT l[i]), [], List.nil_sublist _, (ret_three Tryd.results13 (res_cells (k := 3) (ds := [_, _, _, _, _, _, _, _, _, _, _, _]) (Nat.le_of_ble_eq_true rfl) lk rfl rfl Tryd.isAgg32 Tryd.sizeOf32 rfl rfl) (res_cell (k := 2) (Nat.le_of_ble_eq_true rfl) lk rfl rfl Tryd.isAgg3 rfl) (res_cell (k := 1) (Nat.le_of_ble_eq_true rfl) lk rfl rfl Tryd.isAgg33 rfl)).gv (gv_tup ⟨gv_agg (by repeat (first | exact trivial | exact ⟨gv_rfl, trivial⟩ | exact ⟨gv_nil, trivial⟩ | refine ⟨gv_rfl, ?_⟩ | refine ⟨gv_nil, ?_⟩)), gv_rfl, gv_rfl, trivial⟩), (by rw [parse_bad hl (bad_at hlt hq hnz)]), rfl⟩
   ·have hc2' := hc2
    (try simp only [V.cnd, ne_eq] at hc2')
    have hz : checkT l[i] = 0 := by simpa using hc2
    refine CD.skip ?_
    refine CD.region ?_
    refine os_ bn_ ?_
    refine os_ mv_ ?_
    refine nm_ [0, 2, 3, 4, 13, 14, 15] ?_
    refine ⟨(i + 1), ⟨44, [(0, .list 3 (l.flatMap cT) l.length), (2, .v (.pointer (some ⟨b2, 0, none⟩))), (3, .v (.pointer (some ⟨b3, 0, none⟩))), (4, .v (.pointer (some ⟨b4, 0, none⟩))), (13, .list 3 (l.flatMap cT) l.length), (14, .v (.int .i64 l.length)), (15, .v (.int .i64 (((i + 1)) : Nat)))], [⟨b4, 33, 1, [.v (.int .i64 0)]⟩, ⟨b3, 3, 1, [.v (.int .i64 0)]⟩, ⟨b2, 32, 12, [.v (.int .i64 0), .v (.string ⟨#[]⟩), .v (.slice none 0 0), .v (.slice none 0 0), .v (.slice none 0 0), .v (.bool false), .v (.slice none 0 0), .v (.string ⟨#[]⟩), .v (.bool false), .v (.int .i64 0), .v (.string ⟨#[]⟩), .v (.slice none 0 0)]⟩]⟩, ?_, Wk.asS (n := 44) rfl (by repeat (first | exact List.Sublist.refl _ | apply List.Sublist.cons)) ⟨lq_, lq_, lq_, lq_, lq_, lq_, lq_, trivial⟩, (by omega), (bad_on hlt hq hz), rfl⟩
    first | omega | (simp only []; omega)
  ·have hc1' := hc1
   (try simp only [V.cnd, ne_eq] at hc1')
   have hie : l.length ≤ i := by simp at hc1; omega
   have hbad : badTk l 0 = none := by rw [hq, List.drop_of_length_le hie]; rfl
   refine CD.wk (Wk.as_ (n := 44) (l' := [(0, _), (2, _), (3, _), (4, _)]) (S' := [⟨b4, 33, 1, [_]⟩, ⟨b3, 3, 1, [_]⟩, ⟨b2, 32, 12, [_, _, _, _, _, _, _, _, _, _, _, _]⟩]) rfl rfl ⟨lk, lk, lk, lk, trivial⟩) ?_
   refine CD.exit ?_
   exact Or.inl ⟨rfl, hbad, rfl⟩
 intro y hy
 obtain ⟨hbad, rfl⟩ : badTk l 0 = none ∧ y = (⟨44, [(0, .list 3 (l.flatMap cT) l.length), (2, .v (.pointer (some ⟨b2, 0, none⟩))), (3, .v (.pointer (some ⟨b3, 0, none⟩))), (4, .v (.pointer (some ⟨b4, 0, none⟩)))], [⟨b4, 33, 1, [.v (.int .i64 0)]⟩, ⟨b3, 3, 1, [.v (.int .i64 0)]⟩, ⟨b2, 32, 12, [.v (.int .i64 0), .v (.string ⟨#[]⟩), .v (.slice none 0 0), .v (.slice none 0 0), .v (.slice none 0 0), .v (.bool false), .v (.slice none 0 0), .v (.string ⟨#[]⟩), .v (.bool false), .v (.int .i64 0), .v (.string ⟨#[]⟩), .v (.slice none 0 0)]⟩]⟩ : St) := by (rcases hy with ⟨-, h⟩ | ⟨h, -⟩; exact h; cases h)
 have ht : ∀ t ∈ l, t.s.size ≤ maxLen ∧ (t.k = 2 → 0 ≤ t.n ∧ t.n ≤ 9223372036854775807) := fun t h => ⟨(hs t h).1, fun hk => ⟨num_pos (bad_none hbad t h) hk, (hs t h).2⟩⟩
 refine KD.defer (vs := [(.pointer (some ⟨b2, 0, none⟩)), (.pointer (some ⟨b3, 0, none⟩)), (.pointer (some ⟨b4, 0, none⟩))]) rfl rfl (show Still _ _ _ _ _ (.clo (.func 24) [.v (.pointer (some ⟨b2, 0, none⟩)), .v (.pointer (some ⟨b3, 0, none⟩)), .v (.pointer (some ⟨b4, 0, none⟩))]) from still_fn rfl ⟨ot, ot, ot, trivial⟩) rfl rfl rfl rfl ?_
 refine KD.of (Q := fun e y => (e = .ret ∧ ∃ B s, parseF l = (s, 0, 0) ∧ y = (⟨44, [(2, .v (.pointer (some ⟨b2, 0, none⟩))), (3, .v (.pointer (some ⟨b3, 0, none⟩))), (4, .v (.pointer (some ⟨b4, 0, none⟩)))], [B, ⟨b4, 33, 1, [.v (.int .i64 0)]⟩, ⟨b3, 3, 1, [.v (.int .i64 0)]⟩, ⟨b2, 32, 12, (cSt s)⟩]⟩ : St)) ∨ ∃ ch, e = .panic ch ∧ ∃ q e, ch = wrC q e ∧ parseF l = (stZ, q, e) ∧ ∃ (env : List (Nat × D)) (c4 c3 : D) (cs : List D), y = (⟨44, env, [⟨b4, 33, 1, [c4]⟩, ⟨b3, 3, 1, [c3]⟩, ⟨b2, 32, 12, cs⟩]⟩ : St) ∧ cs.length = 12 ∧ V.look 2 env = .v (.pointer (some ⟨b2, 0, none⟩)) ∧ V.look 3 env = .v (.pointer (some ⟨b3, 0, none⟩)) ∧ V.look 4 env = .v (.pointer (some ⟨b4, 0, none⟩))) ?_ ?_
 ·skip
  refine sr_ ?_
  refine os_ mv_ ?_
  refine OD.still (wants_plain rfl) rfl (still_bld (pl := [(0, _)]) (ds := [_, _, _]) rfl Tryd.zeroValue70 Tryd.runUnderlying70 places70_Pbc ⟨rfl, ot, trivial⟩ rfl rfl) ?_
  refine OD.box (ds := [_, _, _]) (wants_plain rfl) rfl rfl ot rfl rfl (fun b31 => ?_)
  refine os_ mv_ ?_
  refine OD.wk (Wk.as_ (n := 44) (l' := [(0, _), (2, _), (3, _), (4, _), (8, _)]) (S' := [⟨b31, 70, 3, [_, _, _]⟩, ⟨b4, 33, 1, [_]⟩, ⟨b3, 3, 1, [_]⟩, ⟨b2, 32, 12, [_, _, _, _, _, _, _, _, _, _, _, _]⟩]) rfl rfl ⟨lk, lk, lk, lk, lk, trivial⟩) ?_
  refine OD.nil ?_
  refine sr_ ?_
  refine os_ mv_ ?_
  refine OD.callX (wants_plain rfl) rfl rfl rfl Tryd.call25 (statement_vx (br := b31) hl hm hw hk hty ht 0 (Nat.zero_le _) [] _ rfl none 0 0) ⟨ot, trivial⟩ (List.Perm.refl _) (fun ch hch => by obtain ⟨q, e, h1, rfl⟩ := hch; exact Or.inr ⟨_, rfl, q, e, rfl, parse_no hl hbad h1, _, _, _, _, rfl, rfl, lk, lk, lk⟩) ?_
  rintro _ _ ⟨s, p, os, ad, n, cap, hst, ⟨rfl, hok⟩, hp, rfl⟩
  unfold cSt
  refine OD.perm (S' := ⟨b31, 70, 3, [.list 3 (l.flatMap cT) l.length, .v (.int .i64 ((p : Nat) : Int)), .v (.slice ad n cap)]⟩ :: [⟨b4, 33, 1, [_]⟩, ⟨b3, 3, 1, [_]⟩, ⟨b2, 32, 12, [_, _, _, _, _, _, _, _, _, _, _, _]⟩]) (List.Perm.refl _) ?_
  refine OD.store (k := 3) (cs' := [_, _, _, _, _, _, _, _, _, _, _, _]) (wants_plain rfl) rfl rfl ot rfl rfl ot rfl rfl Tryd.sizeOf32 rfl rfl rfl ?_
  refine OD.wk (Wk.as_ (n := 44) (l' := [(0, _), (2, _), (3, _), (4, _), (8, _)]) (S' := [⟨b31, 70, 3, [_, _, _]⟩, ⟨b4, 33, 1, [_]⟩, ⟨b3, 3, 1, [_]⟩, ⟨b2, 32, 12, [_, _, _, _, _, _, _, _, _, _, _, _]⟩]) rfl rfl ⟨lk, lk, lk, lk, lk, trivial⟩) ?_
  refine OD.nil ?_
  refine CD.seq ?_
  refine sr_ ?_
  refine os_ mv_ ?_
  refine os_ nc_ ?_
  refine os_ (fa_ 1) ?_
  refine os_ (lb_ 0) ?_
  refine os_ mv_ ?_
  refine os_ ln_ ?_
  refine os_ bn_ ?_
  refine nm_ [2, 3, 4, 8, 40] ?_
  refine CD.cond ot (fun hc3 => ?_) (fun hc3 => ?_)
  ·have hc3' := hc3
   (try simp only [V.cnd, ne_eq] at hc3')
   have hmo : p < l.length := by simp at hc3; omega
   refine CD.region ?_
   refine os_ mv_ ?_
   exact OD.callX (wants_plain rfl) rfl rfl rfl Tryd.call26 (give_vx l hl p 6 ad n cap b31) ⟨ot, opd_const, trivial⟩ (List.Perm.refl _) (fun ch hch => by subst hch; exact Or.inr ⟨_, rfl, p, _, rfl, parse_more hl hbad hst hmo, _, _, _, _, rfl, rfl, lk, lk, lk⟩) (fun r S' h => h.elim)
  ·have hc3' := hc3
   (try simp only [V.cnd, ne_eq] at hc3')
   have hmo : ¬ p < l.length := by simp at hc3; omega
   refine CD.skip ?_
   refine sr_ ?_
   refine os_ (lab_ 3 [_, _, _, _, _, _, _, _, _, _, _, _]) ?_
   refine OD.store (k := 3) (cs' := [_, _, _, _, _, _, _, _, _, _, _, _]) (wants_plain rfl) rfl rfl ot rfl rfl ot rfl rfl Tryd.sizeOf32 rfl rfl rfl ?_
   refine OD.store (k := 2) (cs' := [_]) (wants_plain rfl) rfl rfl ot rfl rfl opd_const rfl rfl Tryd.sizeOf3 rfl rfl rfl ?_
   refine OD.store (k := 1) (cs' := [_]) (wants_plain rfl) rfl rfl ot rfl rfl opd_const rfl rfl Tryd.sizeOf33 rfl rfl rfl ?_
   refine OD.wk (Wk.as_ (n := 44) (l' := [(2, _), (3, _), (4, _)]) (S' := [⟨b31, 70, 3, [_, _, _]⟩, ⟨b4, 33, 1, [_]⟩, ⟨b3, 3, 1, [_]⟩, ⟨b2, 32, 12, [_, _, _, _, _, _, _, _, _, _, _, _]⟩]) rfl rfl ⟨lk, lk, lk, trivial⟩) ?_
   refine OD.nil ?_
   refine CD.ret ?_
   exact Or.inl ⟨rfl, _, s, parse_ok hl hbad hst hmo, rfl⟩
 ·intro e a w h
  rcases h with ⟨y, hy, ⟨rfl, B, s, hpf, rfl⟩ | ⟨ch, rfl, q, e, rfl, hpf, env, c4, c3, cs, rfl, hcs, h2, h3, h4⟩⟩ | ⟨_, h⟩
  ·have hw := leaves_one (fn := Tryd.f13) (post := fun r S' => r = dvP (parseF l) ∧ S' = []) (S0 := []) (u := .returning) (u' := .returning) (caps := [(.pointer (some ⟨b2, 0, none⟩)), (.pointer (some ⟨b3, 0, none⟩)), (.pointer (some ⟨b4, 0, none⟩))].map D.v) (cv := [(.pointer (some ⟨b2, 0, none⟩)), (.pointer (some ⟨b3, 0, none⟩)), (.pointer (some ⟨b4, 0, none⟩))]) (Sf := []) (Rs := [B, ⟨b4, 33, 1, [.v (.int .i64 0)]⟩, ⟨b3, 3, 1, [.v (.int .i64 0)]⟩, ⟨b2, 32, 12, (cSt s)⟩]) (pc := fun S' => S' = []) hy rfl rfl rfl hy.defers (repL_flat _) Tryd.call24 (List.Perm.refl _) (by intro h; cases h) rfl (cl_ret b2 b3 b4 [])
    (fun S' h => by subst h; exact ⟨_, [], List.nil_sublist _, ret_three Tryd.results13 (res_cells (k := 3) (ds := [_, _, _, _, _, _, _, _, _, _, _, _]) (Nat.le_of_ble_eq_true rfl) lk rfl rfl Tryd.isAgg32 Tryd.sizeOf32 rfl rfl) (res_cell (k := 2) (Nat.le_of_ble_eq_true rfl) lk rfl rfl Tryd.isAgg3 rfl) (res_cell (k := 1) (Nat.le_of_ble_eq_true rfl) lk rfl rfl Tryd.isAgg33 rfl), (by rw [hpf]; rfl), rfl⟩)
   exact hw
  ·have hw := leaves_one (fn := Tryd.f13) (post := fun r S' => r = dvP (parseF l) ∧ S' = []) (S0 := []) (u := .panicking (wrC q e)) (u' := .panicking [{ v := .iface 67 (.agg #[.int .i64 (q : Nat), .int .i64 e]), recovered := true }]) (caps := [(.pointer (some ⟨b2, 0, none⟩)), (.pointer (some ⟨b3, 0, none⟩)), (.pointer (some ⟨b4, 0, none⟩))].map D.v) (cv := [(.pointer (some ⟨b2, 0, none⟩)), (.pointer (some ⟨b3, 0, none⟩)), (.pointer (some ⟨b4, 0, none⟩))]) (Sf := [⟨b4, 33, 1, [c4]⟩, ⟨b3, 3, 1, [c3]⟩, ⟨b2, 32, 12, cs⟩]) (Rs := []) (pc := fun S' => ∃ B, S' = [B, ⟨b4, 33, 1, [.v (.int .i64 e)]⟩, ⟨b3, 3, 1, [.v (.int .i64 ((q : Nat) : Int))]⟩, ⟨b2, 32, 12, [.v (.int .i64 0), .v (.string ⟨#[]⟩), .v (.slice none 0 0), .v (.slice none 0 0), .v (.slice none 0 0), .v (.bool false), .v (.slice none 0 0), .v (.string ⟨#[]⟩), .v (.bool false), .v (.int .i64 0), .v (.string ⟨#[]⟩), .v (.slice none 0 0)]⟩]) hy rfl rfl rfl hy.defers (repL_flat _) Tryd.call24 (List.Perm.refl _) (by intro h; cases h) rfl (cl_pan0 b2 b3 b4 q e c4 c3 cs hcs)
    (fun S' h => by obtain ⟨B, rfl⟩ := h; exact ⟨dvP (stZ, q, e), [], List.nil_sublist _, (ret_three Tryd.results13 (res_cells (k := 3) (ds := [_, _, _, _, _, _, _, _, _, _, _, _]) (Nat.le_of_ble_eq_true rfl) h2 rfl rfl Tryd.isAgg32 Tryd.sizeOf32 rfl rfl) (res_cell (k := 2) (Nat.le_of_ble_eq_true rfl) h3 rfl rfl Tryd.isAgg3 rfl) (res_cell (k := 1) (Nat.le_of_ble_eq_true rfl) h4 rfl rfl Tryd.isAgg33 rfl)).gv (gv_tup ⟨gv_agg (by repeat (first | exact trivial | exact ⟨gv_rfl, trivial⟩ | exact ⟨gv_nil, trivial⟩ | refine ⟨gv_rfl, ?_⟩ | refine ⟨gv_nil, ?_⟩)), gv_rfl, gv_rfl, trivial⟩), (by rw [hpf]), rfl⟩)
   exact hw
  ·exact h.elim


end Go.Proofs.YtjgekbmahhhokaaDoor.Pa

namespace Go.Proofs.YtjgekbmahhhokaaDoor.Pa
open Go.RowKit V Pk Go.Proofs.YtjgekbmahhhokaaDoor.Vl Go.Proofs.YtjgekbmahhhokaaDoor.Nm
set_option linter.unusedVariables false
set_option linter.unusedSimpArgs false

abbrev TypesTab (w : World) : Prop := Tab.TabAt w 1 typesC
abbrev CmpTab (w : World) : Prop := Tab.TabAt w 5 cmpC
def typesB : List (List UInt8) := [[], [66, 79, 79, 76], [73, 78, 84], [84, 69, 88, 84]]
def cmpB : List (List UInt8 × Int × Bool × Bool) := [([61], 6, false, false), ([60, 62], 6, false, true), ([60], 7, false, false), ([62], 7, true, false), ([62, 61], 7, false, true), ([60, 61], 7, true, true)]
def TGP : List (Nat × List Value) := [(0, marksC), (2, wordsC), (1, typesC), (5, cmpC)]
theorem tp1 : (0, marksC) ∈ TGP := List.mem_cons_self
theorem tp2 : (2, wordsC) ∈ TGP := List.mem_cons_of_mem _ List.mem_cons_self
theorem tp3 : (1, typesC) ∈ TGP := List.mem_cons_of_mem _ (List.mem_cons_of_mem _ List.mem_cons_self)
theorem tp4 : (5, cmpC) ∈ TGP := List.mem_cons_of_mem _ (List.mem_cons_of_mem _ (List.mem_cons_of_mem _ List.mem_cons_self))
theorem tgpx {w : World} (h1 : MarksTab w) (h2 : WordsTab w) (h3 : TypesTab w) (h4 : CmpTab w) : ∀ g ∈ TGP, g.2 ≠ [] ∧ TabX w g.1 g.2 := fun g hg => by
 simp only [TGP, List.mem_cons, List.not_mem_nil, or_false] at hg
 rcases hg with rfl | rfl | rfl | rfl
 ·exact ⟨by decide, .of h1 rfl⟩
 ·exact ⟨by decide, .of h2 rfl⟩
 ·exact ⟨by decide, .of h3 rfl⟩
 ·exact ⟨by decide, .of h4 rfl⟩

end Go.Proofs.YtjgekbmahhhokaaDoor.Pa

namespace Go.Proofs.YtjgekbmahhhokaaDoor.V
end Go.Proofs.YtjgekbmahhhokaaDoor.V


namespace Go.Proofs.YtjgekbmahhhokaaDoor.V
open Go.RowKit
set_option linter.unusedVariables false
set_option linter.unusedSimpArgs false

variable {P : Program} {C : Ctx} {G : List (Nat × List Value)} {Q : Exit → St → Prop} {x : St} {ops : Array Oper} {l : List Oper} {o : Oper} {S1 T : List Nat} {fuel i : Nat} {ld : Array Bool}

theorem AStep.callv {f t : Nat} {fo : Operand} {ars : Array Operand} {ts : Array TypeId} {args caps all : List D} {Sf R : List Blk} {post : D → List Blk → Prop} (hi : ops[i]? = some o) (hw : Wants ops x o true) (ho : o.op = .call { callee := .value fo, args := ars, argTypes := ts }) (hd : o.dst = some t)
  (hf : opd x fo = .clo (.func f) caps) (hcall : ∀ args w, (callFunc f args).run P w = .ok (.enter f args) w) (hc : VC P C.G f all Sf post) (hall : args ++ caps = all) (ha : Opds x ars.toList args) (hp : x.S.Perm (Sf ++ R)) (hT : ∀ b ∈ T, b ∈ bks R)
  (K : ∀ r S', post r S' → AD P C ops S1 T fuel (ld.setIfInBounds i true) ⟨x.n, (t, r) :: x.env, S' ++ R⟩ Q) : AStep P C ops S1 T fuel ld x Q i :=
 AStep.eff hi hw (eff_callv ho hd hf hcall (by rw [ha.eq, hall]) hp hc) (fun C a w hs b hb hm => by
  have h1 : (bks x.S).Perm (bks Sf ++ bks R) := by have := hp.map Blk.b; simpa [bks] using this
  have h2 := h1.nodup_iff.1 hs.own.apart
  exact (List.nodup_append.1 h2).2.2 b hm b (hT b hb) rfl) (fun b hb => by
  have h1 : (bks x.S).Perm (bks Sf ++ bks R) := by have := hp.map Blk.b; simpa [bks] using this
  exact h1.symm.subset (List.mem_append_left _ hb)) fun y ⟨r, S', h, hy⟩ => hy ▸ K r S' h

/-- A contract for arguments that read one way holds where they read another. -/
theorem VC.args {f : FuncId} {cs bs : List D} {S : List Blk} {post : D → List Blk → Prop} (h : VC P G f cs S post) (hl : bs.length = cs.length) (hr : ∀ (w : World) (L : Nat → Prop) (i : Nat) (h1 : i < cs.length) (h2 : i < bs.length) (v : Value), Rep w L bs[i] v → Rep w L cs[i] v) : VC P G f bs S post := fun X w vs hp => by
  refine h X w vs ⟨hp.ex, hp.tab, hp.own, ?_, fun i h1 h2 => ?_⟩
  · rw [hp.args.1, hl]
  · exact hr w _ i h1 (by omega) _ (hp.args.2 i (by omega) h2)
end Go.Proofs.YtjgekbmahhhokaaDoor.V

namespace Go.Proofs.YtjgekbmahhhokaaDoor.Pa
open Go.RowKit V Pk Go.Proofs.YtjgekbmahhhokaaDoor.Vl Go.Proofs.YtjgekbmahhhokaaDoor.Nm
set_option linter.unusedVariables false
set_option linter.unusedSimpArgs false

variable {G : List (Nat × List Value)}
theorem bad_all : ∀ {l : List Tk} {i : Nat}, (∀ t ∈ l, checkT t = 0) → badTk l i = none
 | [], _, _ => rfl
 | t :: r, i, h => by rw [badTk, if_pos (h t List.mem_cons_self)]; exact bad_all fun x hx => h x (List.mem_cons_of_mem _ hx)
theorem num_check {k : Int} (h : 0 ≤ k) : checkT ⟨2, ⟨#[]⟩, k⟩ = 0 := by
 unfold checkT; rw [if_neg (by show ¬ (2 : Int) = 1; decide), if_pos rfl, if_neg (by show ¬ k < 0; omega)]; rfl
theorem parse_is {l : List Tk} {s : StL} {p : Nat} {os : List OpL} (h : l.length ≤ 100) (hc : ∀ t ∈ l, checkT t = 0) (hs : stP l 0 [] = .ok s p os) (hp : ¬ p < l.length) : parseF l = (s, 0, 0) := parse_ok h (bad_all hc) hs hp
theorem parse_un {l : List Tk} {p : Nat} {e : Int} (h : l.length ≤ 100) (hc : ∀ t ∈ l, checkT t = 0) (hs : stP l 0 [] = .no p e) : parseF l = (stZ, p, e) := parse_no h (bad_all hc) hs
def hdD : List Tk := [⟨1, ⟨#[68, 69, 76, 69, 84, 69]⟩, 0⟩, ⟨1, ⟨#[70, 82, 79, 77]⟩, 0⟩, ⟨1, ⟨#[116]⟩, 0⟩, ⟨1, ⟨#[87, 72, 69, 82, 69]⟩, 0⟩]
def xT : Tk := ⟨1, ⟨#[120]⟩, 0⟩
def miT : Tk := ⟨4, ⟨#[45]⟩, 0⟩
def nuT (k : Int) : Tk := ⟨2, ⟨#[]⟩, k⟩
def litN (x : Int) : OpL := ⟨1, ⟨2, x, ⟨#[]⟩⟩, ⟨#[]⟩⟩
def colX : OpL := ⟨2, noVl, ⟨#[120]⟩⟩
def delS (w : List OpL) : StL := { st0 with kind := 6, table := ⟨#[116]⟩, wher := w }
theorem stA (k : Int) : stP (hdD ++ [miT, nuT k]) 0 [] = .ok (delS [litN (-k)]) 6 [litN (-k)] := by kernel_rfl
theorem stB (k : Int) : stP (hdD ++ [xT, miT, nuT k]) 0 [] = .ok (delS [colX, litN k, opN 9]) 7 [colX, litN k, opN 9] := by kernel_rfl
theorem stC (k : Int) : stP (hdD ++ [xT, miT, miT, nuT k]) 0 [] = .ok (delS [colX, litN (-k), opN 9]) 8 [colX, litN (-k), opN 9] := by kernel_rfl
theorem stD : stP (hdD ++ [miT]) 0 [] = .no 5 7 := by kernel_rfl
theorem stE : stP (hdD ++ [miT, xT]) 0 [] = .no 5 6 := by kernel_rfl

/-- A token that is one. -/
def Gd (t : Tk) : Prop := checkT t = 0 ∧ t.s.size ≤ maxLen ∧ t.n ≤ 9223372036854775807
theorem gd_nil : ∀ t ∈ ([] : List Tk), Gd t := fun t h => by cases h
theorem gd_cons {t : Tk} {r : List Tk} (h : Gd t) (hr : ∀ x ∈ r, Gd x) : ∀ x ∈ t :: r, Gd x := fun x hx => by
 rcases List.mem_cons.1 hx with rfl | hx
 ·exact h
 ·exact hr x hx
theorem gd_app {a b : List Tk} (ha : ∀ x ∈ a, Gd x) (hb : ∀ x ∈ b, Gd x) : ∀ x ∈ a ++ b, Gd x := fun x hx => (List.mem_append.1 hx).elim (ha x) (hb x)
theorem gd_num {k : Int} (h : 0 ≤ k) (h1 : k ≤ 9223372036854775807) : Gd ⟨2, ⟨#[]⟩, k⟩ := ⟨num_check h, by show (0 : Nat) ≤ maxLen; exact Nat.zero_le _, h1⟩
theorem parse_at (hm : (0, marksC) ∈ G) (hw : (2, wordsC) ∈ G) (hk : (5, cmpC) ∈ G) (hty : (1, typesC) ∈ G) {l : List Tk} {s : StL} {p : Nat} {os : List OpL} (hl : l.length ≤ 100) (hg : ∀ t ∈ l, Gd t) (hs : stP l 0 [] = .ok s p os) (hp : ¬ p < l.length) : VP Tryd.prog G 13 [.list 3 (l.flatMap cT) l.length] (.tup [.agg (cSt s), .v (.int .i64 ((0 : Nat) : Int)), .v (.int .i64 0)]) := by
 have h := parse_vc hm hw hk hty l fun t ht => (hg t ht).2
 rw [parse_is hl (fun t ht => (hg t ht).1) hs hp] at h
 exact h
theorem parse_un_at (hm : (0, marksC) ∈ G) (hw : (2, wordsC) ∈ G) (hk : (5, cmpC) ∈ G) (hty : (1, typesC) ∈ G) {l : List Tk} {p : Nat} {e : Int} (hl : l.length ≤ 100) (hg : ∀ t ∈ l, Gd t) (hs : stP l 0 [] = .no p e) : VP Tryd.prog G 13 [.list 3 (l.flatMap cT) l.length] (.tup [.agg (cSt stZ), .v (.int .i64 ((p : Nat) : Int)), .v (.int .i64 e)]) := by
 have h := parse_vc hm hw hk hty l fun t ht => (hg t ht).2
 rw [parse_un hl (fun t ht => (hg t ht).1) hs] at h
 exact h
theorem gd_hd : ∀ x ∈ hdD, Gd x := gd_cons ⟨by decide +kernel, by decide, by decide⟩ (gd_cons ⟨by decide +kernel, by decide, by decide⟩ (gd_cons ⟨by decide +kernel, by decide, by decide⟩ (gd_cons ⟨by decide +kernel, by decide, by decide⟩ gd_nil)))
theorem gd_x : Gd xT := ⟨by decide +kernel, by decide, by decide⟩
theorem gd_mi : Gd miT := ⟨by decide +kernel, by decide, by decide⟩

theorem places24_Pd1 : ∀ w, ((#[{ name := "Kind", type := 3, offset := 0, embedded := false, tag := "", pkgPath := "", byteOffset := 0 }, { name := "Text", type := 9, offset := 1, embedded := false, tag := "", pkgPath := "", byteOffset := 8 }, { name := "Int", type := 3, offset := 2, embedded := false, tag := "", pkgPath := "", byteOffset := 24 }] : Array Field).mapM fun f => do pure (f.offset, ← sizeOf f.type) : Sem (Array (Nat × Nat))).run Tryd.prog w = .ok #[(0, 1), (1, 1), (2, 1)] w := fun w => by simp [Tryd.sizeOf3, Tryd.sizeOf9]

set_option maxHeartbeats 4000000 in
set_option maxRecDepth 100000 in
theorem w_vp (s : ByteArray) : VP Tryd.prog G 12 [.v (.string s)] (.agg [.v (.int .i64 1), .v (.string s), .v (.int .i64 0)]) := by
 refine VC.body Tryd.func12 rfl Tryd.ntmps12 (Nat.le_of_ble_eq_true rfl) fun X0 w0 S00 => ?_
 refine sr_ ?_
 refine OD.alloc (ds := [_, _, _]) (wants_plain rfl) rfl rfl Tryd.zeroValue24 rfl (fun b2 => ?_)
 refine OD.wk (Wk.as_ (n := 5) (l' := [(0, _), (2, _)]) (S' := [⟨b2, 24, 3, [_, _, _]⟩]) rfl rfl ⟨lk, lk, trivial⟩) ?_
 refine OD.nil ?_
 refine sr_ ?_
 refine os_ mv_ ?_
 refine OD.still (wants_plain rfl) rfl (still_bld (pl := [(0, _), (1, _)]) (ds := [_, _, _]) rfl Tryd.zeroValue24 Tryd.runUnderlying24 places24_Pd1 ⟨rfl, opd_const, rfl, ot, trivial⟩ rfl rfl) ?_
 refine OD.store (k := 0) (cs' := [_, _, _]) (wants_plain rfl) rfl rfl ot rfl rfl ot rfl rfl Tryd.sizeOf24 rfl rfl rfl ?_
 refine OD.wk (Wk.as_ (n := 5) (l' := [(2, _)]) (S' := [⟨b2, 24, 3, [_, _, _]⟩]) rfl rfl ⟨lk, trivial⟩) ?_
 refine OD.nil ?_
 refine CD.ret ?_
 refine ⟨.inr rfl, _, [], List.nil_sublist _, ret_one Tryd.results12 (res_cells (k := 0) (ds := [_, _, _]) (Nat.le_of_ble_eq_true rfl) lk rfl rfl Tryd.isAgg24 Tryd.sizeOf24 rfl rfl), ?_⟩
 exact ⟨rfl, rfl⟩

theorem places37_Pd1 : ∀ w, ((#[{ name := "Kind", type := 3, offset := 0, embedded := false, tag := "", pkgPath := "", byteOffset := 0 }, { name := "Int", type := 3, offset := 1, embedded := false, tag := "", pkgPath := "", byteOffset := 8 }, { name := "Text", type := 9, offset := 2, embedded := false, tag := "", pkgPath := "", byteOffset := 16 }] : Array Field).mapM fun f => do pure (f.offset, ← sizeOf f.type) : Sem (Array (Nat × Nat))).run Tryd.prog w = .ok #[(0, 1), (1, 1), (2, 1)] w := fun w => by simp [Tryd.sizeOf3, Tryd.sizeOf9]

set_option maxHeartbeats 4000000 in
set_option maxRecDepth 100000 in
theorem number_vp (x : Int) : VP Tryd.prog G 14 [.v (.int .i64 x)] (.agg [.v (.int .i64 2), .v (.int .i64 x), .v (.string ⟨#[]⟩)]) := by
 refine VC.body Tryd.func14 rfl Tryd.ntmps14 (Nat.le_of_ble_eq_true rfl) fun X0 w0 S00 => ?_
 refine sr_ ?_
 refine OD.alloc (ds := [_, _, _]) (wants_plain rfl) rfl rfl Tryd.zeroValue37 rfl (fun b2 => ?_)
 refine OD.wk (Wk.as_ (n := 5) (l' := [(0, _), (2, _)]) (S' := [⟨b2, 37, 3, [_, _, _]⟩]) rfl rfl ⟨lk, lk, trivial⟩) ?_
 refine OD.nil ?_
 refine sr_ ?_
 refine os_ mv_ ?_
 refine OD.still (wants_plain rfl) rfl (still_bld (pl := [(0, _), (1, _)]) (ds := [_, _, _]) rfl Tryd.zeroValue37 Tryd.runUnderlying37 places37_Pd1 ⟨rfl, opd_const, rfl, ot, trivial⟩ rfl rfl) ?_
 refine OD.store (k := 0) (cs' := [_, _, _]) (wants_plain rfl) rfl rfl ot rfl rfl ot rfl rfl Tryd.sizeOf37 rfl rfl rfl ?_
 refine OD.wk (Wk.as_ (n := 5) (l' := [(2, _)]) (S' := [⟨b2, 37, 3, [_, _, _]⟩]) rfl rfl ⟨lk, trivial⟩) ?_
 refine OD.nil ?_
 refine CD.ret ?_
 refine ⟨.inr rfl, _, [], List.nil_sublist _, ret_one Tryd.results14 (res_cells (k := 0) (ds := [_, _, _]) (Nat.le_of_ble_eq_true rfl) lk rfl rfl Tryd.isAgg37 Tryd.sizeOf37 rfl rfl), ?_⟩
 exact ⟨rfl, rfl⟩

theorem pA (hm : (0, marksC) ∈ G) (hw : (2, wordsC) ∈ G) (hk : (5, cmpC) ∈ G) (hty : (1, typesC) ∈ G) {k : Int} (h0 : 0 ≤ k) (h1 : k ≤ 9223372036854775807) : VP Tryd.prog G 13 [.list 3 ((hdD ++ [miT, nuT k]).flatMap cT) (hdD ++ [miT, nuT k]).length] (.tup [.agg (cSt (delS [litN (-k)])), .v (.int .i64 ((0 : Nat) : Int)), .v (.int .i64 0)]) := parse_at hm hw hk hty (Nat.le_of_ble_eq_true rfl) (gd_app gd_hd (gd_cons gd_mi (gd_cons (gd_num h0 h1) gd_nil))) (stA k) (Nat.not_lt_of_le (Nat.le_of_ble_eq_true rfl))

theorem pB (hm : (0, marksC) ∈ G) (hw : (2, wordsC) ∈ G) (hk : (5, cmpC) ∈ G) (hty : (1, typesC) ∈ G) {k : Int} (h0 : 0 ≤ k) (h1 : k ≤ 9223372036854775807) : VP Tryd.prog G 13 [.list 3 ((hdD ++ [xT, miT, nuT k]).flatMap cT) (hdD ++ [xT, miT, nuT k]).length] (.tup [.agg (cSt (delS [colX, litN k, opN 9])), .v (.int .i64 ((0 : Nat) : Int)), .v (.int .i64 0)]) := parse_at hm hw hk hty (Nat.le_of_ble_eq_true rfl) (gd_app gd_hd (gd_cons gd_x (gd_cons gd_mi (gd_cons (gd_num h0 h1) gd_nil)))) (stB k) (Nat.not_lt_of_le (Nat.le_of_ble_eq_true rfl))

theorem pC (hm : (0, marksC) ∈ G) (hw : (2, wordsC) ∈ G) (hk : (5, cmpC) ∈ G) (hty : (1, typesC) ∈ G) {k : Int} (h0 : 0 ≤ k) (h1 : k ≤ 9223372036854775807) : VP Tryd.prog G 13 [.list 3 ((hdD ++ [xT, miT, miT, nuT k]).flatMap cT) (hdD ++ [xT, miT, miT, nuT k]).length] (.tup [.agg (cSt (delS [colX, litN (-k), opN 9])), .v (.int .i64 ((0 : Nat) : Int)), .v (.int .i64 0)]) := parse_at hm hw hk hty (Nat.le_of_ble_eq_true rfl) (gd_app gd_hd (gd_cons gd_x (gd_cons gd_mi (gd_cons gd_mi (gd_cons (gd_num h0 h1) gd_nil))))) (stC k) (Nat.not_lt_of_le (Nat.le_of_ble_eq_true rfl))

theorem pD (hm : (0, marksC) ∈ G) (hw : (2, wordsC) ∈ G) (hk : (5, cmpC) ∈ G) (hty : (1, typesC) ∈ G) : VP Tryd.prog G 13 [.list 3 ((hdD ++ [miT]).flatMap cT) (hdD ++ [miT]).length] (.tup [.agg (cSt stZ), .v (.int .i64 ((5 : Nat) : Int)), .v (.int .i64 7)]) := parse_un_at hm hw hk hty (Nat.le_of_ble_eq_true rfl) (gd_app gd_hd (gd_cons gd_mi gd_nil)) stD

theorem pE (hm : (0, marksC) ∈ G) (hw : (2, wordsC) ∈ G) (hk : (5, cmpC) ∈ G) (hty : (1, typesC) ∈ G) : VP Tryd.prog G 13 [.list 3 ((hdD ++ [miT, xT]).flatMap cT) (hdD ++ [miT, xT]).length] (.tup [.agg (cSt stZ), .v (.int .i64 ((5 : Nat) : Int)), .v (.int .i64 6)]) := parse_un_at hm hw hk hty (Nat.le_of_ble_eq_true rfl) (gd_app gd_hd (gd_cons gd_mi (gd_cons gd_x gd_nil))) stE

theorem info24_Pd1 : (Tryd.prog.info? 24).map (fun i => (i.zero, i.size, i.bytes)) = some (some (.agg #[.int .i64 0, .string ⟨#[]⟩, .int .i64 0]), 3, 32) := by kernel_rfl

set_option maxHeartbeats 4000000 in
set_option maxRecDepth 100000 in
theorem minus_vp (hm : (0, marksC) ∈ G) (hw : (2, wordsC) ∈ G) (hk : (5, cmpC) ∈ G) (hty : (1, typesC) ∈ G) (n : Int) (n1 : -9223372036854775808 ≤ n) (n2 : n ≤ 9223372036854775807) : VP Tryd.prog G 3 [.v (.int .i64 n)] (.v (.bool true)) := by
 refine VC.body Tryd.func3 rfl Tryd.ntmps3 (Nat.le_of_ble_eq_true rfl) fun X0 w0 S00 => ?_
 have hmx : maxLen = 9223372036854775807 := rfl
 have hkb := pickedF_bd n (show (1 : Int) ≤ 4611686018427387904 by decide)
 have hpn := picked_vp G n 4611686018427387904 n1 n2 (by decide)
 generalize pickedF n 4611686018427387904 = k at *
 obtain ⟨h0, h1⟩ := hkb
 have hA := pA hm hw hk hty h0 (show k ≤ 9223372036854775807 by omega)
 have hB := pB hm hw hk hty h0 (show k ≤ 9223372036854775807 by omega)
 have hC := pC hm hw hk hty h0 (show k ≤ 9223372036854775807 by omega)
 refine sr_ ?_
 refine os_ mv_ ?_
 refine nm_ [0] ?_
 refine sr_ ?_
 refine os_ mv_ ?_
 refine OD.callP (wants_plain rfl) rfl rfl rfl Tryd.call11 (hpn) ⟨ot, opd_const, trivial⟩ ?_
 refine os_ mv_ ?_
 refine OD.wk (Wk.as_ (n := 179) (l' := [(3, _)]) (S' := []) rfl rfl ⟨lk, trivial⟩) ?_
 refine OD.nil ?_
 refine sr_ ?_
 refine os_ mv_ ?_
 refine OD.still (wants_plain rfl) rfl (still_bld (pl := [(0, _), (2, _)]) (ds := [_, _, _]) rfl Tryd.zeroValue24 Tryd.runUnderlying24 places24_Pd1 ⟨rfl, opd_const, rfl, ot, trivial⟩ rfl rfl) ?_
 refine OD.alloc (ds := [_, _, _]) (wants_plain rfl) rfl rfl Tryd.zeroValue24 rfl (fun b4 => ?_)
 refine OD.store (k := 0) (cs' := [_, _, _]) (wants_plain rfl) rfl rfl ot rfl rfl ot rfl rfl Tryd.sizeOf24 rfl rfl rfl ?_
 refine OD.wk (Wk.as_ (n := 179) (l' := [(3, _), (4, _)]) (S' := [⟨b4, 24, 3, [_, _, _]⟩]) rfl rfl ⟨lk, lk, trivial⟩) ?_
 refine OD.nil ?_
 refine sr_ ?_
 refine OD.still (wants_plain rfl) rfl (still_bld (pl := [(0, _), (1, _)]) (ds := [_, _, _]) rfl Tryd.zeroValue24 Tryd.runUnderlying24 places24_Pd1 ⟨rfl, opd_const, rfl, opd_const, trivial⟩ rfl rfl) ?_
 refine OD.alloc (ds := [_, _, _]) (wants_plain rfl) rfl rfl Tryd.zeroValue24 rfl (fun b5 => ?_)
 refine OD.store (k := 0) (cs' := [_, _, _]) (wants_plain rfl) rfl rfl ot rfl rfl ot rfl rfl Tryd.sizeOf24 rfl rfl rfl ?_
 refine OD.wk (Wk.as_ (n := 179) (l' := [(3, _), (4, _), (5, _)]) (S' := [⟨b5, 24, 3, [_, _, _]⟩, ⟨b4, 24, 3, [_, _, _]⟩]) rfl rfl ⟨lk, lk, lk, trivial⟩) ?_
 refine OD.nil ?_
 refine sr_ ?_
 refine os_ mv_ ?_
 refine nm_ [3, 4, 5, 6] ?_
 refine sr_ ?_
 refine os_ mv_ ?_
 refine OD.callv (f := 12) (args := [_]) (all := [_]) (Sf := []) (wants_plain rfl) rfl rfl ot Tryd.call12 (w_vp ⟨#[68, 69, 76, 69, 84, 69]⟩) rfl ⟨opd_const, trivial⟩ (perm_none _)  ?_; rintro _ _ ⟨rfl, rfl⟩
 refine os_ mv_ ?_
 refine OD.callv (f := 12) (args := [_]) (all := [_]) (Sf := []) (wants_plain rfl) rfl rfl ot Tryd.call12 (w_vp ⟨#[70, 82, 79, 77]⟩) rfl ⟨opd_const, trivial⟩ (perm_none _)  ?_; rintro _ _ ⟨rfl, rfl⟩
 refine os_ mv_ ?_
 refine OD.callv (f := 12) (args := [_]) (all := [_]) (Sf := []) (wants_plain rfl) rfl rfl ot Tryd.call12 (w_vp ⟨#[116]⟩) rfl ⟨opd_const, trivial⟩ (perm_none _)  ?_; rintro _ _ ⟨rfl, rfl⟩
 refine os_ mv_ ?_
 refine OD.callv (f := 12) (args := [_]) (all := [_]) (Sf := []) (wants_plain rfl) rfl rfl ot Tryd.call12 (w_vp ⟨#[87, 72, 69, 82, 69]⟩) rfl ⟨opd_const, trivial⟩ (perm_none _)  ?_; rintro _ _ ⟨rfl, rfl⟩
 refine OD.bldS (pl := numD 0 [_, _, _, _]) (zvs := [.int .i64 0, .string ⟨#[]⟩, .int .i64 0, .int .i64 0, .string ⟨#[]⟩, .int .i64 0, .int .i64 0, .string ⟨#[]⟩, .int .i64 0, .int .i64 0, .string ⟨#[]⟩, .int .i64 0]) (ds := [_, _, _, _, _, _, _, _, _, _, _, _]) (wants_plain rfl) rfl rfl Tryd.zeroValue24 Tryd.runUnderlying26 Tryd.sizeOf24 rfl rfl (by kernel_rfl) ⟨rfl, ot, rfl, ot, rfl, ot, rfl, ot, trivial⟩ (by exact rfl) (fill_full (by exact rfl) (by exact rfl) (by exact rfl)) (fun b36 => ?_)
 refine OD.give (k := 0) (t := 36) (sz := 3) (m := 4) rfl lk rfl rfl rfl (Nat.le_refl _) (by decide) ?_
 refine os_ mv_ ?_
 refine OD.wk (Wk.as_ (n := 179) (l' := [(3, _), (4, _), (5, _), (6, _), (7, _)]) (S' := [⟨b5, 24, 3, [_, _, _]⟩, ⟨b4, 24, 3, [_, _, _]⟩]) rfl rfl ⟨lk, lk, lk, lk, lk, trivial⟩) ?_
 refine OD.nil ?_
 refine CD.seq ?_
 refine CD.mono (Q := fun e__ y__ => e__ = Exit.normal ∧ ∃ (b8 : Nat), (True) ∧ Wk y__ (⟨179, [(3, .v (.int .i64 k)), (4, .v (.pointer (some ⟨b4, 0, none⟩))), (5, .v (.pointer (some ⟨b5, 0, none⟩))), (6, .clo (.func 12) []), (7, .list 3 (hdD.flatMap cT) 4), (8, .v (.pointer (some ⟨b8, 0, none⟩))), (10, .v (.int .i64 0))], [⟨b8, 32, 12, cSt (delS [litN (-k)])⟩, ⟨b5, 24, 3, cT miT⟩, ⟨b4, 24, 3, cT (nuT k)⟩]⟩ : St)) ?_ ?_
 ·skip
  refine CD.draw (bks _) (by kernel_rfl) (fun _ h => h) ?_
  refine a0_ 0 rfl mv_ ?_
  refine a0_ 2 rfl (lab_ 0 [_, _, _]) ?_
  refine a0_ 3 rfl (lab_ 1 [_, _, _]) ?_
  refine AD0.later rfl ?_
  refine AD.three (i := 1) (j := 4) (k := 11) (by kernel_rfl) ?_ ?_ ?_
  ·skip
   refine AStep.appendG (ls := []) (new := hdD) (Sq := []) cT_len cT_one rfl (wants_plain rfl) rfl rfl Tryd.underlying26 info24_Pd1 rfl (by decide) opd_const ownL_nil (perm_r11 (A := [_, _])) ot (Nat.le_of_ble_eq_true rfl) (Nat.le_of_ble_eq_true rfl) (Nat.le_of_ble_eq_true rfl) (fun b39 cp39 h139 h239 => ?_)
   refine AD.perm (perm_q11 (S1 := [⟨b39, 24, cp39 * 3, List.flatMap cT ([] ++ hdD)⟩]) (A := [_, _])) ?_
   refine AD.two (i := 4) (j := 11) (by kernel_rfl) ?_ ?_
   ·skip
    refine AStep.bldS (pl := numD 0 [_, _]) (zvs := [.int .i64 0, .string ⟨#[]⟩, .int .i64 0, .int .i64 0, .string ⟨#[]⟩, .int .i64 0]) (ds := [_, _, _, _, _, _]) rfl (wants_plain rfl) rfl rfl Tryd.zeroValue24 Tryd.runUnderlying26 Tryd.sizeOf24 rfl rfl (by kernel_rfl) ⟨rfl, ot, rfl, ot, trivial⟩ (by exact rfl) (fill_full (by exact rfl) (by exact rfl) (by exact rfl)) (fun b42 => ?_)
    refine AD.give (k := 0) (t := 42) (sz := 3) (m := 2) rfl lk rfl rfl rfl (Nat.le_refl _) (by decide) ?_
    refine AD.two (i := 5) (j := 11) (by kernel_rfl) ?_ ?_
    ·skip
     refine AStep.appendG (ls := ([] ++ hdD)) (new := [miT, nuT k]) (Sq := [⟨b39, 24, cp39 * 3, List.flatMap cT ([] ++ hdD)⟩]) cT_len cT_one rfl (wants_plain rfl) rfl rfl Tryd.underlying26 info24_Pd1 rfl (by decide) ot (ownL_row h139 h239) (perm_r11 (A := [_, _])) ot (Nat.le_of_ble_eq_true rfl) (Nat.le_of_ble_eq_true rfl) (Nat.le_of_ble_eq_true rfl) (fun b43 cp43 h143 h243 => ?_)
     refine AD.perm (perm_q11 (S1 := [⟨b43, 24, cp43 * 3, List.flatMap cT (([] ++ hdD) ++ [miT, nuT k])⟩]) (A := [_, _])) ?_
     refine AD.giveL (t := 43) (Sq := [⟨b43, 24, cp43 * 3, List.flatMap cT (([] ++ hdD) ++ [miT, nuT k])⟩]) lk (ownL_row h143 h243) (fm_len cT_len _) (perm_r11 (A := [_, _])) ?_
     refine AD.two (i := 6) (j := 11) (by kernel_rfl) ?_ ?_
     ·skip
      refine AStep.callP rfl (wants_plain rfl) rfl rfl rfl Tryd.call13 (hA) ⟨ot, trivial⟩ ?_
      refine a1_ 7 rfl mv_ ?_
      refine a1_ 8 rfl ex_ ?_
      refine a1_ 9 rfl ex_ ?_
      refine a1_ 10 rfl ex_ ?_
      refine AD.one (i := 11) (by kernel_rfl) ?_
      refine AStep.alloc (ds := [_, _, _, _, _, _, _, _, _, _, _, _]) rfl (wants_plain rfl) rfl rfl Tryd.zeroValue32 rfl (fun b8 => ?_)
      refine AD.one (i := 12) (by kernel_rfl) ?_
      refine AStep.store (k := 0) (cs' := [_, _, _, _, _, _, _, _, _, _, _, _]) rfl (wants_plain rfl) rfl rfl ot rfl rfl ot rfl rfl Tryd.sizeOf32 rfl rfl rfl (by intro b hb; simp [bks, St.put] at hb ⊢; try first | exact hb | omega | simp [hb] | (rcases hb with hb | hb <;> simp [hb]) | (rcases hb with hb | hb | hb <;> simp [hb])) ?_
      refine a1_ 13 rfl mv_ ?_
      refine a1_ 14 rfl mv_ ?_
      refine AD.wk (y := ⟨179, [(3, _), (4, _), (5, _), (6, _), (7, _), (8, _), (10, _)], [⟨b8, 32, 12, [_, _, _, _, _, _, _, _, _, _, _, _]⟩, ⟨b5, 24, 3, [_, _, _]⟩, ⟨b4, 24, 3, [_, _, _]⟩]⟩) (Wk.as_ rfl rfl ⟨lk, lk, lk, lk, lk, lk, lk, trivial⟩) rfl ?_
      refine AD.done (by kernel_rfl) ?_
      exact ⟨rfl, _, trivial, Wk.refl _⟩
     ·skip
      refine AStep.alloc (ds := [_, _, _, _, _, _, _, _, _, _, _, _]) rfl (wants_plain rfl) rfl rfl Tryd.zeroValue32 rfl (fun b8 => ?_)
      refine AD.one (i := 6) (by kernel_rfl) ?_
      refine AStep.callP rfl (wants_plain rfl) rfl rfl rfl Tryd.call13 (hA) ⟨ot, trivial⟩ ?_
      refine a1_ 7 rfl mv_ ?_
      refine a1_ 8 rfl ex_ ?_
      refine a1_ 9 rfl ex_ ?_
      refine a1_ 10 rfl ex_ ?_
      refine AD.one (i := 12) (by kernel_rfl) ?_
      refine AStep.store (k := 0) (cs' := [_, _, _, _, _, _, _, _, _, _, _, _]) rfl (wants_plain rfl) rfl rfl ot rfl rfl ot rfl rfl Tryd.sizeOf32 rfl rfl rfl (by intro b hb; simp [bks, St.put] at hb ⊢; try first | exact hb | omega | simp [hb] | (rcases hb with hb | hb <;> simp [hb]) | (rcases hb with hb | hb | hb <;> simp [hb])) ?_
      refine a1_ 13 rfl mv_ ?_
      refine a1_ 14 rfl mv_ ?_
      refine AD.wk (y := ⟨179, [(3, _), (4, _), (5, _), (6, _), (7, _), (8, _), (10, _)], [⟨b8, 32, 12, [_, _, _, _, _, _, _, _, _, _, _, _]⟩, ⟨b5, 24, 3, [_, _, _]⟩, ⟨b4, 24, 3, [_, _, _]⟩]⟩) (Wk.as_ rfl rfl ⟨lk, lk, lk, lk, lk, lk, lk, trivial⟩) rfl ?_
      refine AD.done (by kernel_rfl) ?_
      exact ⟨rfl, _, trivial, Wk.refl _⟩
    ·skip
     refine AStep.alloc (ds := [_, _, _, _, _, _, _, _, _, _, _, _]) rfl (wants_plain rfl) rfl rfl Tryd.zeroValue32 rfl (fun b8 => ?_)
     refine AD.one (i := 5) (by kernel_rfl) ?_
     refine AStep.appendG (ls := ([] ++ hdD)) (new := [miT, nuT k]) (Sq := [⟨b39, 24, cp39 * 3, List.flatMap cT ([] ++ hdD)⟩]) cT_len cT_one rfl (wants_plain rfl) rfl rfl Tryd.underlying26 info24_Pd1 rfl (by decide) ot (ownL_row h139 h239) (perm_r11 (A := [_, _, _])) ot (Nat.le_of_ble_eq_true rfl) (Nat.le_of_ble_eq_true rfl) (Nat.le_of_ble_eq_true rfl) (fun b43 cp43 h143 h243 => ?_)
     refine AD.perm (perm_q11 (S1 := [⟨b43, 24, cp43 * 3, List.flatMap cT (([] ++ hdD) ++ [miT, nuT k])⟩]) (A := [_, _, _])) ?_
     refine AD.giveL (t := 43) (Sq := [⟨b43, 24, cp43 * 3, List.flatMap cT (([] ++ hdD) ++ [miT, nuT k])⟩]) lk (ownL_row h143 h243) (fm_len cT_len _) (perm_r11 (A := [_, _, _])) ?_
     refine AD.one (i := 6) (by kernel_rfl) ?_
     refine AStep.callP rfl (wants_plain rfl) rfl rfl rfl Tryd.call13 (hA) ⟨ot, trivial⟩ ?_
     refine a1_ 7 rfl mv_ ?_
     refine a1_ 8 rfl ex_ ?_
     refine a1_ 9 rfl ex_ ?_
     refine a1_ 10 rfl ex_ ?_
     refine AD.one (i := 12) (by kernel_rfl) ?_
     refine AStep.store (k := 0) (cs' := [_, _, _, _, _, _, _, _, _, _, _, _]) rfl (wants_plain rfl) rfl rfl ot rfl rfl ot rfl rfl Tryd.sizeOf32 rfl rfl rfl (by intro b hb; simp [bks, St.put] at hb ⊢; try first | exact hb | omega | simp [hb] | (rcases hb with hb | hb <;> simp [hb]) | (rcases hb with hb | hb | hb <;> simp [hb])) ?_
     refine a1_ 13 rfl mv_ ?_
     refine a1_ 14 rfl mv_ ?_
     refine AD.wk (y := ⟨179, [(3, _), (4, _), (5, _), (6, _), (7, _), (8, _), (10, _)], [⟨b8, 32, 12, [_, _, _, _, _, _, _, _, _, _, _, _]⟩, ⟨b5, 24, 3, [_, _, _]⟩, ⟨b4, 24, 3, [_, _, _]⟩]⟩) (Wk.as_ rfl rfl ⟨lk, lk, lk, lk, lk, lk, lk, trivial⟩) rfl ?_
     refine AD.done (by kernel_rfl) ?_
     exact ⟨rfl, _, trivial, Wk.refl _⟩
   ·skip
    refine AStep.alloc (ds := [_, _, _, _, _, _, _, _, _, _, _, _]) rfl (wants_plain rfl) rfl rfl Tryd.zeroValue32 rfl (fun b8 => ?_)
    refine AD.one (i := 4) (by kernel_rfl) ?_
    refine AStep.bldS (pl := numD 0 [_, _]) (zvs := [.int .i64 0, .string ⟨#[]⟩, .int .i64 0, .int .i64 0, .string ⟨#[]⟩, .int .i64 0]) (ds := [_, _, _, _, _, _]) rfl (wants_plain rfl) rfl rfl Tryd.zeroValue24 Tryd.runUnderlying26 Tryd.sizeOf24 rfl rfl (by kernel_rfl) ⟨rfl, ot, rfl, ot, trivial⟩ (by exact rfl) (fill_full (by exact rfl) (by exact rfl) (by exact rfl)) (fun b42 => ?_)
    refine AD.give (k := 0) (t := 42) (sz := 3) (m := 2) rfl lk rfl rfl rfl (Nat.le_refl _) (by decide) ?_
    refine AD.one (i := 5) (by kernel_rfl) ?_
    refine AStep.appendG (ls := ([] ++ hdD)) (new := [miT, nuT k]) (Sq := [⟨b39, 24, cp39 * 3, List.flatMap cT ([] ++ hdD)⟩]) cT_len cT_one rfl (wants_plain rfl) rfl rfl Tryd.underlying26 info24_Pd1 rfl (by decide) ot (ownL_row h139 h239) (perm_r11 (A := [_, _, _])) ot (Nat.le_of_ble_eq_true rfl) (Nat.le_of_ble_eq_true rfl) (Nat.le_of_ble_eq_true rfl) (fun b43 cp43 h143 h243 => ?_)
    refine AD.perm (perm_q11 (S1 := [⟨b43, 24, cp43 * 3, List.flatMap cT (([] ++ hdD) ++ [miT, nuT k])⟩]) (A := [_, _, _])) ?_
    refine AD.giveL (t := 43) (Sq := [⟨b43, 24, cp43 * 3, List.flatMap cT (([] ++ hdD) ++ [miT, nuT k])⟩]) lk (ownL_row h143 h243) (fm_len cT_len _) (perm_r11 (A := [_, _, _])) ?_
    refine AD.one (i := 6) (by kernel_rfl) ?_
    refine AStep.callP rfl (wants_plain rfl) rfl rfl rfl Tryd.call13 (hA) ⟨ot, trivial⟩ ?_
    refine a1_ 7 rfl mv_ ?_
    refine a1_ 8 rfl ex_ ?_
    refine a1_ 9 rfl ex_ ?_
    refine a1_ 10 rfl ex_ ?_
    refine AD.one (i := 12) (by kernel_rfl) ?_
    refine AStep.store (k := 0) (cs' := [_, _, _, _, _, _, _, _, _, _, _, _]) rfl (wants_plain rfl) rfl rfl ot rfl rfl ot rfl rfl Tryd.sizeOf32 rfl rfl rfl (by intro b hb; simp [bks, St.put] at hb ⊢; try first | exact hb | omega | simp [hb] | (rcases hb with hb | hb <;> simp [hb]) | (rcases hb with hb | hb | hb <;> simp [hb])) ?_
    refine a1_ 13 rfl mv_ ?_
    refine a1_ 14 rfl mv_ ?_
    refine AD.wk (y := ⟨179, [(3, _), (4, _), (5, _), (6, _), (7, _), (8, _), (10, _)], [⟨b8, 32, 12, [_, _, _, _, _, _, _, _, _, _, _, _]⟩, ⟨b5, 24, 3, [_, _, _]⟩, ⟨b4, 24, 3, [_, _, _]⟩]⟩) (Wk.as_ rfl rfl ⟨lk, lk, lk, lk, lk, lk, lk, trivial⟩) rfl ?_
    refine AD.done (by kernel_rfl) ?_
    exact ⟨rfl, _, trivial, Wk.refl _⟩
  ·skip
   refine AStep.bldS (pl := numD 0 [_, _]) (zvs := [.int .i64 0, .string ⟨#[]⟩, .int .i64 0, .int .i64 0, .string ⟨#[]⟩, .int .i64 0]) (ds := [_, _, _, _, _, _]) rfl (wants_plain rfl) rfl rfl Tryd.zeroValue24 Tryd.runUnderlying26 Tryd.sizeOf24 rfl rfl (by kernel_rfl) ⟨rfl, ot, rfl, ot, trivial⟩ (by exact rfl) (fill_full (by exact rfl) (by exact rfl) (by exact rfl)) (fun b42 => ?_)
   refine AD.give (k := 0) (t := 42) (sz := 3) (m := 2) rfl lk rfl rfl rfl (Nat.le_refl _) (by decide) ?_
   refine AD.two (i := 1) (j := 11) (by kernel_rfl) ?_ ?_
   ·skip
    refine AStep.appendG (ls := []) (new := hdD) (Sq := []) cT_len cT_one rfl (wants_plain rfl) rfl rfl Tryd.underlying26 info24_Pd1 rfl (by decide) opd_const ownL_nil (perm_r11 (A := [_, _])) ot (Nat.le_of_ble_eq_true rfl) (Nat.le_of_ble_eq_true rfl) (Nat.le_of_ble_eq_true rfl) (fun b39 cp39 h139 h239 => ?_)
    refine AD.perm (perm_q11 (S1 := [⟨b39, 24, cp39 * 3, List.flatMap cT ([] ++ hdD)⟩]) (A := [_, _])) ?_
    refine AD.two (i := 5) (j := 11) (by kernel_rfl) ?_ ?_
    ·skip
     refine AStep.appendG (ls := ([] ++ hdD)) (new := [miT, nuT k]) (Sq := [⟨b39, 24, cp39 * 3, List.flatMap cT ([] ++ hdD)⟩]) cT_len cT_one rfl (wants_plain rfl) rfl rfl Tryd.underlying26 info24_Pd1 rfl (by decide) ot (ownL_row h139 h239) (perm_r11 (A := [_, _])) ot (Nat.le_of_ble_eq_true rfl) (Nat.le_of_ble_eq_true rfl) (Nat.le_of_ble_eq_true rfl) (fun b43 cp43 h143 h243 => ?_)
     refine AD.perm (perm_q11 (S1 := [⟨b43, 24, cp43 * 3, List.flatMap cT (([] ++ hdD) ++ [miT, nuT k])⟩]) (A := [_, _])) ?_
     refine AD.giveL (t := 43) (Sq := [⟨b43, 24, cp43 * 3, List.flatMap cT (([] ++ hdD) ++ [miT, nuT k])⟩]) lk (ownL_row h143 h243) (fm_len cT_len _) (perm_r11 (A := [_, _])) ?_
     refine AD.two (i := 6) (j := 11) (by kernel_rfl) ?_ ?_
     ·skip
      refine AStep.callP rfl (wants_plain rfl) rfl rfl rfl Tryd.call13 (hA) ⟨ot, trivial⟩ ?_
      refine a1_ 7 rfl mv_ ?_
      refine a1_ 8 rfl ex_ ?_
      refine a1_ 9 rfl ex_ ?_
      refine a1_ 10 rfl ex_ ?_
      refine AD.one (i := 11) (by kernel_rfl) ?_
      refine AStep.alloc (ds := [_, _, _, _, _, _, _, _, _, _, _, _]) rfl (wants_plain rfl) rfl rfl Tryd.zeroValue32 rfl (fun b8 => ?_)
      refine AD.one (i := 12) (by kernel_rfl) ?_
      refine AStep.store (k := 0) (cs' := [_, _, _, _, _, _, _, _, _, _, _, _]) rfl (wants_plain rfl) rfl rfl ot rfl rfl ot rfl rfl Tryd.sizeOf32 rfl rfl rfl (by intro b hb; simp [bks, St.put] at hb ⊢; try first | exact hb | omega | simp [hb] | (rcases hb with hb | hb <;> simp [hb]) | (rcases hb with hb | hb | hb <;> simp [hb])) ?_
      refine a1_ 13 rfl mv_ ?_
      refine a1_ 14 rfl mv_ ?_
      refine AD.wk (y := ⟨179, [(3, _), (4, _), (5, _), (6, _), (7, _), (8, _), (10, _)], [⟨b8, 32, 12, [_, _, _, _, _, _, _, _, _, _, _, _]⟩, ⟨b5, 24, 3, [_, _, _]⟩, ⟨b4, 24, 3, [_, _, _]⟩]⟩) (Wk.as_ rfl rfl ⟨lk, lk, lk, lk, lk, lk, lk, trivial⟩) rfl ?_
      refine AD.done (by kernel_rfl) ?_
      exact ⟨rfl, _, trivial, Wk.refl _⟩
     ·skip
      refine AStep.alloc (ds := [_, _, _, _, _, _, _, _, _, _, _, _]) rfl (wants_plain rfl) rfl rfl Tryd.zeroValue32 rfl (fun b8 => ?_)
      refine AD.one (i := 6) (by kernel_rfl) ?_
      refine AStep.callP rfl (wants_plain rfl) rfl rfl rfl Tryd.call13 (hA) ⟨ot, trivial⟩ ?_
      refine a1_ 7 rfl mv_ ?_
      refine a1_ 8 rfl ex_ ?_
      refine a1_ 9 rfl ex_ ?_
      refine a1_ 10 rfl ex_ ?_
      refine AD.one (i := 12) (by kernel_rfl) ?_
      refine AStep.store (k := 0) (cs' := [_, _, _, _, _, _, _, _, _, _, _, _]) rfl (wants_plain rfl) rfl rfl ot rfl rfl ot rfl rfl Tryd.sizeOf32 rfl rfl rfl (by intro b hb; simp [bks, St.put] at hb ⊢; try first | exact hb | omega | simp [hb] | (rcases hb with hb | hb <;> simp [hb]) | (rcases hb with hb | hb | hb <;> simp [hb])) ?_
      refine a1_ 13 rfl mv_ ?_
      refine a1_ 14 rfl mv_ ?_
      refine AD.wk (y := ⟨179, [(3, _), (4, _), (5, _), (6, _), (7, _), (8, _), (10, _)], [⟨b8, 32, 12, [_, _, _, _, _, _, _, _, _, _, _, _]⟩, ⟨b5, 24, 3, [_, _, _]⟩, ⟨b4, 24, 3, [_, _, _]⟩]⟩) (Wk.as_ rfl rfl ⟨lk, lk, lk, lk, lk, lk, lk, trivial⟩) rfl ?_
      refine AD.done (by kernel_rfl) ?_
      exact ⟨rfl, _, trivial, Wk.refl _⟩
    ·skip
     refine AStep.alloc (ds := [_, _, _, _, _, _, _, _, _, _, _, _]) rfl (wants_plain rfl) rfl rfl Tryd.zeroValue32 rfl (fun b8 => ?_)
     refine AD.one (i := 5) (by kernel_rfl) ?_
     refine AStep.appendG (ls := ([] ++ hdD)) (new := [miT, nuT k]) (Sq := [⟨b39, 24, cp39 * 3, List.flatMap cT ([] ++ hdD)⟩]) cT_len cT_one rfl (wants_plain rfl) rfl rfl Tryd.underlying26 info24_Pd1 rfl (by decide) ot (ownL_row h139 h239) (perm_r11 (A := [_, _, _])) ot (Nat.le_of_ble_eq_true rfl) (Nat.le_of_ble_eq_true rfl) (Nat.le_of_ble_eq_true rfl) (fun b43 cp43 h143 h243 => ?_)
     refine AD.perm (perm_q11 (S1 := [⟨b43, 24, cp43 * 3, List.flatMap cT (([] ++ hdD) ++ [miT, nuT k])⟩]) (A := [_, _, _])) ?_
     refine AD.giveL (t := 43) (Sq := [⟨b43, 24, cp43 * 3, List.flatMap cT (([] ++ hdD) ++ [miT, nuT k])⟩]) lk (ownL_row h143 h243) (fm_len cT_len _) (perm_r11 (A := [_, _, _])) ?_
     refine AD.one (i := 6) (by kernel_rfl) ?_
     refine AStep.callP rfl (wants_plain rfl) rfl rfl rfl Tryd.call13 (hA) ⟨ot, trivial⟩ ?_
     refine a1_ 7 rfl mv_ ?_
     refine a1_ 8 rfl ex_ ?_
     refine a1_ 9 rfl ex_ ?_
     refine a1_ 10 rfl ex_ ?_
     refine AD.one (i := 12) (by kernel_rfl) ?_
     refine AStep.store (k := 0) (cs' := [_, _, _, _, _, _, _, _, _, _, _, _]) rfl (wants_plain rfl) rfl rfl ot rfl rfl ot rfl rfl Tryd.sizeOf32 rfl rfl rfl (by intro b hb; simp [bks, St.put] at hb ⊢; try first | exact hb | omega | simp [hb] | (rcases hb with hb | hb <;> simp [hb]) | (rcases hb with hb | hb | hb <;> simp [hb])) ?_
     refine a1_ 13 rfl mv_ ?_
     refine a1_ 14 rfl mv_ ?_
     refine AD.wk (y := ⟨179, [(3, _), (4, _), (5, _), (6, _), (7, _), (8, _), (10, _)], [⟨b8, 32, 12, [_, _, _, _, _, _, _, _, _, _, _, _]⟩, ⟨b5, 24, 3, [_, _, _]⟩, ⟨b4, 24, 3, [_, _, _]⟩]⟩) (Wk.as_ rfl rfl ⟨lk, lk, lk, lk, lk, lk, lk, trivial⟩) rfl ?_
     refine AD.done (by kernel_rfl) ?_
     exact ⟨rfl, _, trivial, Wk.refl _⟩
   ·skip
    refine AStep.alloc (ds := [_, _, _, _, _, _, _, _, _, _, _, _]) rfl (wants_plain rfl) rfl rfl Tryd.zeroValue32 rfl (fun b8 => ?_)
    refine AD.one (i := 1) (by kernel_rfl) ?_
    refine AStep.appendG (ls := []) (new := hdD) (Sq := []) cT_len cT_one rfl (wants_plain rfl) rfl rfl Tryd.underlying26 info24_Pd1 rfl (by decide) opd_const ownL_nil (perm_r11 (A := [_, _, _])) ot (Nat.le_of_ble_eq_true rfl) (Nat.le_of_ble_eq_true rfl) (Nat.le_of_ble_eq_true rfl) (fun b39 cp39 h139 h239 => ?_)
    refine AD.perm (perm_q11 (S1 := [⟨b39, 24, cp39 * 3, List.flatMap cT ([] ++ hdD)⟩]) (A := [_, _, _])) ?_
    refine AD.one (i := 5) (by kernel_rfl) ?_
    refine AStep.appendG (ls := ([] ++ hdD)) (new := [miT, nuT k]) (Sq := [⟨b39, 24, cp39 * 3, List.flatMap cT ([] ++ hdD)⟩]) cT_len cT_one rfl (wants_plain rfl) rfl rfl Tryd.underlying26 info24_Pd1 rfl (by decide) ot (ownL_row h139 h239) (perm_r11 (A := [_, _, _])) ot (Nat.le_of_ble_eq_true rfl) (Nat.le_of_ble_eq_true rfl) (Nat.le_of_ble_eq_true rfl) (fun b43 cp43 h143 h243 => ?_)
    refine AD.perm (perm_q11 (S1 := [⟨b43, 24, cp43 * 3, List.flatMap cT (([] ++ hdD) ++ [miT, nuT k])⟩]) (A := [_, _, _])) ?_
    refine AD.giveL (t := 43) (Sq := [⟨b43, 24, cp43 * 3, List.flatMap cT (([] ++ hdD) ++ [miT, nuT k])⟩]) lk (ownL_row h143 h243) (fm_len cT_len _) (perm_r11 (A := [_, _, _])) ?_
    refine AD.one (i := 6) (by kernel_rfl) ?_
    refine AStep.callP rfl (wants_plain rfl) rfl rfl rfl Tryd.call13 (hA) ⟨ot, trivial⟩ ?_
    refine a1_ 7 rfl mv_ ?_
    refine a1_ 8 rfl ex_ ?_
    refine a1_ 9 rfl ex_ ?_
    refine a1_ 10 rfl ex_ ?_
    refine AD.one (i := 12) (by kernel_rfl) ?_
    refine AStep.store (k := 0) (cs' := [_, _, _, _, _, _, _, _, _, _, _, _]) rfl (wants_plain rfl) rfl rfl ot rfl rfl ot rfl rfl Tryd.sizeOf32 rfl rfl rfl (by intro b hb; simp [bks, St.put] at hb ⊢; try first | exact hb | omega | simp [hb] | (rcases hb with hb | hb <;> simp [hb]) | (rcases hb with hb | hb | hb <;> simp [hb])) ?_
    refine a1_ 13 rfl mv_ ?_
    refine a1_ 14 rfl mv_ ?_
    refine AD.wk (y := ⟨179, [(3, _), (4, _), (5, _), (6, _), (7, _), (8, _), (10, _)], [⟨b8, 32, 12, [_, _, _, _, _, _, _, _, _, _, _, _]⟩, ⟨b5, 24, 3, [_, _, _]⟩, ⟨b4, 24, 3, [_, _, _]⟩]⟩) (Wk.as_ rfl rfl ⟨lk, lk, lk, lk, lk, lk, lk, trivial⟩) rfl ?_
    refine AD.done (by kernel_rfl) ?_
    exact ⟨rfl, _, trivial, Wk.refl _⟩
  ·skip
   refine AStep.alloc (ds := [_, _, _, _, _, _, _, _, _, _, _, _]) rfl (wants_plain rfl) rfl rfl Tryd.zeroValue32 rfl (fun b8 => ?_)
   refine AD.two (i := 1) (j := 4) (by kernel_rfl) ?_ ?_
   ·skip
    refine AStep.appendG (ls := []) (new := hdD) (Sq := []) cT_len cT_one rfl (wants_plain rfl) rfl rfl Tryd.underlying26 info24_Pd1 rfl (by decide) opd_const ownL_nil (perm_r11 (A := [_, _, _])) ot (Nat.le_of_ble_eq_true rfl) (Nat.le_of_ble_eq_true rfl) (Nat.le_of_ble_eq_true rfl) (fun b39 cp39 h139 h239 => ?_)
    refine AD.perm (perm_q11 (S1 := [⟨b39, 24, cp39 * 3, List.flatMap cT ([] ++ hdD)⟩]) (A := [_, _, _])) ?_
    refine AD.one (i := 4) (by kernel_rfl) ?_
    refine AStep.bldS (pl := numD 0 [_, _]) (zvs := [.int .i64 0, .string ⟨#[]⟩, .int .i64 0, .int .i64 0, .string ⟨#[]⟩, .int .i64 0]) (ds := [_, _, _, _, _, _]) rfl (wants_plain rfl) rfl rfl Tryd.zeroValue24 Tryd.runUnderlying26 Tryd.sizeOf24 rfl rfl (by kernel_rfl) ⟨rfl, ot, rfl, ot, trivial⟩ (by exact rfl) (fill_full (by exact rfl) (by exact rfl) (by exact rfl)) (fun b42 => ?_)
    refine AD.give (k := 0) (t := 42) (sz := 3) (m := 2) rfl lk rfl rfl rfl (Nat.le_refl _) (by decide) ?_
    refine AD.one (i := 5) (by kernel_rfl) ?_
    refine AStep.appendG (ls := ([] ++ hdD)) (new := [miT, nuT k]) (Sq := [⟨b39, 24, cp39 * 3, List.flatMap cT ([] ++ hdD)⟩]) cT_len cT_one rfl (wants_plain rfl) rfl rfl Tryd.underlying26 info24_Pd1 rfl (by decide) ot (ownL_row h139 h239) (perm_r11 (A := [_, _, _])) ot (Nat.le_of_ble_eq_true rfl) (Nat.le_of_ble_eq_true rfl) (Nat.le_of_ble_eq_true rfl) (fun b43 cp43 h143 h243 => ?_)
    refine AD.perm (perm_q11 (S1 := [⟨b43, 24, cp43 * 3, List.flatMap cT (([] ++ hdD) ++ [miT, nuT k])⟩]) (A := [_, _, _])) ?_
    refine AD.giveL (t := 43) (Sq := [⟨b43, 24, cp43 * 3, List.flatMap cT (([] ++ hdD) ++ [miT, nuT k])⟩]) lk (ownL_row h143 h243) (fm_len cT_len _) (perm_r11 (A := [_, _, _])) ?_
    refine AD.one (i := 6) (by kernel_rfl) ?_
    refine AStep.callP rfl (wants_plain rfl) rfl rfl rfl Tryd.call13 (hA) ⟨ot, trivial⟩ ?_
    refine a1_ 7 rfl mv_ ?_
    refine a1_ 8 rfl ex_ ?_
    refine a1_ 9 rfl ex_ ?_
    refine a1_ 10 rfl ex_ ?_
    refine AD.one (i := 12) (by kernel_rfl) ?_
    refine AStep.store (k := 0) (cs' := [_, _, _, _, _, _, _, _, _, _, _, _]) rfl (wants_plain rfl) rfl rfl ot rfl rfl ot rfl rfl Tryd.sizeOf32 rfl rfl rfl (by intro b hb; simp [bks, St.put] at hb ⊢; try first | exact hb | omega | simp [hb] | (rcases hb with hb | hb <;> simp [hb]) | (rcases hb with hb | hb | hb <;> simp [hb])) ?_
    refine a1_ 13 rfl mv_ ?_
    refine a1_ 14 rfl mv_ ?_
    refine AD.wk (y := ⟨179, [(3, _), (4, _), (5, _), (6, _), (7, _), (8, _), (10, _)], [⟨b8, 32, 12, [_, _, _, _, _, _, _, _, _, _, _, _]⟩, ⟨b5, 24, 3, [_, _, _]⟩, ⟨b4, 24, 3, [_, _, _]⟩]⟩) (Wk.as_ rfl rfl ⟨lk, lk, lk, lk, lk, lk, lk, trivial⟩) rfl ?_
    refine AD.done (by kernel_rfl) ?_
    exact ⟨rfl, _, trivial, Wk.refl _⟩
   ·skip
    refine AStep.bldS (pl := numD 0 [_, _]) (zvs := [.int .i64 0, .string ⟨#[]⟩, .int .i64 0, .int .i64 0, .string ⟨#[]⟩, .int .i64 0]) (ds := [_, _, _, _, _, _]) rfl (wants_plain rfl) rfl rfl Tryd.zeroValue24 Tryd.runUnderlying26 Tryd.sizeOf24 rfl rfl (by kernel_rfl) ⟨rfl, ot, rfl, ot, trivial⟩ (by exact rfl) (fill_full (by exact rfl) (by exact rfl) (by exact rfl)) (fun b42 => ?_)
    refine AD.give (k := 0) (t := 42) (sz := 3) (m := 2) rfl lk rfl rfl rfl (Nat.le_refl _) (by decide) ?_
    refine AD.one (i := 1) (by kernel_rfl) ?_
    refine AStep.appendG (ls := []) (new := hdD) (Sq := []) cT_len cT_one rfl (wants_plain rfl) rfl rfl Tryd.underlying26 info24_Pd1 rfl (by decide) opd_const ownL_nil (perm_r11 (A := [_, _, _])) ot (Nat.le_of_ble_eq_true rfl) (Nat.le_of_ble_eq_true rfl) (Nat.le_of_ble_eq_true rfl) (fun b39 cp39 h139 h239 => ?_)
    refine AD.perm (perm_q11 (S1 := [⟨b39, 24, cp39 * 3, List.flatMap cT ([] ++ hdD)⟩]) (A := [_, _, _])) ?_
    refine AD.one (i := 5) (by kernel_rfl) ?_
    refine AStep.appendG (ls := ([] ++ hdD)) (new := [miT, nuT k]) (Sq := [⟨b39, 24, cp39 * 3, List.flatMap cT ([] ++ hdD)⟩]) cT_len cT_one rfl (wants_plain rfl) rfl rfl Tryd.underlying26 info24_Pd1 rfl (by decide) ot (ownL_row h139 h239) (perm_r11 (A := [_, _, _])) ot (Nat.le_of_ble_eq_true rfl) (Nat.le_of_ble_eq_true rfl) (Nat.le_of_ble_eq_true rfl) (fun b43 cp43 h143 h243 => ?_)
    refine AD.perm (perm_q11 (S1 := [⟨b43, 24, cp43 * 3, List.flatMap cT (([] ++ hdD) ++ [miT, nuT k])⟩]) (A := [_, _, _])) ?_
    refine AD.giveL (t := 43) (Sq := [⟨b43, 24, cp43 * 3, List.flatMap cT (([] ++ hdD) ++ [miT, nuT k])⟩]) lk (ownL_row h143 h243) (fm_len cT_len _) (perm_r11 (A := [_, _, _])) ?_
    refine AD.one (i := 6) (by kernel_rfl) ?_
    refine AStep.callP rfl (wants_plain rfl) rfl rfl rfl Tryd.call13 (hA) ⟨ot, trivial⟩ ?_
    refine a1_ 7 rfl mv_ ?_
    refine a1_ 8 rfl ex_ ?_
    refine a1_ 9 rfl ex_ ?_
    refine a1_ 10 rfl ex_ ?_
    refine AD.one (i := 12) (by kernel_rfl) ?_
    refine AStep.store (k := 0) (cs' := [_, _, _, _, _, _, _, _, _, _, _, _]) rfl (wants_plain rfl) rfl rfl ot rfl rfl ot rfl rfl Tryd.sizeOf32 rfl rfl rfl (by intro b hb; simp [bks, St.put] at hb ⊢; try first | exact hb | omega | simp [hb] | (rcases hb with hb | hb <;> simp [hb]) | (rcases hb with hb | hb | hb <;> simp [hb])) ?_
    refine a1_ 13 rfl mv_ ?_
    refine a1_ 14 rfl mv_ ?_
    refine AD.wk (y := ⟨179, [(3, _), (4, _), (5, _), (6, _), (7, _), (8, _), (10, _)], [⟨b8, 32, 12, [_, _, _, _, _, _, _, _, _, _, _, _]⟩, ⟨b5, 24, 3, [_, _, _]⟩, ⟨b4, 24, 3, [_, _, _]⟩]⟩) (Wk.as_ rfl rfl ⟨lk, lk, lk, lk, lk, lk, lk, trivial⟩) rfl ?_
    refine AD.done (by kernel_rfl) ?_
    exact ⟨rfl, _, trivial, Wk.refl _⟩
 ·skip
  rintro _ _ ⟨rfl, b8, _, hwk__⟩
  refine CD.wk hwk__ ?_
  refine CD.seq ?_
  refine CD.mono (Q := fun e__ y__ => e__ = Exit.normal ∧ ∃ (b11 : Nat), (True) ∧ Wk y__ (⟨179, [(3, .v (.int .i64 k)), (4, .v (.pointer (some ⟨b4, 0, none⟩))), (5, .v (.pointer (some ⟨b5, 0, none⟩))), (6, .clo (.func 12) []), (7, .list 3 (hdD.flatMap cT) 4), (8, .v (.pointer (some ⟨b8, 0, none⟩))), (10, .v (.int .i64 0)), (11, .v (.pointer (some ⟨b11, 0, none⟩))), (13, .v (.int .i64 0))], [⟨b11, 32, 12, cSt (delS [colX, litN k, opN 9])⟩, ⟨b8, 32, 12, cSt (delS [litN (-k)])⟩, ⟨b5, 24, 3, cT miT⟩, ⟨b4, 24, 3, cT (nuT k)⟩]⟩ : St)) ?_ ?_
  ·skip
   refine CD.draw (bks _) (by kernel_rfl) (fun _ h => h) ?_
   refine a0_ 0 rfl mv_ ?_
   refine a0_ 2 rfl mv_ ?_
   refine a0_ 4 rfl (lab_ 1 [_, _, _]) ?_
   refine a0_ 5 rfl (lab_ 2 [_, _, _]) ?_
   refine AD0.later rfl ?_
   refine AD.two (i := 1) (j := 13) (by kernel_rfl) ?_ ?_
   ·skip
    refine AStep.appendG (ls := []) (new := hdD) (Sq := []) cT_len cT_one rfl (wants_plain rfl) rfl rfl Tryd.underlying26 info24_Pd1 rfl (by decide) opd_const ownL_nil (perm_r11 (A := [_, _, _])) ot (Nat.le_of_ble_eq_true rfl) (Nat.le_of_ble_eq_true rfl) (Nat.le_of_ble_eq_true rfl) (fun b50 cp50 h150 h250 => ?_)
    refine AD.perm (perm_q11 (S1 := [⟨b50, 24, cp50 * 3, List.flatMap cT ([] ++ hdD)⟩]) (A := [_, _, _])) ?_
    refine AD.two (i := 3) (j := 13) (by kernel_rfl) ?_ ?_
    ·skip
     refine AStep.callv (f := 12) (args := [_]) (all := [_]) (Sf := []) rfl (wants_plain rfl) rfl rfl ot Tryd.call12 (w_vp ⟨#[120]⟩) rfl ⟨opd_const, trivial⟩ (perm_none _) (by intro b hb; simp [bks, St.put] at hb ⊢; try first | exact hb | omega | simp [hb] | (rcases hb with hb | hb <;> simp [hb]) | (rcases hb with hb | hb | hb <;> simp [hb])) ?_; rintro _ _ ⟨rfl, rfl⟩
     refine AD.two (i := 6) (j := 13) (by kernel_rfl) ?_ ?_
     ·skip
      refine AStep.bldS (pl := numD 0 [_, _, _]) (zvs := [.int .i64 0, .string ⟨#[]⟩, .int .i64 0, .int .i64 0, .string ⟨#[]⟩, .int .i64 0, .int .i64 0, .string ⟨#[]⟩, .int .i64 0]) (ds := [_, _, _, _, _, _, _, _, _]) rfl (wants_plain rfl) rfl rfl Tryd.zeroValue24 Tryd.runUnderlying26 Tryd.sizeOf24 rfl rfl (by kernel_rfl) ⟨rfl, ot, rfl, ot, rfl, ot, trivial⟩ (by exact rfl) (fill_full (by exact rfl) (by exact rfl) (by exact rfl)) (fun b55 => ?_)
      refine AD.give (k := 0) (t := 55) (sz := 3) (m := 3) rfl lk rfl rfl rfl (Nat.le_refl _) (by decide) ?_
      refine AD.two (i := 7) (j := 13) (by kernel_rfl) ?_ ?_
      ·skip
       refine AStep.appendG (ls := ([] ++ hdD)) (new := [xT, miT, nuT k]) (Sq := [⟨b50, 24, cp50 * 3, List.flatMap cT ([] ++ hdD)⟩]) cT_len cT_one rfl (wants_plain rfl) rfl rfl Tryd.underlying26 info24_Pd1 rfl (by decide) ot (ownL_row h150 h250) (perm_r11 (A := [_, _, _])) ot (Nat.le_of_ble_eq_true rfl) (Nat.le_of_ble_eq_true rfl) (Nat.le_of_ble_eq_true rfl) (fun b56 cp56 h156 h256 => ?_)
       refine AD.perm (perm_q11 (S1 := [⟨b56, 24, cp56 * 3, List.flatMap cT (([] ++ hdD) ++ [xT, miT, nuT k])⟩]) (A := [_, _, _])) ?_
       refine AD.giveL (t := 56) (Sq := [⟨b56, 24, cp56 * 3, List.flatMap cT (([] ++ hdD) ++ [xT, miT, nuT k])⟩]) lk (ownL_row h156 h256) (fm_len cT_len _) (perm_r11 (A := [_, _, _])) ?_
       refine AD.two (i := 8) (j := 13) (by kernel_rfl) ?_ ?_
       ·skip
        refine AStep.callP rfl (wants_plain rfl) rfl rfl rfl Tryd.call13 (hB) ⟨ot, trivial⟩ ?_
        refine a1_ 9 rfl mv_ ?_
        refine a1_ 10 rfl ex_ ?_
        refine a1_ 11 rfl ex_ ?_
        refine a1_ 12 rfl ex_ ?_
        refine AD.one (i := 13) (by kernel_rfl) ?_
        refine AStep.alloc (ds := [_, _, _, _, _, _, _, _, _, _, _, _]) rfl (wants_plain rfl) rfl rfl Tryd.zeroValue32 rfl (fun b11 => ?_)
        refine AD.one (i := 14) (by kernel_rfl) ?_
        refine AStep.store (k := 0) (cs' := [_, _, _, _, _, _, _, _, _, _, _, _]) rfl (wants_plain rfl) rfl rfl ot rfl rfl ot rfl rfl Tryd.sizeOf32 rfl rfl rfl (by intro b hb; simp [bks, St.put] at hb ⊢; try first | exact hb | omega | simp [hb] | (rcases hb with hb | hb <;> simp [hb]) | (rcases hb with hb | hb | hb <;> simp [hb])) ?_
        refine a1_ 15 rfl mv_ ?_
        refine a1_ 16 rfl mv_ ?_
        refine AD.wk (y := ⟨179, [(3, _), (4, _), (5, _), (6, _), (7, _), (8, _), (10, _), (11, _), (13, _)], [⟨b11, 32, 12, [_, _, _, _, _, _, _, _, _, _, _, _]⟩, ⟨b8, 32, 12, [_, _, _, _, _, _, _, _, _, _, _, _]⟩, ⟨b5, 24, 3, [_, _, _]⟩, ⟨b4, 24, 3, [_, _, _]⟩]⟩) (Wk.as_ rfl rfl ⟨lk, lk, lk, lk, lk, lk, lk, lk, lk, trivial⟩) rfl ?_
        refine AD.done (by kernel_rfl) ?_
        exact ⟨rfl, _, trivial, Wk.refl _⟩
       ·skip
        refine AStep.alloc (ds := [_, _, _, _, _, _, _, _, _, _, _, _]) rfl (wants_plain rfl) rfl rfl Tryd.zeroValue32 rfl (fun b11 => ?_)
        refine AD.one (i := 8) (by kernel_rfl) ?_
        refine AStep.callP rfl (wants_plain rfl) rfl rfl rfl Tryd.call13 (hB) ⟨ot, trivial⟩ ?_
        refine a1_ 9 rfl mv_ ?_
        refine a1_ 10 rfl ex_ ?_
        refine a1_ 11 rfl ex_ ?_
        refine a1_ 12 rfl ex_ ?_
        refine AD.one (i := 14) (by kernel_rfl) ?_
        refine AStep.store (k := 0) (cs' := [_, _, _, _, _, _, _, _, _, _, _, _]) rfl (wants_plain rfl) rfl rfl ot rfl rfl ot rfl rfl Tryd.sizeOf32 rfl rfl rfl (by intro b hb; simp [bks, St.put] at hb ⊢; try first | exact hb | omega | simp [hb] | (rcases hb with hb | hb <;> simp [hb]) | (rcases hb with hb | hb | hb <;> simp [hb])) ?_
        refine a1_ 15 rfl mv_ ?_
        refine a1_ 16 rfl mv_ ?_
        refine AD.wk (y := ⟨179, [(3, _), (4, _), (5, _), (6, _), (7, _), (8, _), (10, _), (11, _), (13, _)], [⟨b11, 32, 12, [_, _, _, _, _, _, _, _, _, _, _, _]⟩, ⟨b8, 32, 12, [_, _, _, _, _, _, _, _, _, _, _, _]⟩, ⟨b5, 24, 3, [_, _, _]⟩, ⟨b4, 24, 3, [_, _, _]⟩]⟩) (Wk.as_ rfl rfl ⟨lk, lk, lk, lk, lk, lk, lk, lk, lk, trivial⟩) rfl ?_
        refine AD.done (by kernel_rfl) ?_
        exact ⟨rfl, _, trivial, Wk.refl _⟩
      ·skip
       refine AStep.alloc (ds := [_, _, _, _, _, _, _, _, _, _, _, _]) rfl (wants_plain rfl) rfl rfl Tryd.zeroValue32 rfl (fun b11 => ?_)
       refine AD.one (i := 7) (by kernel_rfl) ?_
       refine AStep.appendG (ls := ([] ++ hdD)) (new := [xT, miT, nuT k]) (Sq := [⟨b50, 24, cp50 * 3, List.flatMap cT ([] ++ hdD)⟩]) cT_len cT_one rfl (wants_plain rfl) rfl rfl Tryd.underlying26 info24_Pd1 rfl (by decide) ot (ownL_row h150 h250) (perm_r11 (A := [_, _, _, _])) ot (Nat.le_of_ble_eq_true rfl) (Nat.le_of_ble_eq_true rfl) (Nat.le_of_ble_eq_true rfl) (fun b56 cp56 h156 h256 => ?_)
       refine AD.perm (perm_q11 (S1 := [⟨b56, 24, cp56 * 3, List.flatMap cT (([] ++ hdD) ++ [xT, miT, nuT k])⟩]) (A := [_, _, _, _])) ?_
       refine AD.giveL (t := 56) (Sq := [⟨b56, 24, cp56 * 3, List.flatMap cT (([] ++ hdD) ++ [xT, miT, nuT k])⟩]) lk (ownL_row h156 h256) (fm_len cT_len _) (perm_r11 (A := [_, _, _, _])) ?_
       refine AD.one (i := 8) (by kernel_rfl) ?_
       refine AStep.callP rfl (wants_plain rfl) rfl rfl rfl Tryd.call13 (hB) ⟨ot, trivial⟩ ?_
       refine a1_ 9 rfl mv_ ?_
       refine a1_ 10 rfl ex_ ?_
       refine a1_ 11 rfl ex_ ?_
       refine a1_ 12 rfl ex_ ?_
       refine AD.one (i := 14) (by kernel_rfl) ?_
       refine AStep.store (k := 0) (cs' := [_, _, _, _, _, _, _, _, _, _, _, _]) rfl (wants_plain rfl) rfl rfl ot rfl rfl ot rfl rfl Tryd.sizeOf32 rfl rfl rfl (by intro b hb; simp [bks, St.put] at hb ⊢; try first | exact hb | omega | simp [hb] | (rcases hb with hb | hb <;> simp [hb]) | (rcases hb with hb | hb | hb <;> simp [hb])) ?_
       refine a1_ 15 rfl mv_ ?_
       refine a1_ 16 rfl mv_ ?_
       refine AD.wk (y := ⟨179, [(3, _), (4, _), (5, _), (6, _), (7, _), (8, _), (10, _), (11, _), (13, _)], [⟨b11, 32, 12, [_, _, _, _, _, _, _, _, _, _, _, _]⟩, ⟨b8, 32, 12, [_, _, _, _, _, _, _, _, _, _, _, _]⟩, ⟨b5, 24, 3, [_, _, _]⟩, ⟨b4, 24, 3, [_, _, _]⟩]⟩) (Wk.as_ rfl rfl ⟨lk, lk, lk, lk, lk, lk, lk, lk, lk, trivial⟩) rfl ?_
       refine AD.done (by kernel_rfl) ?_
       exact ⟨rfl, _, trivial, Wk.refl _⟩
     ·skip
      refine AStep.alloc (ds := [_, _, _, _, _, _, _, _, _, _, _, _]) rfl (wants_plain rfl) rfl rfl Tryd.zeroValue32 rfl (fun b11 => ?_)
      refine AD.one (i := 6) (by kernel_rfl) ?_
      refine AStep.bldS (pl := numD 0 [_, _, _]) (zvs := [.int .i64 0, .string ⟨#[]⟩, .int .i64 0, .int .i64 0, .string ⟨#[]⟩, .int .i64 0, .int .i64 0, .string ⟨#[]⟩, .int .i64 0]) (ds := [_, _, _, _, _, _, _, _, _]) rfl (wants_plain rfl) rfl rfl Tryd.zeroValue24 Tryd.runUnderlying26 Tryd.sizeOf24 rfl rfl (by kernel_rfl) ⟨rfl, ot, rfl, ot, rfl, ot, trivial⟩ (by exact rfl) (fill_full (by exact rfl) (by exact rfl) (by exact rfl)) (fun b55 => ?_)
      refine AD.give (k := 0) (t := 55) (sz := 3) (m := 3) rfl lk rfl rfl rfl (Nat.le_refl _) (by decide) ?_
      refine AD.one (i := 7) (by kernel_rfl) ?_
      refine AStep.appendG (ls := ([] ++ hdD)) (new := [xT, miT, nuT k]) (Sq := [⟨b50, 24, cp50 * 3, List.flatMap cT ([] ++ hdD)⟩]) cT_len cT_one rfl (wants_plain rfl) rfl rfl Tryd.underlying26 info24_Pd1 rfl (by decide) ot (ownL_row h150 h250) (perm_r11 (A := [_, _, _, _])) ot (Nat.le_of_ble_eq_true rfl) (Nat.le_of_ble_eq_true rfl) (Nat.le_of_ble_eq_true rfl) (fun b56 cp56 h156 h256 => ?_)
      refine AD.perm (perm_q11 (S1 := [⟨b56, 24, cp56 * 3, List.flatMap cT (([] ++ hdD) ++ [xT, miT, nuT k])⟩]) (A := [_, _, _, _])) ?_
      refine AD.giveL (t := 56) (Sq := [⟨b56, 24, cp56 * 3, List.flatMap cT (([] ++ hdD) ++ [xT, miT, nuT k])⟩]) lk (ownL_row h156 h256) (fm_len cT_len _) (perm_r11 (A := [_, _, _, _])) ?_
      refine AD.one (i := 8) (by kernel_rfl) ?_
      refine AStep.callP rfl (wants_plain rfl) rfl rfl rfl Tryd.call13 (hB) ⟨ot, trivial⟩ ?_
      refine a1_ 9 rfl mv_ ?_
      refine a1_ 10 rfl ex_ ?_
      refine a1_ 11 rfl ex_ ?_
      refine a1_ 12 rfl ex_ ?_
      refine AD.one (i := 14) (by kernel_rfl) ?_
      refine AStep.store (k := 0) (cs' := [_, _, _, _, _, _, _, _, _, _, _, _]) rfl (wants_plain rfl) rfl rfl ot rfl rfl ot rfl rfl Tryd.sizeOf32 rfl rfl rfl (by intro b hb; simp [bks, St.put] at hb ⊢; try first | exact hb | omega | simp [hb] | (rcases hb with hb | hb <;> simp [hb]) | (rcases hb with hb | hb | hb <;> simp [hb])) ?_
      refine a1_ 15 rfl mv_ ?_
      refine a1_ 16 rfl mv_ ?_
      refine AD.wk (y := ⟨179, [(3, _), (4, _), (5, _), (6, _), (7, _), (8, _), (10, _), (11, _), (13, _)], [⟨b11, 32, 12, [_, _, _, _, _, _, _, _, _, _, _, _]⟩, ⟨b8, 32, 12, [_, _, _, _, _, _, _, _, _, _, _, _]⟩, ⟨b5, 24, 3, [_, _, _]⟩, ⟨b4, 24, 3, [_, _, _]⟩]⟩) (Wk.as_ rfl rfl ⟨lk, lk, lk, lk, lk, lk, lk, lk, lk, trivial⟩) rfl ?_
      refine AD.done (by kernel_rfl) ?_
      exact ⟨rfl, _, trivial, Wk.refl _⟩
    ·skip
     refine AStep.alloc (ds := [_, _, _, _, _, _, _, _, _, _, _, _]) rfl (wants_plain rfl) rfl rfl Tryd.zeroValue32 rfl (fun b11 => ?_)
     refine AD.one (i := 3) (by kernel_rfl) ?_
     refine AStep.callv (f := 12) (args := [_]) (all := [_]) (Sf := []) rfl (wants_plain rfl) rfl rfl ot Tryd.call12 (w_vp ⟨#[120]⟩) rfl ⟨opd_const, trivial⟩ (perm_none _) (by intro b hb; simp [bks, St.put] at hb ⊢; try first | exact hb | omega | simp [hb] | (rcases hb with hb | hb <;> simp [hb]) | (rcases hb with hb | hb | hb <;> simp [hb])) ?_; rintro _ _ ⟨rfl, rfl⟩
     refine AD.one (i := 6) (by kernel_rfl) ?_
     refine AStep.bldS (pl := numD 0 [_, _, _]) (zvs := [.int .i64 0, .string ⟨#[]⟩, .int .i64 0, .int .i64 0, .string ⟨#[]⟩, .int .i64 0, .int .i64 0, .string ⟨#[]⟩, .int .i64 0]) (ds := [_, _, _, _, _, _, _, _, _]) rfl (wants_plain rfl) rfl rfl Tryd.zeroValue24 Tryd.runUnderlying26 Tryd.sizeOf24 rfl rfl (by kernel_rfl) ⟨rfl, ot, rfl, ot, rfl, ot, trivial⟩ (by exact rfl) (fill_full (by exact rfl) (by exact rfl) (by exact rfl)) (fun b55 => ?_)
     refine AD.give (k := 0) (t := 55) (sz := 3) (m := 3) rfl lk rfl rfl rfl (Nat.le_refl _) (by decide) ?_
     refine AD.one (i := 7) (by kernel_rfl) ?_
     refine AStep.appendG (ls := ([] ++ hdD)) (new := [xT, miT, nuT k]) (Sq := [⟨b50, 24, cp50 * 3, List.flatMap cT ([] ++ hdD)⟩]) cT_len cT_one rfl (wants_plain rfl) rfl rfl Tryd.underlying26 info24_Pd1 rfl (by decide) ot (ownL_row h150 h250) (perm_r11 (A := [_, _, _, _])) ot (Nat.le_of_ble_eq_true rfl) (Nat.le_of_ble_eq_true rfl) (Nat.le_of_ble_eq_true rfl) (fun b56 cp56 h156 h256 => ?_)
     refine AD.perm (perm_q11 (S1 := [⟨b56, 24, cp56 * 3, List.flatMap cT (([] ++ hdD) ++ [xT, miT, nuT k])⟩]) (A := [_, _, _, _])) ?_
     refine AD.giveL (t := 56) (Sq := [⟨b56, 24, cp56 * 3, List.flatMap cT (([] ++ hdD) ++ [xT, miT, nuT k])⟩]) lk (ownL_row h156 h256) (fm_len cT_len _) (perm_r11 (A := [_, _, _, _])) ?_
     refine AD.one (i := 8) (by kernel_rfl) ?_
     refine AStep.callP rfl (wants_plain rfl) rfl rfl rfl Tryd.call13 (hB) ⟨ot, trivial⟩ ?_
     refine a1_ 9 rfl mv_ ?_
     refine a1_ 10 rfl ex_ ?_
     refine a1_ 11 rfl ex_ ?_
     refine a1_ 12 rfl ex_ ?_
     refine AD.one (i := 14) (by kernel_rfl) ?_
     refine AStep.store (k := 0) (cs' := [_, _, _, _, _, _, _, _, _, _, _, _]) rfl (wants_plain rfl) rfl rfl ot rfl rfl ot rfl rfl Tryd.sizeOf32 rfl rfl rfl (by intro b hb; simp [bks, St.put] at hb ⊢; try first | exact hb | omega | simp [hb] | (rcases hb with hb | hb <;> simp [hb]) | (rcases hb with hb | hb | hb <;> simp [hb])) ?_
     refine a1_ 15 rfl mv_ ?_
     refine a1_ 16 rfl mv_ ?_
     refine AD.wk (y := ⟨179, [(3, _), (4, _), (5, _), (6, _), (7, _), (8, _), (10, _), (11, _), (13, _)], [⟨b11, 32, 12, [_, _, _, _, _, _, _, _, _, _, _, _]⟩, ⟨b8, 32, 12, [_, _, _, _, _, _, _, _, _, _, _, _]⟩, ⟨b5, 24, 3, [_, _, _]⟩, ⟨b4, 24, 3, [_, _, _]⟩]⟩) (Wk.as_ rfl rfl ⟨lk, lk, lk, lk, lk, lk, lk, lk, lk, trivial⟩) rfl ?_
     refine AD.done (by kernel_rfl) ?_
     exact ⟨rfl, _, trivial, Wk.refl _⟩
   ·skip
    refine AStep.alloc (ds := [_, _, _, _, _, _, _, _, _, _, _, _]) rfl (wants_plain rfl) rfl rfl Tryd.zeroValue32 rfl (fun b11 => ?_)
    refine AD.one (i := 1) (by kernel_rfl) ?_
    refine AStep.appendG (ls := []) (new := hdD) (Sq := []) cT_len cT_one rfl (wants_plain rfl) rfl rfl Tryd.underlying26 info24_Pd1 rfl (by decide) opd_const ownL_nil (perm_r11 (A := [_, _, _, _])) ot (Nat.le_of_ble_eq_true rfl) (Nat.le_of_ble_eq_true rfl) (Nat.le_of_ble_eq_true rfl) (fun b50 cp50 h150 h250 => ?_)
    refine AD.perm (perm_q11 (S1 := [⟨b50, 24, cp50 * 3, List.flatMap cT ([] ++ hdD)⟩]) (A := [_, _, _, _])) ?_
    refine AD.one (i := 3) (by kernel_rfl) ?_
    refine AStep.callv (f := 12) (args := [_]) (all := [_]) (Sf := []) rfl (wants_plain rfl) rfl rfl ot Tryd.call12 (w_vp ⟨#[120]⟩) rfl ⟨opd_const, trivial⟩ (perm_none _) (by intro b hb; simp [bks, St.put] at hb ⊢; try first | exact hb | omega | simp [hb] | (rcases hb with hb | hb <;> simp [hb]) | (rcases hb with hb | hb | hb <;> simp [hb])) ?_; rintro _ _ ⟨rfl, rfl⟩
    refine AD.one (i := 6) (by kernel_rfl) ?_
    refine AStep.bldS (pl := numD 0 [_, _, _]) (zvs := [.int .i64 0, .string ⟨#[]⟩, .int .i64 0, .int .i64 0, .string ⟨#[]⟩, .int .i64 0, .int .i64 0, .string ⟨#[]⟩, .int .i64 0]) (ds := [_, _, _, _, _, _, _, _, _]) rfl (wants_plain rfl) rfl rfl Tryd.zeroValue24 Tryd.runUnderlying26 Tryd.sizeOf24 rfl rfl (by kernel_rfl) ⟨rfl, ot, rfl, ot, rfl, ot, trivial⟩ (by exact rfl) (fill_full (by exact rfl) (by exact rfl) (by exact rfl)) (fun b55 => ?_)
    refine AD.give (k := 0) (t := 55) (sz := 3) (m := 3) rfl lk rfl rfl rfl (Nat.le_refl _) (by decide) ?_
    refine AD.one (i := 7) (by kernel_rfl) ?_
    refine AStep.appendG (ls := ([] ++ hdD)) (new := [xT, miT, nuT k]) (Sq := [⟨b50, 24, cp50 * 3, List.flatMap cT ([] ++ hdD)⟩]) cT_len cT_one rfl (wants_plain rfl) rfl rfl Tryd.underlying26 info24_Pd1 rfl (by decide) ot (ownL_row h150 h250) (perm_r11 (A := [_, _, _, _])) ot (Nat.le_of_ble_eq_true rfl) (Nat.le_of_ble_eq_true rfl) (Nat.le_of_ble_eq_true rfl) (fun b56 cp56 h156 h256 => ?_)
    refine AD.perm (perm_q11 (S1 := [⟨b56, 24, cp56 * 3, List.flatMap cT (([] ++ hdD) ++ [xT, miT, nuT k])⟩]) (A := [_, _, _, _])) ?_
    refine AD.giveL (t := 56) (Sq := [⟨b56, 24, cp56 * 3, List.flatMap cT (([] ++ hdD) ++ [xT, miT, nuT k])⟩]) lk (ownL_row h156 h256) (fm_len cT_len _) (perm_r11 (A := [_, _, _, _])) ?_
    refine AD.one (i := 8) (by kernel_rfl) ?_
    refine AStep.callP rfl (wants_plain rfl) rfl rfl rfl Tryd.call13 (hB) ⟨ot, trivial⟩ ?_
    refine a1_ 9 rfl mv_ ?_
    refine a1_ 10 rfl ex_ ?_
    refine a1_ 11 rfl ex_ ?_
    refine a1_ 12 rfl ex_ ?_
    refine AD.one (i := 14) (by kernel_rfl) ?_
    refine AStep.store (k := 0) (cs' := [_, _, _, _, _, _, _, _, _, _, _, _]) rfl (wants_plain rfl) rfl rfl ot rfl rfl ot rfl rfl Tryd.sizeOf32 rfl rfl rfl (by intro b hb; simp [bks, St.put] at hb ⊢; try first | exact hb | omega | simp [hb] | (rcases hb with hb | hb <;> simp [hb]) | (rcases hb with hb | hb | hb <;> simp [hb])) ?_
    refine a1_ 15 rfl mv_ ?_
    refine a1_ 16 rfl mv_ ?_
    refine AD.wk (y := ⟨179, [(3, _), (4, _), (5, _), (6, _), (7, _), (8, _), (10, _), (11, _), (13, _)], [⟨b11, 32, 12, [_, _, _, _, _, _, _, _, _, _, _, _]⟩, ⟨b8, 32, 12, [_, _, _, _, _, _, _, _, _, _, _, _]⟩, ⟨b5, 24, 3, [_, _, _]⟩, ⟨b4, 24, 3, [_, _, _]⟩]⟩) (Wk.as_ rfl rfl ⟨lk, lk, lk, lk, lk, lk, lk, lk, lk, trivial⟩) rfl ?_
    refine AD.done (by kernel_rfl) ?_
    exact ⟨rfl, _, trivial, Wk.refl _⟩
  ·skip
   rintro _ _ ⟨rfl, b11, _, hwk__⟩
   refine CD.wk hwk__ ?_
   refine CD.seq ?_
   refine CD.mono (Q := fun e__ y__ => e__ = Exit.normal ∧ ∃ (b14 : Nat), (True) ∧ Wk y__ (⟨179, [(3, .v (.int .i64 k)), (5, .v (.pointer (some ⟨b5, 0, none⟩))), (6, .clo (.func 12) []), (7, .list 3 (hdD.flatMap cT) 4), (8, .v (.pointer (some ⟨b8, 0, none⟩))), (10, .v (.int .i64 0)), (11, .v (.pointer (some ⟨b11, 0, none⟩))), (13, .v (.int .i64 0)), (14, .v (.pointer (some ⟨b14, 0, none⟩))), (16, .v (.int .i64 0))], [⟨b14, 32, 12, cSt (delS [colX, litN (-k), opN 9])⟩, ⟨b11, 32, 12, cSt (delS [colX, litN k, opN 9])⟩, ⟨b8, 32, 12, cSt (delS [litN (-k)])⟩, ⟨b5, 24, 3, cT miT⟩, ⟨b4, 24, 3, cT (nuT k)⟩]⟩ : St)) ?_ ?_
   ·skip
    refine CD.draw (bks _) (by kernel_rfl) (fun _ h => h) ?_
    refine a0_ 0 rfl mv_ ?_
    refine a0_ 2 rfl mv_ ?_
    refine a0_ 4 rfl (lab_ 2 [_, _, _]) ?_
    refine a0_ 5 rfl (lab_ 2 [_, _, _]) ?_
    refine a0_ 6 rfl (lab_ 3 [_, _, _]) ?_
    refine AD0.later rfl ?_
    refine AD.two (i := 1) (j := 14) (by kernel_rfl) ?_ ?_
    ·skip
     refine AStep.appendG (ls := []) (new := hdD) (Sq := []) cT_len cT_one rfl (wants_plain rfl) rfl rfl Tryd.underlying26 info24_Pd1 rfl (by decide) opd_const ownL_nil (perm_r11 (A := [_, _, _, _])) ot (Nat.le_of_ble_eq_true rfl) (Nat.le_of_ble_eq_true rfl) (Nat.le_of_ble_eq_true rfl) (fun b63 cp63 h163 h263 => ?_)
     refine AD.perm (perm_q11 (S1 := [⟨b63, 24, cp63 * 3, List.flatMap cT ([] ++ hdD)⟩]) (A := [_, _, _, _])) ?_
     refine AD.two (i := 3) (j := 14) (by kernel_rfl) ?_ ?_
     ·skip
      refine AStep.callv (f := 12) (args := [_]) (all := [_]) (Sf := []) rfl (wants_plain rfl) rfl rfl ot Tryd.call12 (w_vp ⟨#[120]⟩) rfl ⟨opd_const, trivial⟩ (perm_none _) (by intro b hb; simp [bks, St.put] at hb ⊢; try first | exact hb | omega | simp [hb] | (rcases hb with hb | hb <;> simp [hb]) | (rcases hb with hb | hb | hb <;> simp [hb])) ?_; rintro _ _ ⟨rfl, rfl⟩
      refine AD.two (i := 7) (j := 14) (by kernel_rfl) ?_ ?_
      ·skip
       refine AStep.bldS (pl := numD 0 [_, _, _, _]) (zvs := [.int .i64 0, .string ⟨#[]⟩, .int .i64 0, .int .i64 0, .string ⟨#[]⟩, .int .i64 0, .int .i64 0, .string ⟨#[]⟩, .int .i64 0, .int .i64 0, .string ⟨#[]⟩, .int .i64 0]) (ds := [_, _, _, _, _, _, _, _, _, _, _, _]) rfl (wants_plain rfl) rfl rfl Tryd.zeroValue24 Tryd.runUnderlying26 Tryd.sizeOf24 rfl rfl (by kernel_rfl) ⟨rfl, ot, rfl, ot, rfl, ot, rfl, ot, trivial⟩ (by exact rfl) (fill_full (by exact rfl) (by exact rfl) (by exact rfl)) (fun b69 => ?_)
       refine AD.give (k := 0) (t := 69) (sz := 3) (m := 4) rfl lk rfl rfl rfl (Nat.le_refl _) (by decide) ?_
       refine AD.two (i := 8) (j := 14) (by kernel_rfl) ?_ ?_
       ·skip
        refine AStep.appendG (ls := ([] ++ hdD)) (new := [xT, miT, miT, nuT k]) (Sq := [⟨b63, 24, cp63 * 3, List.flatMap cT ([] ++ hdD)⟩]) cT_len cT_one rfl (wants_plain rfl) rfl rfl Tryd.underlying26 info24_Pd1 rfl (by decide) ot (ownL_row h163 h263) (perm_r11 (A := [_, _, _, _])) ot (Nat.le_of_ble_eq_true rfl) (Nat.le_of_ble_eq_true rfl) (Nat.le_of_ble_eq_true rfl) (fun b70 cp70 h170 h270 => ?_)
        refine AD.perm (perm_q11 (S1 := [⟨b70, 24, cp70 * 3, List.flatMap cT (([] ++ hdD) ++ [xT, miT, miT, nuT k])⟩]) (A := [_, _, _, _])) ?_
        refine AD.giveL (t := 70) (Sq := [⟨b70, 24, cp70 * 3, List.flatMap cT (([] ++ hdD) ++ [xT, miT, miT, nuT k])⟩]) lk (ownL_row h170 h270) (fm_len cT_len _) (perm_r11 (A := [_, _, _, _])) ?_
        refine AD.two (i := 9) (j := 14) (by kernel_rfl) ?_ ?_
        ·skip
         refine AStep.callP rfl (wants_plain rfl) rfl rfl rfl Tryd.call13 (hC) ⟨ot, trivial⟩ ?_
         refine a1_ 10 rfl mv_ ?_
         refine a1_ 11 rfl ex_ ?_
         refine a1_ 12 rfl ex_ ?_
         refine a1_ 13 rfl ex_ ?_
         refine AD.one (i := 14) (by kernel_rfl) ?_
         refine AStep.alloc (ds := [_, _, _, _, _, _, _, _, _, _, _, _]) rfl (wants_plain rfl) rfl rfl Tryd.zeroValue32 rfl (fun b14 => ?_)
         refine AD.one (i := 15) (by kernel_rfl) ?_
         refine AStep.store (k := 0) (cs' := [_, _, _, _, _, _, _, _, _, _, _, _]) rfl (wants_plain rfl) rfl rfl ot rfl rfl ot rfl rfl Tryd.sizeOf32 rfl rfl rfl (by intro b hb; simp [bks, St.put] at hb ⊢; try first | exact hb | omega | simp [hb] | (rcases hb with hb | hb <;> simp [hb]) | (rcases hb with hb | hb | hb <;> simp [hb])) ?_
         refine a1_ 16 rfl mv_ ?_
         refine a1_ 17 rfl mv_ ?_
         refine AD.wk (y := ⟨179, [(3, _), (5, _), (6, _), (7, _), (8, _), (10, _), (11, _), (13, _), (14, _), (16, _)], [⟨b14, 32, 12, [_, _, _, _, _, _, _, _, _, _, _, _]⟩, ⟨b11, 32, 12, [_, _, _, _, _, _, _, _, _, _, _, _]⟩, ⟨b8, 32, 12, [_, _, _, _, _, _, _, _, _, _, _, _]⟩, ⟨b5, 24, 3, [_, _, _]⟩, ⟨b4, 24, 3, [_, _, _]⟩]⟩) (Wk.as_ rfl rfl ⟨lk, lk, lk, lk, lk, lk, lk, lk, lk, lk, trivial⟩) rfl ?_
         refine AD.done (by kernel_rfl) ?_
         exact ⟨rfl, _, trivial, Wk.refl _⟩
        ·skip
         refine AStep.alloc (ds := [_, _, _, _, _, _, _, _, _, _, _, _]) rfl (wants_plain rfl) rfl rfl Tryd.zeroValue32 rfl (fun b14 => ?_)
         refine AD.one (i := 9) (by kernel_rfl) ?_
         refine AStep.callP rfl (wants_plain rfl) rfl rfl rfl Tryd.call13 (hC) ⟨ot, trivial⟩ ?_
         refine a1_ 10 rfl mv_ ?_
         refine a1_ 11 rfl ex_ ?_
         refine a1_ 12 rfl ex_ ?_
         refine a1_ 13 rfl ex_ ?_
         refine AD.one (i := 15) (by kernel_rfl) ?_
         refine AStep.store (k := 0) (cs' := [_, _, _, _, _, _, _, _, _, _, _, _]) rfl (wants_plain rfl) rfl rfl ot rfl rfl ot rfl rfl Tryd.sizeOf32 rfl rfl rfl (by intro b hb; simp [bks, St.put] at hb ⊢; try first | exact hb | omega | simp [hb] | (rcases hb with hb | hb <;> simp [hb]) | (rcases hb with hb | hb | hb <;> simp [hb])) ?_
         refine a1_ 16 rfl mv_ ?_
         refine a1_ 17 rfl mv_ ?_
         refine AD.wk (y := ⟨179, [(3, _), (5, _), (6, _), (7, _), (8, _), (10, _), (11, _), (13, _), (14, _), (16, _)], [⟨b14, 32, 12, [_, _, _, _, _, _, _, _, _, _, _, _]⟩, ⟨b11, 32, 12, [_, _, _, _, _, _, _, _, _, _, _, _]⟩, ⟨b8, 32, 12, [_, _, _, _, _, _, _, _, _, _, _, _]⟩, ⟨b5, 24, 3, [_, _, _]⟩, ⟨b4, 24, 3, [_, _, _]⟩]⟩) (Wk.as_ rfl rfl ⟨lk, lk, lk, lk, lk, lk, lk, lk, lk, lk, trivial⟩) rfl ?_
         refine AD.done (by kernel_rfl) ?_
         exact ⟨rfl, _, trivial, Wk.refl _⟩
       ·skip
        refine AStep.alloc (ds := [_, _, _, _, _, _, _, _, _, _, _, _]) rfl (wants_plain rfl) rfl rfl Tryd.zeroValue32 rfl (fun b14 => ?_)
        refine AD.one (i := 8) (by kernel_rfl) ?_
        refine AStep.appendG (ls := ([] ++ hdD)) (new := [xT, miT, miT, nuT k]) (Sq := [⟨b63, 24, cp63 * 3, List.flatMap cT ([] ++ hdD)⟩]) cT_len cT_one rfl (wants_plain rfl) rfl rfl Tryd.underlying26 info24_Pd1 rfl (by decide) ot (ownL_row h163 h263) (perm_r11 (A := [_, _, _, _, _])) ot (Nat.le_of_ble_eq_true rfl) (Nat.le_of_ble_eq_true rfl) (Nat.le_of_ble_eq_true rfl) (fun b70 cp70 h170 h270 => ?_)
        refine AD.perm (perm_q11 (S1 := [⟨b70, 24, cp70 * 3, List.flatMap cT (([] ++ hdD) ++ [xT, miT, miT, nuT k])⟩]) (A := [_, _, _, _, _])) ?_
        refine AD.giveL (t := 70) (Sq := [⟨b70, 24, cp70 * 3, List.flatMap cT (([] ++ hdD) ++ [xT, miT, miT, nuT k])⟩]) lk (ownL_row h170 h270) (fm_len cT_len _) (perm_r11 (A := [_, _, _, _, _])) ?_
        refine AD.one (i := 9) (by kernel_rfl) ?_
        refine AStep.callP rfl (wants_plain rfl) rfl rfl rfl Tryd.call13 (hC) ⟨ot, trivial⟩ ?_
        refine a1_ 10 rfl mv_ ?_
        refine a1_ 11 rfl ex_ ?_
        refine a1_ 12 rfl ex_ ?_
        refine a1_ 13 rfl ex_ ?_
        refine AD.one (i := 15) (by kernel_rfl) ?_
        refine AStep.store (k := 0) (cs' := [_, _, _, _, _, _, _, _, _, _, _, _]) rfl (wants_plain rfl) rfl rfl ot rfl rfl ot rfl rfl Tryd.sizeOf32 rfl rfl rfl (by intro b hb; simp [bks, St.put] at hb ⊢; try first | exact hb | omega | simp [hb] | (rcases hb with hb | hb <;> simp [hb]) | (rcases hb with hb | hb | hb <;> simp [hb])) ?_
        refine a1_ 16 rfl mv_ ?_
        refine a1_ 17 rfl mv_ ?_
        refine AD.wk (y := ⟨179, [(3, _), (5, _), (6, _), (7, _), (8, _), (10, _), (11, _), (13, _), (14, _), (16, _)], [⟨b14, 32, 12, [_, _, _, _, _, _, _, _, _, _, _, _]⟩, ⟨b11, 32, 12, [_, _, _, _, _, _, _, _, _, _, _, _]⟩, ⟨b8, 32, 12, [_, _, _, _, _, _, _, _, _, _, _, _]⟩, ⟨b5, 24, 3, [_, _, _]⟩, ⟨b4, 24, 3, [_, _, _]⟩]⟩) (Wk.as_ rfl rfl ⟨lk, lk, lk, lk, lk, lk, lk, lk, lk, lk, trivial⟩) rfl ?_
        refine AD.done (by kernel_rfl) ?_
        exact ⟨rfl, _, trivial, Wk.refl _⟩
      ·skip
       refine AStep.alloc (ds := [_, _, _, _, _, _, _, _, _, _, _, _]) rfl (wants_plain rfl) rfl rfl Tryd.zeroValue32 rfl (fun b14 => ?_)
       refine AD.one (i := 7) (by kernel_rfl) ?_
       refine AStep.bldS (pl := numD 0 [_, _, _, _]) (zvs := [.int .i64 0, .string ⟨#[]⟩, .int .i64 0, .int .i64 0, .string ⟨#[]⟩, .int .i64 0, .int .i64 0, .string ⟨#[]⟩, .int .i64 0, .int .i64 0, .string ⟨#[]⟩, .int .i64 0]) (ds := [_, _, _, _, _, _, _, _, _, _, _, _]) rfl (wants_plain rfl) rfl rfl Tryd.zeroValue24 Tryd.runUnderlying26 Tryd.sizeOf24 rfl rfl (by kernel_rfl) ⟨rfl, ot, rfl, ot, rfl, ot, rfl, ot, trivial⟩ (by exact rfl) (fill_full (by exact rfl) (by exact rfl) (by exact rfl)) (fun b69 => ?_)
       refine AD.give (k := 0) (t := 69) (sz := 3) (m := 4) rfl lk rfl rfl rfl (Nat.le_refl _) (by decide) ?_
       refine AD.one (i := 8) (by kernel_rfl) ?_
       refine AStep.appendG (ls := ([] ++ hdD)) (new := [xT, miT, miT, nuT k]) (Sq := [⟨b63, 24, cp63 * 3, List.flatMap cT ([] ++ hdD)⟩]) cT_len cT_one rfl (wants_plain rfl) rfl rfl Tryd.underlying26 info24_Pd1 rfl (by decide) ot (ownL_row h163 h263) (perm_r11 (A := [_, _, _, _, _])) ot (Nat.le_of_ble_eq_true rfl) (Nat.le_of_ble_eq_true rfl) (Nat.le_of_ble_eq_true rfl) (fun b70 cp70 h170 h270 => ?_)
       refine AD.perm (perm_q11 (S1 := [⟨b70, 24, cp70 * 3, List.flatMap cT (([] ++ hdD) ++ [xT, miT, miT, nuT k])⟩]) (A := [_, _, _, _, _])) ?_
       refine AD.giveL (t := 70) (Sq := [⟨b70, 24, cp70 * 3, List.flatMap cT (([] ++ hdD) ++ [xT, miT, miT, nuT k])⟩]) lk (ownL_row h170 h270) (fm_len cT_len _) (perm_r11 (A := [_, _, _, _, _])) ?_
       refine AD.one (i := 9) (by kernel_rfl) ?_
       refine AStep.callP rfl (wants_plain rfl) rfl rfl rfl Tryd.call13 (hC) ⟨ot, trivial⟩ ?_
       refine a1_ 10 rfl mv_ ?_
       refine a1_ 11 rfl ex_ ?_
       refine a1_ 12 rfl ex_ ?_
       refine a1_ 13 rfl ex_ ?_
       refine AD.one (i := 15) (by kernel_rfl) ?_
       refine AStep.store (k := 0) (cs' := [_, _, _, _, _, _, _, _, _, _, _, _]) rfl (wants_plain rfl) rfl rfl ot rfl rfl ot rfl rfl Tryd.sizeOf32 rfl rfl rfl (by intro b hb; simp [bks, St.put] at hb ⊢; try first | exact hb | omega | simp [hb] | (rcases hb with hb | hb <;> simp [hb]) | (rcases hb with hb | hb | hb <;> simp [hb])) ?_
       refine a1_ 16 rfl mv_ ?_
       refine a1_ 17 rfl mv_ ?_
       refine AD.wk (y := ⟨179, [(3, _), (5, _), (6, _), (7, _), (8, _), (10, _), (11, _), (13, _), (14, _), (16, _)], [⟨b14, 32, 12, [_, _, _, _, _, _, _, _, _, _, _, _]⟩, ⟨b11, 32, 12, [_, _, _, _, _, _, _, _, _, _, _, _]⟩, ⟨b8, 32, 12, [_, _, _, _, _, _, _, _, _, _, _, _]⟩, ⟨b5, 24, 3, [_, _, _]⟩, ⟨b4, 24, 3, [_, _, _]⟩]⟩) (Wk.as_ rfl rfl ⟨lk, lk, lk, lk, lk, lk, lk, lk, lk, lk, trivial⟩) rfl ?_
       refine AD.done (by kernel_rfl) ?_
       exact ⟨rfl, _, trivial, Wk.refl _⟩
     ·skip
      refine AStep.alloc (ds := [_, _, _, _, _, _, _, _, _, _, _, _]) rfl (wants_plain rfl) rfl rfl Tryd.zeroValue32 rfl (fun b14 => ?_)
      refine AD.one (i := 3) (by kernel_rfl) ?_
      refine AStep.callv (f := 12) (args := [_]) (all := [_]) (Sf := []) rfl (wants_plain rfl) rfl rfl ot Tryd.call12 (w_vp ⟨#[120]⟩) rfl ⟨opd_const, trivial⟩ (perm_none _) (by intro b hb; simp [bks, St.put] at hb ⊢; try first | exact hb | omega | simp [hb] | (rcases hb with hb | hb <;> simp [hb]) | (rcases hb with hb | hb | hb <;> simp [hb])) ?_; rintro _ _ ⟨rfl, rfl⟩
      refine AD.one (i := 7) (by kernel_rfl) ?_
      refine AStep.bldS (pl := numD 0 [_, _, _, _]) (zvs := [.int .i64 0, .string ⟨#[]⟩, .int .i64 0, .int .i64 0, .string ⟨#[]⟩, .int .i64 0, .int .i64 0, .string ⟨#[]⟩, .int .i64 0, .int .i64 0, .string ⟨#[]⟩, .int .i64 0]) (ds := [_, _, _, _, _, _, _, _, _, _, _, _]) rfl (wants_plain rfl) rfl rfl Tryd.zeroValue24 Tryd.runUnderlying26 Tryd.sizeOf24 rfl rfl (by kernel_rfl) ⟨rfl, ot, rfl, ot, rfl, ot, rfl, ot, trivial⟩ (by exact rfl) (fill_full (by exact rfl) (by exact rfl) (by exact rfl)) (fun b69 => ?_)
      refine AD.give (k := 0) (t := 69) (sz := 3) (m := 4) rfl lk rfl rfl rfl (Nat.le_refl _) (by decide) ?_
      refine AD.one (i := 8) (by kernel_rfl) ?_
      refine AStep.appendG (ls := ([] ++ hdD)) (new := [xT, miT, miT, nuT k]) (Sq := [⟨b63, 24, cp63 * 3, List.flatMap cT ([] ++ hdD)⟩]) cT_len cT_one rfl (wants_plain rfl) rfl rfl Tryd.underlying26 info24_Pd1 rfl (by decide) ot (ownL_row h163 h263) (perm_r11 (A := [_, _, _, _, _])) ot (Nat.le_of_ble_eq_true rfl) (Nat.le_of_ble_eq_true rfl) (Nat.le_of_ble_eq_true rfl) (fun b70 cp70 h170 h270 => ?_)
      refine AD.perm (perm_q11 (S1 := [⟨b70, 24, cp70 * 3, List.flatMap cT (([] ++ hdD) ++ [xT, miT, miT, nuT k])⟩]) (A := [_, _, _, _, _])) ?_
      refine AD.giveL (t := 70) (Sq := [⟨b70, 24, cp70 * 3, List.flatMap cT (([] ++ hdD) ++ [xT, miT, miT, nuT k])⟩]) lk (ownL_row h170 h270) (fm_len cT_len _) (perm_r11 (A := [_, _, _, _, _])) ?_
      refine AD.one (i := 9) (by kernel_rfl) ?_
      refine AStep.callP rfl (wants_plain rfl) rfl rfl rfl Tryd.call13 (hC) ⟨ot, trivial⟩ ?_
      refine a1_ 10 rfl mv_ ?_
      refine a1_ 11 rfl ex_ ?_
      refine a1_ 12 rfl ex_ ?_
      refine a1_ 13 rfl ex_ ?_
      refine AD.one (i := 15) (by kernel_rfl) ?_
      refine AStep.store (k := 0) (cs' := [_, _, _, _, _, _, _, _, _, _, _, _]) rfl (wants_plain rfl) rfl rfl ot rfl rfl ot rfl rfl Tryd.sizeOf32 rfl rfl rfl (by intro b hb; simp [bks, St.put] at hb ⊢; try first | exact hb | omega | simp [hb] | (rcases hb with hb | hb <;> simp [hb]) | (rcases hb with hb | hb | hb <;> simp [hb])) ?_
      refine a1_ 16 rfl mv_ ?_
      refine a1_ 17 rfl mv_ ?_
      refine AD.wk (y := ⟨179, [(3, _), (5, _), (6, _), (7, _), (8, _), (10, _), (11, _), (13, _), (14, _), (16, _)], [⟨b14, 32, 12, [_, _, _, _, _, _, _, _, _, _, _, _]⟩, ⟨b11, 32, 12, [_, _, _, _, _, _, _, _, _, _, _, _]⟩, ⟨b8, 32, 12, [_, _, _, _, _, _, _, _, _, _, _, _]⟩, ⟨b5, 24, 3, [_, _, _]⟩, ⟨b4, 24, 3, [_, _, _]⟩]⟩) (Wk.as_ rfl rfl ⟨lk, lk, lk, lk, lk, lk, lk, lk, lk, lk, trivial⟩) rfl ?_
      refine AD.done (by kernel_rfl) ?_
      exact ⟨rfl, _, trivial, Wk.refl _⟩
    ·skip
     refine AStep.alloc (ds := [_, _, _, _, _, _, _, _, _, _, _, _]) rfl (wants_plain rfl) rfl rfl Tryd.zeroValue32 rfl (fun b14 => ?_)
     refine AD.one (i := 1) (by kernel_rfl) ?_
     refine AStep.appendG (ls := []) (new := hdD) (Sq := []) cT_len cT_one rfl (wants_plain rfl) rfl rfl Tryd.underlying26 info24_Pd1 rfl (by decide) opd_const ownL_nil (perm_r11 (A := [_, _, _, _, _])) ot (Nat.le_of_ble_eq_true rfl) (Nat.le_of_ble_eq_true rfl) (Nat.le_of_ble_eq_true rfl) (fun b63 cp63 h163 h263 => ?_)
     refine AD.perm (perm_q11 (S1 := [⟨b63, 24, cp63 * 3, List.flatMap cT ([] ++ hdD)⟩]) (A := [_, _, _, _, _])) ?_
     refine AD.one (i := 3) (by kernel_rfl) ?_
     refine AStep.callv (f := 12) (args := [_]) (all := [_]) (Sf := []) rfl (wants_plain rfl) rfl rfl ot Tryd.call12 (w_vp ⟨#[120]⟩) rfl ⟨opd_const, trivial⟩ (perm_none _) (by intro b hb; simp [bks, St.put] at hb ⊢; try first | exact hb | omega | simp [hb] | (rcases hb with hb | hb <;> simp [hb]) | (rcases hb with hb | hb | hb <;> simp [hb])) ?_; rintro _ _ ⟨rfl, rfl⟩
     refine AD.one (i := 7) (by kernel_rfl) ?_
     refine AStep.bldS (pl := numD 0 [_, _, _, _]) (zvs := [.int .i64 0, .string ⟨#[]⟩, .int .i64 0, .int .i64 0, .string ⟨#[]⟩, .int .i64 0, .int .i64 0, .string ⟨#[]⟩, .int .i64 0, .int .i64 0, .string ⟨#[]⟩, .int .i64 0]) (ds := [_, _, _, _, _, _, _, _, _, _, _, _]) rfl (wants_plain rfl) rfl rfl Tryd.zeroValue24 Tryd.runUnderlying26 Tryd.sizeOf24 rfl rfl (by kernel_rfl) ⟨rfl, ot, rfl, ot, rfl, ot, rfl, ot, trivial⟩ (by exact rfl) (fill_full (by exact rfl) (by exact rfl) (by exact rfl)) (fun b69 => ?_)
     refine AD.give (k := 0) (t := 69) (sz := 3) (m := 4) rfl lk rfl rfl rfl (Nat.le_refl _) (by decide) ?_
     refine AD.one (i := 8) (by kernel_rfl) ?_
     refine AStep.appendG (ls := ([] ++ hdD)) (new := [xT, miT, miT, nuT k]) (Sq := [⟨b63, 24, cp63 * 3, List.flatMap cT ([] ++ hdD)⟩]) cT_len cT_one rfl (wants_plain rfl) rfl rfl Tryd.underlying26 info24_Pd1 rfl (by decide) ot (ownL_row h163 h263) (perm_r11 (A := [_, _, _, _, _])) ot (Nat.le_of_ble_eq_true rfl) (Nat.le_of_ble_eq_true rfl) (Nat.le_of_ble_eq_true rfl) (fun b70 cp70 h170 h270 => ?_)
     refine AD.perm (perm_q11 (S1 := [⟨b70, 24, cp70 * 3, List.flatMap cT (([] ++ hdD) ++ [xT, miT, miT, nuT k])⟩]) (A := [_, _, _, _, _])) ?_
     refine AD.giveL (t := 70) (Sq := [⟨b70, 24, cp70 * 3, List.flatMap cT (([] ++ hdD) ++ [xT, miT, miT, nuT k])⟩]) lk (ownL_row h170 h270) (fm_len cT_len _) (perm_r11 (A := [_, _, _, _, _])) ?_
     refine AD.one (i := 9) (by kernel_rfl) ?_
     refine AStep.callP rfl (wants_plain rfl) rfl rfl rfl Tryd.call13 (hC) ⟨ot, trivial⟩ ?_
     refine a1_ 10 rfl mv_ ?_
     refine a1_ 11 rfl ex_ ?_
     refine a1_ 12 rfl ex_ ?_
     refine a1_ 13 rfl ex_ ?_
     refine AD.one (i := 15) (by kernel_rfl) ?_
     refine AStep.store (k := 0) (cs' := [_, _, _, _, _, _, _, _, _, _, _, _]) rfl (wants_plain rfl) rfl rfl ot rfl rfl ot rfl rfl Tryd.sizeOf32 rfl rfl rfl (by intro b hb; simp [bks, St.put] at hb ⊢; try first | exact hb | omega | simp [hb] | (rcases hb with hb | hb <;> simp [hb]) | (rcases hb with hb | hb | hb <;> simp [hb])) ?_
     refine a1_ 16 rfl mv_ ?_
     refine a1_ 17 rfl mv_ ?_
     refine AD.wk (y := ⟨179, [(3, _), (5, _), (6, _), (7, _), (8, _), (10, _), (11, _), (13, _), (14, _), (16, _)], [⟨b14, 32, 12, [_, _, _, _, _, _, _, _, _, _, _, _]⟩, ⟨b11, 32, 12, [_, _, _, _, _, _, _, _, _, _, _, _]⟩, ⟨b8, 32, 12, [_, _, _, _, _, _, _, _, _, _, _, _]⟩, ⟨b5, 24, 3, [_, _, _]⟩, ⟨b4, 24, 3, [_, _, _]⟩]⟩) (Wk.as_ rfl rfl ⟨lk, lk, lk, lk, lk, lk, lk, lk, lk, lk, trivial⟩) rfl ?_
     refine AD.done (by kernel_rfl) ?_
     exact ⟨rfl, _, trivial, Wk.refl _⟩
   ·skip
    rintro _ _ ⟨rfl, b14, _, hwk__⟩
    refine CD.wk hwk__ ?_
    refine CD.seq ?_
    refine CD.mono (Q := fun e__ y__ => e__ = Exit.normal ∧ ∃ (b17 : Nat), (True) ∧ Wk y__ (⟨179, [(3, .v (.int .i64 k)), (5, .v (.pointer (some ⟨b5, 0, none⟩))), (6, .clo (.func 12) []), (7, .list 3 (hdD.flatMap cT) 4), (8, .v (.pointer (some ⟨b8, 0, none⟩))), (10, .v (.int .i64 0)), (11, .v (.pointer (some ⟨b11, 0, none⟩))), (13, .v (.int .i64 0)), (14, .v (.pointer (some ⟨b14, 0, none⟩))), (16, .v (.int .i64 0)), (18, .v (.int .i64 5)), (19, .v (.int .i64 7))], [⟨b17, 32, 12, cSt (stZ)⟩, ⟨b14, 32, 12, cSt (delS [colX, litN (-k), opN 9])⟩, ⟨b11, 32, 12, cSt (delS [colX, litN k, opN 9])⟩, ⟨b8, 32, 12, cSt (delS [litN (-k)])⟩, ⟨b5, 24, 3, cT miT⟩, ⟨b4, 24, 3, cT (nuT k)⟩]⟩ : St)) ?_ ?_
    ·skip
     refine CD.draw (bks _) (by kernel_rfl) (fun _ h => h) ?_
     refine a0_ 0 rfl mv_ ?_
     refine a0_ 2 rfl (lab_ 3 [_, _, _]) ?_
     refine AD0.later rfl ?_
     refine AD.three (i := 1) (j := 3) (k := 10) (by kernel_rfl) ?_ ?_ ?_
     ·skip
      refine AStep.appendG (ls := []) (new := hdD) (Sq := []) cT_len cT_one rfl (wants_plain rfl) rfl rfl Tryd.underlying26 info24_Pd1 rfl (by decide) opd_const ownL_nil (perm_r11 (A := [_, _, _, _, _])) ot (Nat.le_of_ble_eq_true rfl) (Nat.le_of_ble_eq_true rfl) (Nat.le_of_ble_eq_true rfl) (fun b77 cp77 h177 h277 => ?_)
      refine AD.perm (perm_q11 (S1 := [⟨b77, 24, cp77 * 3, List.flatMap cT ([] ++ hdD)⟩]) (A := [_, _, _, _, _])) ?_
      refine AD.two (i := 3) (j := 10) (by kernel_rfl) ?_ ?_
      ·skip
       refine AStep.bldS (pl := numD 0 [_]) (zvs := [.int .i64 0, .string ⟨#[]⟩, .int .i64 0]) (ds := [_, _, _]) rfl (wants_plain rfl) rfl rfl Tryd.zeroValue24 Tryd.runUnderlying26 Tryd.sizeOf24 rfl rfl (by kernel_rfl) ⟨rfl, ot, trivial⟩ (by exact rfl) (fill_full (by exact rfl) (by exact rfl) (by exact rfl)) (fun b79 => ?_)
       refine AD.give (k := 0) (t := 79) (sz := 3) (m := 1) rfl lk rfl rfl rfl (Nat.le_refl _) (by decide) ?_
       refine AD.two (i := 4) (j := 10) (by kernel_rfl) ?_ ?_
       ·skip
        refine AStep.appendG (ls := ([] ++ hdD)) (new := [miT]) (Sq := [⟨b77, 24, cp77 * 3, List.flatMap cT ([] ++ hdD)⟩]) cT_len cT_one rfl (wants_plain rfl) rfl rfl Tryd.underlying26 info24_Pd1 rfl (by decide) ot (ownL_row h177 h277) (perm_r11 (A := [_, _, _, _, _])) ot (Nat.le_of_ble_eq_true rfl) (Nat.le_of_ble_eq_true rfl) (Nat.le_of_ble_eq_true rfl) (fun b80 cp80 h180 h280 => ?_)
        refine AD.perm (perm_q11 (S1 := [⟨b80, 24, cp80 * 3, List.flatMap cT (([] ++ hdD) ++ [miT])⟩]) (A := [_, _, _, _, _])) ?_
        refine AD.giveL (t := 80) (Sq := [⟨b80, 24, cp80 * 3, List.flatMap cT (([] ++ hdD) ++ [miT])⟩]) lk (ownL_row h180 h280) (fm_len cT_len _) (perm_r11 (A := [_, _, _, _, _])) ?_
        refine AD.two (i := 5) (j := 10) (by kernel_rfl) ?_ ?_
        ·skip
         refine AStep.callP rfl (wants_plain rfl) rfl rfl rfl Tryd.call13 (pD hm hw hk hty) ⟨ot, trivial⟩ ?_
         refine a1_ 6 rfl mv_ ?_
         refine a1_ 7 rfl ex_ ?_
         refine a1_ 8 rfl ex_ ?_
         refine a1_ 9 rfl ex_ ?_
         refine AD.one (i := 10) (by kernel_rfl) ?_
         refine AStep.alloc (ds := [_, _, _, _, _, _, _, _, _, _, _, _]) rfl (wants_plain rfl) rfl rfl Tryd.zeroValue32 rfl (fun b17 => ?_)
         refine AD.one (i := 11) (by kernel_rfl) ?_
         refine AStep.store (k := 0) (cs' := [_, _, _, _, _, _, _, _, _, _, _, _]) rfl (wants_plain rfl) rfl rfl ot rfl rfl ot rfl rfl Tryd.sizeOf32 rfl rfl rfl (by intro b hb; simp [bks, St.put] at hb ⊢; try first | exact hb | omega | simp [hb] | (rcases hb with hb | hb <;> simp [hb]) | (rcases hb with hb | hb | hb <;> simp [hb])) ?_
         refine a1_ 12 rfl mv_ ?_
         refine a1_ 13 rfl mv_ ?_
         refine AD.wk (y := ⟨179, [(3, _), (5, _), (6, _), (7, _), (8, _), (10, _), (11, _), (13, _), (14, _), (16, _), (18, _), (19, _)], [⟨b17, 32, 12, [_, _, _, _, _, _, _, _, _, _, _, _]⟩, ⟨b14, 32, 12, [_, _, _, _, _, _, _, _, _, _, _, _]⟩, ⟨b11, 32, 12, [_, _, _, _, _, _, _, _, _, _, _, _]⟩, ⟨b8, 32, 12, [_, _, _, _, _, _, _, _, _, _, _, _]⟩, ⟨b5, 24, 3, [_, _, _]⟩, ⟨b4, 24, 3, [_, _, _]⟩]⟩) (Wk.as_ rfl rfl ⟨lk, lk, lk, lk, lk, lk, lk, lk, lk, lk, lk, lk, trivial⟩) rfl ?_
         refine AD.done (by kernel_rfl) ?_
         exact ⟨rfl, _, trivial, Wk.refl _⟩
        ·skip
         refine AStep.alloc (ds := [_, _, _, _, _, _, _, _, _, _, _, _]) rfl (wants_plain rfl) rfl rfl Tryd.zeroValue32 rfl (fun b17 => ?_)
         refine AD.one (i := 5) (by kernel_rfl) ?_
         refine AStep.callP rfl (wants_plain rfl) rfl rfl rfl Tryd.call13 (pD hm hw hk hty) ⟨ot, trivial⟩ ?_
         refine a1_ 6 rfl mv_ ?_
         refine a1_ 7 rfl ex_ ?_
         refine a1_ 8 rfl ex_ ?_
         refine a1_ 9 rfl ex_ ?_
         refine AD.one (i := 11) (by kernel_rfl) ?_
         refine AStep.store (k := 0) (cs' := [_, _, _, _, _, _, _, _, _, _, _, _]) rfl (wants_plain rfl) rfl rfl ot rfl rfl ot rfl rfl Tryd.sizeOf32 rfl rfl rfl (by intro b hb; simp [bks, St.put] at hb ⊢; try first | exact hb | omega | simp [hb] | (rcases hb with hb | hb <;> simp [hb]) | (rcases hb with hb | hb | hb <;> simp [hb])) ?_
         refine a1_ 12 rfl mv_ ?_
         refine a1_ 13 rfl mv_ ?_
         refine AD.wk (y := ⟨179, [(3, _), (5, _), (6, _), (7, _), (8, _), (10, _), (11, _), (13, _), (14, _), (16, _), (18, _), (19, _)], [⟨b17, 32, 12, [_, _, _, _, _, _, _, _, _, _, _, _]⟩, ⟨b14, 32, 12, [_, _, _, _, _, _, _, _, _, _, _, _]⟩, ⟨b11, 32, 12, [_, _, _, _, _, _, _, _, _, _, _, _]⟩, ⟨b8, 32, 12, [_, _, _, _, _, _, _, _, _, _, _, _]⟩, ⟨b5, 24, 3, [_, _, _]⟩, ⟨b4, 24, 3, [_, _, _]⟩]⟩) (Wk.as_ rfl rfl ⟨lk, lk, lk, lk, lk, lk, lk, lk, lk, lk, lk, lk, trivial⟩) rfl ?_
         refine AD.done (by kernel_rfl) ?_
         exact ⟨rfl, _, trivial, Wk.refl _⟩
       ·skip
        refine AStep.alloc (ds := [_, _, _, _, _, _, _, _, _, _, _, _]) rfl (wants_plain rfl) rfl rfl Tryd.zeroValue32 rfl (fun b17 => ?_)
        refine AD.one (i := 4) (by kernel_rfl) ?_
        refine AStep.appendG (ls := ([] ++ hdD)) (new := [miT]) (Sq := [⟨b77, 24, cp77 * 3, List.flatMap cT ([] ++ hdD)⟩]) cT_len cT_one rfl (wants_plain rfl) rfl rfl Tryd.underlying26 info24_Pd1 rfl (by decide) ot (ownL_row h177 h277) (perm_r11 (A := [_, _, _, _, _, _])) ot (Nat.le_of_ble_eq_true rfl) (Nat.le_of_ble_eq_true rfl) (Nat.le_of_ble_eq_true rfl) (fun b80 cp80 h180 h280 => ?_)
        refine AD.perm (perm_q11 (S1 := [⟨b80, 24, cp80 * 3, List.flatMap cT (([] ++ hdD) ++ [miT])⟩]) (A := [_, _, _, _, _, _])) ?_
        refine AD.giveL (t := 80) (Sq := [⟨b80, 24, cp80 * 3, List.flatMap cT (([] ++ hdD) ++ [miT])⟩]) lk (ownL_row h180 h280) (fm_len cT_len _) (perm_r11 (A := [_, _, _, _, _, _])) ?_
        refine AD.one (i := 5) (by kernel_rfl) ?_
        refine AStep.callP rfl (wants_plain rfl) rfl rfl rfl Tryd.call13 (pD hm hw hk hty) ⟨ot, trivial⟩ ?_
        refine a1_ 6 rfl mv_ ?_
        refine a1_ 7 rfl ex_ ?_
        refine a1_ 8 rfl ex_ ?_
        refine a1_ 9 rfl ex_ ?_
        refine AD.one (i := 11) (by kernel_rfl) ?_
        refine AStep.store (k := 0) (cs' := [_, _, _, _, _, _, _, _, _, _, _, _]) rfl (wants_plain rfl) rfl rfl ot rfl rfl ot rfl rfl Tryd.sizeOf32 rfl rfl rfl (by intro b hb; simp [bks, St.put] at hb ⊢; try first | exact hb | omega | simp [hb] | (rcases hb with hb | hb <;> simp [hb]) | (rcases hb with hb | hb | hb <;> simp [hb])) ?_
        refine a1_ 12 rfl mv_ ?_
        refine a1_ 13 rfl mv_ ?_
        refine AD.wk (y := ⟨179, [(3, _), (5, _), (6, _), (7, _), (8, _), (10, _), (11, _), (13, _), (14, _), (16, _), (18, _), (19, _)], [⟨b17, 32, 12, [_, _, _, _, _, _, _, _, _, _, _, _]⟩, ⟨b14, 32, 12, [_, _, _, _, _, _, _, _, _, _, _, _]⟩, ⟨b11, 32, 12, [_, _, _, _, _, _, _, _, _, _, _, _]⟩, ⟨b8, 32, 12, [_, _, _, _, _, _, _, _, _, _, _, _]⟩, ⟨b5, 24, 3, [_, _, _]⟩, ⟨b4, 24, 3, [_, _, _]⟩]⟩) (Wk.as_ rfl rfl ⟨lk, lk, lk, lk, lk, lk, lk, lk, lk, lk, lk, lk, trivial⟩) rfl ?_
        refine AD.done (by kernel_rfl) ?_
        exact ⟨rfl, _, trivial, Wk.refl _⟩
      ·skip
       refine AStep.alloc (ds := [_, _, _, _, _, _, _, _, _, _, _, _]) rfl (wants_plain rfl) rfl rfl Tryd.zeroValue32 rfl (fun b17 => ?_)
       refine AD.one (i := 3) (by kernel_rfl) ?_
       refine AStep.bldS (pl := numD 0 [_]) (zvs := [.int .i64 0, .string ⟨#[]⟩, .int .i64 0]) (ds := [_, _, _]) rfl (wants_plain rfl) rfl rfl Tryd.zeroValue24 Tryd.runUnderlying26 Tryd.sizeOf24 rfl rfl (by kernel_rfl) ⟨rfl, ot, trivial⟩ (by exact rfl) (fill_full (by exact rfl) (by exact rfl) (by exact rfl)) (fun b79 => ?_)
       refine AD.give (k := 0) (t := 79) (sz := 3) (m := 1) rfl lk rfl rfl rfl (Nat.le_refl _) (by decide) ?_
       refine AD.one (i := 4) (by kernel_rfl) ?_
       refine AStep.appendG (ls := ([] ++ hdD)) (new := [miT]) (Sq := [⟨b77, 24, cp77 * 3, List.flatMap cT ([] ++ hdD)⟩]) cT_len cT_one rfl (wants_plain rfl) rfl rfl Tryd.underlying26 info24_Pd1 rfl (by decide) ot (ownL_row h177 h277) (perm_r11 (A := [_, _, _, _, _, _])) ot (Nat.le_of_ble_eq_true rfl) (Nat.le_of_ble_eq_true rfl) (Nat.le_of_ble_eq_true rfl) (fun b80 cp80 h180 h280 => ?_)
       refine AD.perm (perm_q11 (S1 := [⟨b80, 24, cp80 * 3, List.flatMap cT (([] ++ hdD) ++ [miT])⟩]) (A := [_, _, _, _, _, _])) ?_
       refine AD.giveL (t := 80) (Sq := [⟨b80, 24, cp80 * 3, List.flatMap cT (([] ++ hdD) ++ [miT])⟩]) lk (ownL_row h180 h280) (fm_len cT_len _) (perm_r11 (A := [_, _, _, _, _, _])) ?_
       refine AD.one (i := 5) (by kernel_rfl) ?_
       refine AStep.callP rfl (wants_plain rfl) rfl rfl rfl Tryd.call13 (pD hm hw hk hty) ⟨ot, trivial⟩ ?_
       refine a1_ 6 rfl mv_ ?_
       refine a1_ 7 rfl ex_ ?_
       refine a1_ 8 rfl ex_ ?_
       refine a1_ 9 rfl ex_ ?_
       refine AD.one (i := 11) (by kernel_rfl) ?_
       refine AStep.store (k := 0) (cs' := [_, _, _, _, _, _, _, _, _, _, _, _]) rfl (wants_plain rfl) rfl rfl ot rfl rfl ot rfl rfl Tryd.sizeOf32 rfl rfl rfl (by intro b hb; simp [bks, St.put] at hb ⊢; try first | exact hb | omega | simp [hb] | (rcases hb with hb | hb <;> simp [hb]) | (rcases hb with hb | hb | hb <;> simp [hb])) ?_
       refine a1_ 12 rfl mv_ ?_
       refine a1_ 13 rfl mv_ ?_
       refine AD.wk (y := ⟨179, [(3, _), (5, _), (6, _), (7, _), (8, _), (10, _), (11, _), (13, _), (14, _), (16, _), (18, _), (19, _)], [⟨b17, 32, 12, [_, _, _, _, _, _, _, _, _, _, _, _]⟩, ⟨b14, 32, 12, [_, _, _, _, _, _, _, _, _, _, _, _]⟩, ⟨b11, 32, 12, [_, _, _, _, _, _, _, _, _, _, _, _]⟩, ⟨b8, 32, 12, [_, _, _, _, _, _, _, _, _, _, _, _]⟩, ⟨b5, 24, 3, [_, _, _]⟩, ⟨b4, 24, 3, [_, _, _]⟩]⟩) (Wk.as_ rfl rfl ⟨lk, lk, lk, lk, lk, lk, lk, lk, lk, lk, lk, lk, trivial⟩) rfl ?_
       refine AD.done (by kernel_rfl) ?_
       exact ⟨rfl, _, trivial, Wk.refl _⟩
     ·skip
      refine AStep.bldS (pl := numD 0 [_]) (zvs := [.int .i64 0, .string ⟨#[]⟩, .int .i64 0]) (ds := [_, _, _]) rfl (wants_plain rfl) rfl rfl Tryd.zeroValue24 Tryd.runUnderlying26 Tryd.sizeOf24 rfl rfl (by kernel_rfl) ⟨rfl, ot, trivial⟩ (by exact rfl) (fill_full (by exact rfl) (by exact rfl) (by exact rfl)) (fun b79 => ?_)
      refine AD.give (k := 0) (t := 79) (sz := 3) (m := 1) rfl lk rfl rfl rfl (Nat.le_refl _) (by decide) ?_
      refine AD.two (i := 1) (j := 10) (by kernel_rfl) ?_ ?_
      ·skip
       refine AStep.appendG (ls := []) (new := hdD) (Sq := []) cT_len cT_one rfl (wants_plain rfl) rfl rfl Tryd.underlying26 info24_Pd1 rfl (by decide) opd_const ownL_nil (perm_r11 (A := [_, _, _, _, _])) ot (Nat.le_of_ble_eq_true rfl) (Nat.le_of_ble_eq_true rfl) (Nat.le_of_ble_eq_true rfl) (fun b77 cp77 h177 h277 => ?_)
       refine AD.perm (perm_q11 (S1 := [⟨b77, 24, cp77 * 3, List.flatMap cT ([] ++ hdD)⟩]) (A := [_, _, _, _, _])) ?_
       refine AD.two (i := 4) (j := 10) (by kernel_rfl) ?_ ?_
       ·skip
        refine AStep.appendG (ls := ([] ++ hdD)) (new := [miT]) (Sq := [⟨b77, 24, cp77 * 3, List.flatMap cT ([] ++ hdD)⟩]) cT_len cT_one rfl (wants_plain rfl) rfl rfl Tryd.underlying26 info24_Pd1 rfl (by decide) ot (ownL_row h177 h277) (perm_r11 (A := [_, _, _, _, _])) ot (Nat.le_of_ble_eq_true rfl) (Nat.le_of_ble_eq_true rfl) (Nat.le_of_ble_eq_true rfl) (fun b80 cp80 h180 h280 => ?_)
        refine AD.perm (perm_q11 (S1 := [⟨b80, 24, cp80 * 3, List.flatMap cT (([] ++ hdD) ++ [miT])⟩]) (A := [_, _, _, _, _])) ?_
        refine AD.giveL (t := 80) (Sq := [⟨b80, 24, cp80 * 3, List.flatMap cT (([] ++ hdD) ++ [miT])⟩]) lk (ownL_row h180 h280) (fm_len cT_len _) (perm_r11 (A := [_, _, _, _, _])) ?_
        refine AD.two (i := 5) (j := 10) (by kernel_rfl) ?_ ?_
        ·skip
         refine AStep.callP rfl (wants_plain rfl) rfl rfl rfl Tryd.call13 (pD hm hw hk hty) ⟨ot, trivial⟩ ?_
         refine a1_ 6 rfl mv_ ?_
         refine a1_ 7 rfl ex_ ?_
         refine a1_ 8 rfl ex_ ?_
         refine a1_ 9 rfl ex_ ?_
         refine AD.one (i := 10) (by kernel_rfl) ?_
         refine AStep.alloc (ds := [_, _, _, _, _, _, _, _, _, _, _, _]) rfl (wants_plain rfl) rfl rfl Tryd.zeroValue32 rfl (fun b17 => ?_)
         refine AD.one (i := 11) (by kernel_rfl) ?_
         refine AStep.store (k := 0) (cs' := [_, _, _, _, _, _, _, _, _, _, _, _]) rfl (wants_plain rfl) rfl rfl ot rfl rfl ot rfl rfl Tryd.sizeOf32 rfl rfl rfl (by intro b hb; simp [bks, St.put] at hb ⊢; try first | exact hb | omega | simp [hb] | (rcases hb with hb | hb <;> simp [hb]) | (rcases hb with hb | hb | hb <;> simp [hb])) ?_
         refine a1_ 12 rfl mv_ ?_
         refine a1_ 13 rfl mv_ ?_
         refine AD.wk (y := ⟨179, [(3, _), (5, _), (6, _), (7, _), (8, _), (10, _), (11, _), (13, _), (14, _), (16, _), (18, _), (19, _)], [⟨b17, 32, 12, [_, _, _, _, _, _, _, _, _, _, _, _]⟩, ⟨b14, 32, 12, [_, _, _, _, _, _, _, _, _, _, _, _]⟩, ⟨b11, 32, 12, [_, _, _, _, _, _, _, _, _, _, _, _]⟩, ⟨b8, 32, 12, [_, _, _, _, _, _, _, _, _, _, _, _]⟩, ⟨b5, 24, 3, [_, _, _]⟩, ⟨b4, 24, 3, [_, _, _]⟩]⟩) (Wk.as_ rfl rfl ⟨lk, lk, lk, lk, lk, lk, lk, lk, lk, lk, lk, lk, trivial⟩) rfl ?_
         refine AD.done (by kernel_rfl) ?_
         exact ⟨rfl, _, trivial, Wk.refl _⟩
        ·skip
         refine AStep.alloc (ds := [_, _, _, _, _, _, _, _, _, _, _, _]) rfl (wants_plain rfl) rfl rfl Tryd.zeroValue32 rfl (fun b17 => ?_)
         refine AD.one (i := 5) (by kernel_rfl) ?_
         refine AStep.callP rfl (wants_plain rfl) rfl rfl rfl Tryd.call13 (pD hm hw hk hty) ⟨ot, trivial⟩ ?_
         refine a1_ 6 rfl mv_ ?_
         refine a1_ 7 rfl ex_ ?_
         refine a1_ 8 rfl ex_ ?_
         refine a1_ 9 rfl ex_ ?_
         refine AD.one (i := 11) (by kernel_rfl) ?_
         refine AStep.store (k := 0) (cs' := [_, _, _, _, _, _, _, _, _, _, _, _]) rfl (wants_plain rfl) rfl rfl ot rfl rfl ot rfl rfl Tryd.sizeOf32 rfl rfl rfl (by intro b hb; simp [bks, St.put] at hb ⊢; try first | exact hb | omega | simp [hb] | (rcases hb with hb | hb <;> simp [hb]) | (rcases hb with hb | hb | hb <;> simp [hb])) ?_
         refine a1_ 12 rfl mv_ ?_
         refine a1_ 13 rfl mv_ ?_
         refine AD.wk (y := ⟨179, [(3, _), (5, _), (6, _), (7, _), (8, _), (10, _), (11, _), (13, _), (14, _), (16, _), (18, _), (19, _)], [⟨b17, 32, 12, [_, _, _, _, _, _, _, _, _, _, _, _]⟩, ⟨b14, 32, 12, [_, _, _, _, _, _, _, _, _, _, _, _]⟩, ⟨b11, 32, 12, [_, _, _, _, _, _, _, _, _, _, _, _]⟩, ⟨b8, 32, 12, [_, _, _, _, _, _, _, _, _, _, _, _]⟩, ⟨b5, 24, 3, [_, _, _]⟩, ⟨b4, 24, 3, [_, _, _]⟩]⟩) (Wk.as_ rfl rfl ⟨lk, lk, lk, lk, lk, lk, lk, lk, lk, lk, lk, lk, trivial⟩) rfl ?_
         refine AD.done (by kernel_rfl) ?_
         exact ⟨rfl, _, trivial, Wk.refl _⟩
       ·skip
        refine AStep.alloc (ds := [_, _, _, _, _, _, _, _, _, _, _, _]) rfl (wants_plain rfl) rfl rfl Tryd.zeroValue32 rfl (fun b17 => ?_)
        refine AD.one (i := 4) (by kernel_rfl) ?_
        refine AStep.appendG (ls := ([] ++ hdD)) (new := [miT]) (Sq := [⟨b77, 24, cp77 * 3, List.flatMap cT ([] ++ hdD)⟩]) cT_len cT_one rfl (wants_plain rfl) rfl rfl Tryd.underlying26 info24_Pd1 rfl (by decide) ot (ownL_row h177 h277) (perm_r11 (A := [_, _, _, _, _, _])) ot (Nat.le_of_ble_eq_true rfl) (Nat.le_of_ble_eq_true rfl) (Nat.le_of_ble_eq_true rfl) (fun b80 cp80 h180 h280 => ?_)
        refine AD.perm (perm_q11 (S1 := [⟨b80, 24, cp80 * 3, List.flatMap cT (([] ++ hdD) ++ [miT])⟩]) (A := [_, _, _, _, _, _])) ?_
        refine AD.giveL (t := 80) (Sq := [⟨b80, 24, cp80 * 3, List.flatMap cT (([] ++ hdD) ++ [miT])⟩]) lk (ownL_row h180 h280) (fm_len cT_len _) (perm_r11 (A := [_, _, _, _, _, _])) ?_
        refine AD.one (i := 5) (by kernel_rfl) ?_
        refine AStep.callP rfl (wants_plain rfl) rfl rfl rfl Tryd.call13 (pD hm hw hk hty) ⟨ot, trivial⟩ ?_
        refine a1_ 6 rfl mv_ ?_
        refine a1_ 7 rfl ex_ ?_
        refine a1_ 8 rfl ex_ ?_
        refine a1_ 9 rfl ex_ ?_
        refine AD.one (i := 11) (by kernel_rfl) ?_
        refine AStep.store (k := 0) (cs' := [_, _, _, _, _, _, _, _, _, _, _, _]) rfl (wants_plain rfl) rfl rfl ot rfl rfl ot rfl rfl Tryd.sizeOf32 rfl rfl rfl (by intro b hb; simp [bks, St.put] at hb ⊢; try first | exact hb | omega | simp [hb] | (rcases hb with hb | hb <;> simp [hb]) | (rcases hb with hb | hb | hb <;> simp [hb])) ?_
        refine a1_ 12 rfl mv_ ?_
        refine a1_ 13 rfl mv_ ?_
        refine AD.wk (y := ⟨179, [(3, _), (5, _), (6, _), (7, _), (8, _), (10, _), (11, _), (13, _), (14, _), (16, _), (18, _), (19, _)], [⟨b17, 32, 12, [_, _, _, _, _, _, _, _, _, _, _, _]⟩, ⟨b14, 32, 12, [_, _, _, _, _, _, _, _, _, _, _, _]⟩, ⟨b11, 32, 12, [_, _, _, _, _, _, _, _, _, _, _, _]⟩, ⟨b8, 32, 12, [_, _, _, _, _, _, _, _, _, _, _, _]⟩, ⟨b5, 24, 3, [_, _, _]⟩, ⟨b4, 24, 3, [_, _, _]⟩]⟩) (Wk.as_ rfl rfl ⟨lk, lk, lk, lk, lk, lk, lk, lk, lk, lk, lk, lk, trivial⟩) rfl ?_
        refine AD.done (by kernel_rfl) ?_
        exact ⟨rfl, _, trivial, Wk.refl _⟩
      ·skip
       refine AStep.alloc (ds := [_, _, _, _, _, _, _, _, _, _, _, _]) rfl (wants_plain rfl) rfl rfl Tryd.zeroValue32 rfl (fun b17 => ?_)
       refine AD.one (i := 1) (by kernel_rfl) ?_
       refine AStep.appendG (ls := []) (new := hdD) (Sq := []) cT_len cT_one rfl (wants_plain rfl) rfl rfl Tryd.underlying26 info24_Pd1 rfl (by decide) opd_const ownL_nil (perm_r11 (A := [_, _, _, _, _, _])) ot (Nat.le_of_ble_eq_true rfl) (Nat.le_of_ble_eq_true rfl) (Nat.le_of_ble_eq_true rfl) (fun b77 cp77 h177 h277 => ?_)
       refine AD.perm (perm_q11 (S1 := [⟨b77, 24, cp77 * 3, List.flatMap cT ([] ++ hdD)⟩]) (A := [_, _, _, _, _, _])) ?_
       refine AD.one (i := 4) (by kernel_rfl) ?_
       refine AStep.appendG (ls := ([] ++ hdD)) (new := [miT]) (Sq := [⟨b77, 24, cp77 * 3, List.flatMap cT ([] ++ hdD)⟩]) cT_len cT_one rfl (wants_plain rfl) rfl rfl Tryd.underlying26 info24_Pd1 rfl (by decide) ot (ownL_row h177 h277) (perm_r11 (A := [_, _, _, _, _, _])) ot (Nat.le_of_ble_eq_true rfl) (Nat.le_of_ble_eq_true rfl) (Nat.le_of_ble_eq_true rfl) (fun b80 cp80 h180 h280 => ?_)
       refine AD.perm (perm_q11 (S1 := [⟨b80, 24, cp80 * 3, List.flatMap cT (([] ++ hdD) ++ [miT])⟩]) (A := [_, _, _, _, _, _])) ?_
       refine AD.giveL (t := 80) (Sq := [⟨b80, 24, cp80 * 3, List.flatMap cT (([] ++ hdD) ++ [miT])⟩]) lk (ownL_row h180 h280) (fm_len cT_len _) (perm_r11 (A := [_, _, _, _, _, _])) ?_
       refine AD.one (i := 5) (by kernel_rfl) ?_
       refine AStep.callP rfl (wants_plain rfl) rfl rfl rfl Tryd.call13 (pD hm hw hk hty) ⟨ot, trivial⟩ ?_
       refine a1_ 6 rfl mv_ ?_
       refine a1_ 7 rfl ex_ ?_
       refine a1_ 8 rfl ex_ ?_
       refine a1_ 9 rfl ex_ ?_
       refine AD.one (i := 11) (by kernel_rfl) ?_
       refine AStep.store (k := 0) (cs' := [_, _, _, _, _, _, _, _, _, _, _, _]) rfl (wants_plain rfl) rfl rfl ot rfl rfl ot rfl rfl Tryd.sizeOf32 rfl rfl rfl (by intro b hb; simp [bks, St.put] at hb ⊢; try first | exact hb | omega | simp [hb] | (rcases hb with hb | hb <;> simp [hb]) | (rcases hb with hb | hb | hb <;> simp [hb])) ?_
       refine a1_ 12 rfl mv_ ?_
       refine a1_ 13 rfl mv_ ?_
       refine AD.wk (y := ⟨179, [(3, _), (5, _), (6, _), (7, _), (8, _), (10, _), (11, _), (13, _), (14, _), (16, _), (18, _), (19, _)], [⟨b17, 32, 12, [_, _, _, _, _, _, _, _, _, _, _, _]⟩, ⟨b14, 32, 12, [_, _, _, _, _, _, _, _, _, _, _, _]⟩, ⟨b11, 32, 12, [_, _, _, _, _, _, _, _, _, _, _, _]⟩, ⟨b8, 32, 12, [_, _, _, _, _, _, _, _, _, _, _, _]⟩, ⟨b5, 24, 3, [_, _, _]⟩, ⟨b4, 24, 3, [_, _, _]⟩]⟩) (Wk.as_ rfl rfl ⟨lk, lk, lk, lk, lk, lk, lk, lk, lk, lk, lk, lk, trivial⟩) rfl ?_
       refine AD.done (by kernel_rfl) ?_
       exact ⟨rfl, _, trivial, Wk.refl _⟩
     ·skip
      refine AStep.alloc (ds := [_, _, _, _, _, _, _, _, _, _, _, _]) rfl (wants_plain rfl) rfl rfl Tryd.zeroValue32 rfl (fun b17 => ?_)
      refine AD.two (i := 1) (j := 3) (by kernel_rfl) ?_ ?_
      ·skip
       refine AStep.appendG (ls := []) (new := hdD) (Sq := []) cT_len cT_one rfl (wants_plain rfl) rfl rfl Tryd.underlying26 info24_Pd1 rfl (by decide) opd_const ownL_nil (perm_r11 (A := [_, _, _, _, _, _])) ot (Nat.le_of_ble_eq_true rfl) (Nat.le_of_ble_eq_true rfl) (Nat.le_of_ble_eq_true rfl) (fun b77 cp77 h177 h277 => ?_)
       refine AD.perm (perm_q11 (S1 := [⟨b77, 24, cp77 * 3, List.flatMap cT ([] ++ hdD)⟩]) (A := [_, _, _, _, _, _])) ?_
       refine AD.one (i := 3) (by kernel_rfl) ?_
       refine AStep.bldS (pl := numD 0 [_]) (zvs := [.int .i64 0, .string ⟨#[]⟩, .int .i64 0]) (ds := [_, _, _]) rfl (wants_plain rfl) rfl rfl Tryd.zeroValue24 Tryd.runUnderlying26 Tryd.sizeOf24 rfl rfl (by kernel_rfl) ⟨rfl, ot, trivial⟩ (by exact rfl) (fill_full (by exact rfl) (by exact rfl) (by exact rfl)) (fun b79 => ?_)
       refine AD.give (k := 0) (t := 79) (sz := 3) (m := 1) rfl lk rfl rfl rfl (Nat.le_refl _) (by decide) ?_
       refine AD.one (i := 4) (by kernel_rfl) ?_
       refine AStep.appendG (ls := ([] ++ hdD)) (new := [miT]) (Sq := [⟨b77, 24, cp77 * 3, List.flatMap cT ([] ++ hdD)⟩]) cT_len cT_one rfl (wants_plain rfl) rfl rfl Tryd.underlying26 info24_Pd1 rfl (by decide) ot (ownL_row h177 h277) (perm_r11 (A := [_, _, _, _, _, _])) ot (Nat.le_of_ble_eq_true rfl) (Nat.le_of_ble_eq_true rfl) (Nat.le_of_ble_eq_true rfl) (fun b80 cp80 h180 h280 => ?_)
       refine AD.perm (perm_q11 (S1 := [⟨b80, 24, cp80 * 3, List.flatMap cT (([] ++ hdD) ++ [miT])⟩]) (A := [_, _, _, _, _, _])) ?_
       refine AD.giveL (t := 80) (Sq := [⟨b80, 24, cp80 * 3, List.flatMap cT (([] ++ hdD) ++ [miT])⟩]) lk (ownL_row h180 h280) (fm_len cT_len _) (perm_r11 (A := [_, _, _, _, _, _])) ?_
       refine AD.one (i := 5) (by kernel_rfl) ?_
       refine AStep.callP rfl (wants_plain rfl) rfl rfl rfl Tryd.call13 (pD hm hw hk hty) ⟨ot, trivial⟩ ?_
       refine a1_ 6 rfl mv_ ?_
       refine a1_ 7 rfl ex_ ?_
       refine a1_ 8 rfl ex_ ?_
       refine a1_ 9 rfl ex_ ?_
       refine AD.one (i := 11) (by kernel_rfl) ?_
       refine AStep.store (k := 0) (cs' := [_, _, _, _, _, _, _, _, _, _, _, _]) rfl (wants_plain rfl) rfl rfl ot rfl rfl ot rfl rfl Tryd.sizeOf32 rfl rfl rfl (by intro b hb; simp [bks, St.put] at hb ⊢; try first | exact hb | omega | simp [hb] | (rcases hb with hb | hb <;> simp [hb]) | (rcases hb with hb | hb | hb <;> simp [hb])) ?_
       refine a1_ 12 rfl mv_ ?_
       refine a1_ 13 rfl mv_ ?_
       refine AD.wk (y := ⟨179, [(3, _), (5, _), (6, _), (7, _), (8, _), (10, _), (11, _), (13, _), (14, _), (16, _), (18, _), (19, _)], [⟨b17, 32, 12, [_, _, _, _, _, _, _, _, _, _, _, _]⟩, ⟨b14, 32, 12, [_, _, _, _, _, _, _, _, _, _, _, _]⟩, ⟨b11, 32, 12, [_, _, _, _, _, _, _, _, _, _, _, _]⟩, ⟨b8, 32, 12, [_, _, _, _, _, _, _, _, _, _, _, _]⟩, ⟨b5, 24, 3, [_, _, _]⟩, ⟨b4, 24, 3, [_, _, _]⟩]⟩) (Wk.as_ rfl rfl ⟨lk, lk, lk, lk, lk, lk, lk, lk, lk, lk, lk, lk, trivial⟩) rfl ?_
       refine AD.done (by kernel_rfl) ?_
       exact ⟨rfl, _, trivial, Wk.refl _⟩
      ·skip
       refine AStep.bldS (pl := numD 0 [_]) (zvs := [.int .i64 0, .string ⟨#[]⟩, .int .i64 0]) (ds := [_, _, _]) rfl (wants_plain rfl) rfl rfl Tryd.zeroValue24 Tryd.runUnderlying26 Tryd.sizeOf24 rfl rfl (by kernel_rfl) ⟨rfl, ot, trivial⟩ (by exact rfl) (fill_full (by exact rfl) (by exact rfl) (by exact rfl)) (fun b79 => ?_)
       refine AD.give (k := 0) (t := 79) (sz := 3) (m := 1) rfl lk rfl rfl rfl (Nat.le_refl _) (by decide) ?_
       refine AD.one (i := 1) (by kernel_rfl) ?_
       refine AStep.appendG (ls := []) (new := hdD) (Sq := []) cT_len cT_one rfl (wants_plain rfl) rfl rfl Tryd.underlying26 info24_Pd1 rfl (by decide) opd_const ownL_nil (perm_r11 (A := [_, _, _, _, _, _])) ot (Nat.le_of_ble_eq_true rfl) (Nat.le_of_ble_eq_true rfl) (Nat.le_of_ble_eq_true rfl) (fun b77 cp77 h177 h277 => ?_)
       refine AD.perm (perm_q11 (S1 := [⟨b77, 24, cp77 * 3, List.flatMap cT ([] ++ hdD)⟩]) (A := [_, _, _, _, _, _])) ?_
       refine AD.one (i := 4) (by kernel_rfl) ?_
       refine AStep.appendG (ls := ([] ++ hdD)) (new := [miT]) (Sq := [⟨b77, 24, cp77 * 3, List.flatMap cT ([] ++ hdD)⟩]) cT_len cT_one rfl (wants_plain rfl) rfl rfl Tryd.underlying26 info24_Pd1 rfl (by decide) ot (ownL_row h177 h277) (perm_r11 (A := [_, _, _, _, _, _])) ot (Nat.le_of_ble_eq_true rfl) (Nat.le_of_ble_eq_true rfl) (Nat.le_of_ble_eq_true rfl) (fun b80 cp80 h180 h280 => ?_)
       refine AD.perm (perm_q11 (S1 := [⟨b80, 24, cp80 * 3, List.flatMap cT (([] ++ hdD) ++ [miT])⟩]) (A := [_, _, _, _, _, _])) ?_
       refine AD.giveL (t := 80) (Sq := [⟨b80, 24, cp80 * 3, List.flatMap cT (([] ++ hdD) ++ [miT])⟩]) lk (ownL_row h180 h280) (fm_len cT_len _) (perm_r11 (A := [_, _, _, _, _, _])) ?_
       refine AD.one (i := 5) (by kernel_rfl) ?_
       refine AStep.callP rfl (wants_plain rfl) rfl rfl rfl Tryd.call13 (pD hm hw hk hty) ⟨ot, trivial⟩ ?_
       refine a1_ 6 rfl mv_ ?_
       refine a1_ 7 rfl ex_ ?_
       refine a1_ 8 rfl ex_ ?_
       refine a1_ 9 rfl ex_ ?_
       refine AD.one (i := 11) (by kernel_rfl) ?_
       refine AStep.store (k := 0) (cs' := [_, _, _, _, _, _, _, _, _, _, _, _]) rfl (wants_plain rfl) rfl rfl ot rfl rfl ot rfl rfl Tryd.sizeOf32 rfl rfl rfl (by intro b hb; simp [bks, St.put] at hb ⊢; try first | exact hb | omega | simp [hb] | (rcases hb with hb | hb <;> simp [hb]) | (rcases hb with hb | hb | hb <;> simp [hb])) ?_
       refine a1_ 12 rfl mv_ ?_
       refine a1_ 13 rfl mv_ ?_
       refine AD.wk (y := ⟨179, [(3, _), (5, _), (6, _), (7, _), (8, _), (10, _), (11, _), (13, _), (14, _), (16, _), (18, _), (19, _)], [⟨b17, 32, 12, [_, _, _, _, _, _, _, _, _, _, _, _]⟩, ⟨b14, 32, 12, [_, _, _, _, _, _, _, _, _, _, _, _]⟩, ⟨b11, 32, 12, [_, _, _, _, _, _, _, _, _, _, _, _]⟩, ⟨b8, 32, 12, [_, _, _, _, _, _, _, _, _, _, _, _]⟩, ⟨b5, 24, 3, [_, _, _]⟩, ⟨b4, 24, 3, [_, _, _]⟩]⟩) (Wk.as_ rfl rfl ⟨lk, lk, lk, lk, lk, lk, lk, lk, lk, lk, lk, lk, trivial⟩) rfl ?_
       refine AD.done (by kernel_rfl) ?_
       exact ⟨rfl, _, trivial, Wk.refl _⟩
    ·skip
     rintro _ _ ⟨rfl, b17, _, hwk__⟩
     refine CD.wk hwk__ ?_
     refine CD.seq ?_
     refine CD.mono (Q := fun e__ y__ => e__ = Exit.normal ∧ ∃ (b20 : Nat), (True) ∧ Wk y__ (⟨179, [(3, .v (.int .i64 k)), (8, .v (.pointer (some ⟨b8, 0, none⟩))), (10, .v (.int .i64 0)), (11, .v (.pointer (some ⟨b11, 0, none⟩))), (13, .v (.int .i64 0)), (14, .v (.pointer (some ⟨b14, 0, none⟩))), (16, .v (.int .i64 0)), (18, .v (.int .i64 5)), (19, .v (.int .i64 7)), (21, .v (.int .i64 5)), (22, .v (.int .i64 6))], [⟨b20, 32, 12, cSt (stZ)⟩, ⟨b17, 32, 12, cSt (stZ)⟩, ⟨b14, 32, 12, cSt (delS [colX, litN (-k), opN 9])⟩, ⟨b11, 32, 12, cSt (delS [colX, litN k, opN 9])⟩, ⟨b8, 32, 12, cSt (delS [litN (-k)])⟩, ⟨b5, 24, 3, cT miT⟩, ⟨b4, 24, 3, cT (nuT k)⟩]⟩ : St)) ?_ ?_
     ·skip
      refine CD.draw (bks _) (by kernel_rfl) (fun _ h => h) ?_
      refine a0_ 0 rfl mv_ ?_
      refine a0_ 2 rfl (lab_ 4 [_, _, _]) ?_
      refine a0_ 3 rfl mv_ ?_
      refine AD0.later rfl ?_
      refine AD.two (i := 1) (j := 12) (by kernel_rfl) ?_ ?_
      ·skip
       refine AStep.appendG (ls := []) (new := hdD) (Sq := []) cT_len cT_one rfl (wants_plain rfl) rfl rfl Tryd.underlying26 info24_Pd1 rfl (by decide) opd_const ownL_nil (perm_r11 (A := [_, _, _, _, _, _])) ot (Nat.le_of_ble_eq_true rfl) (Nat.le_of_ble_eq_true rfl) (Nat.le_of_ble_eq_true rfl) (fun b87 cp87 h187 h287 => ?_)
       refine AD.perm (perm_q11 (S1 := [⟨b87, 24, cp87 * 3, List.flatMap cT ([] ++ hdD)⟩]) (A := [_, _, _, _, _, _])) ?_
       refine AD.two (i := 4) (j := 12) (by kernel_rfl) ?_ ?_
       ·skip
        refine AStep.callv (f := 12) (args := [_]) (all := [_]) (Sf := []) rfl (wants_plain rfl) rfl rfl ot Tryd.call12 (w_vp ⟨#[120]⟩) rfl ⟨opd_const, trivial⟩ (perm_none _) (by intro b hb; simp [bks, St.put] at hb ⊢; try first | exact hb | omega | simp [hb] | (rcases hb with hb | hb <;> simp [hb]) | (rcases hb with hb | hb | hb <;> simp [hb])) ?_; rintro _ _ ⟨rfl, rfl⟩
        refine AD.two (i := 5) (j := 12) (by kernel_rfl) ?_ ?_
        ·skip
         refine AStep.bldS (pl := numD 0 [_, _]) (zvs := [.int .i64 0, .string ⟨#[]⟩, .int .i64 0, .int .i64 0, .string ⟨#[]⟩, .int .i64 0]) (ds := [_, _, _, _, _, _]) rfl (wants_plain rfl) rfl rfl Tryd.zeroValue24 Tryd.runUnderlying26 Tryd.sizeOf24 rfl rfl (by kernel_rfl) ⟨rfl, ot, rfl, ot, trivial⟩ (by exact rfl) (fill_full (by exact rfl) (by exact rfl) (by exact rfl)) (fun b91 => ?_)
         refine AD.give (k := 0) (t := 91) (sz := 3) (m := 2) rfl lk rfl rfl rfl (Nat.le_refl _) (by decide) ?_
         refine AD.two (i := 6) (j := 12) (by kernel_rfl) ?_ ?_
         ·skip
          refine AStep.appendG (ls := ([] ++ hdD)) (new := [miT, xT]) (Sq := [⟨b87, 24, cp87 * 3, List.flatMap cT ([] ++ hdD)⟩]) cT_len cT_one rfl (wants_plain rfl) rfl rfl Tryd.underlying26 info24_Pd1 rfl (by decide) ot (ownL_row h187 h287) (perm_r11 (A := [_, _, _, _, _, _])) ot (Nat.le_of_ble_eq_true rfl) (Nat.le_of_ble_eq_true rfl) (Nat.le_of_ble_eq_true rfl) (fun b92 cp92 h192 h292 => ?_)
          refine AD.perm (perm_q11 (S1 := [⟨b92, 24, cp92 * 3, List.flatMap cT (([] ++ hdD) ++ [miT, xT])⟩]) (A := [_, _, _, _, _, _])) ?_
          refine AD.giveL (t := 92) (Sq := [⟨b92, 24, cp92 * 3, List.flatMap cT (([] ++ hdD) ++ [miT, xT])⟩]) lk (ownL_row h192 h292) (fm_len cT_len _) (perm_r11 (A := [_, _, _, _, _, _])) ?_
          refine AD.two (i := 7) (j := 12) (by kernel_rfl) ?_ ?_
          ·skip
           refine AStep.callP rfl (wants_plain rfl) rfl rfl rfl Tryd.call13 (pE hm hw hk hty) ⟨ot, trivial⟩ ?_
           refine a1_ 8 rfl mv_ ?_
           refine a1_ 9 rfl ex_ ?_
           refine a1_ 10 rfl ex_ ?_
           refine a1_ 11 rfl ex_ ?_
           refine AD.one (i := 12) (by kernel_rfl) ?_
           refine AStep.alloc (ds := [_, _, _, _, _, _, _, _, _, _, _, _]) rfl (wants_plain rfl) rfl rfl Tryd.zeroValue32 rfl (fun b20 => ?_)
           refine AD.one (i := 13) (by kernel_rfl) ?_
           refine AStep.store (k := 0) (cs' := [_, _, _, _, _, _, _, _, _, _, _, _]) rfl (wants_plain rfl) rfl rfl ot rfl rfl ot rfl rfl Tryd.sizeOf32 rfl rfl rfl (by intro b hb; simp [bks, St.put] at hb ⊢; try first | exact hb | omega | simp [hb] | (rcases hb with hb | hb <;> simp [hb]) | (rcases hb with hb | hb | hb <;> simp [hb])) ?_
           refine a1_ 14 rfl mv_ ?_
           refine a1_ 15 rfl mv_ ?_
           refine AD.wk (y := ⟨179, [(3, _), (8, _), (10, _), (11, _), (13, _), (14, _), (16, _), (18, _), (19, _), (21, _), (22, _)], [⟨b20, 32, 12, [_, _, _, _, _, _, _, _, _, _, _, _]⟩, ⟨b17, 32, 12, [_, _, _, _, _, _, _, _, _, _, _, _]⟩, ⟨b14, 32, 12, [_, _, _, _, _, _, _, _, _, _, _, _]⟩, ⟨b11, 32, 12, [_, _, _, _, _, _, _, _, _, _, _, _]⟩, ⟨b8, 32, 12, [_, _, _, _, _, _, _, _, _, _, _, _]⟩, ⟨b5, 24, 3, [_, _, _]⟩, ⟨b4, 24, 3, [_, _, _]⟩]⟩) (Wk.as_ rfl rfl ⟨lk, lk, lk, lk, lk, lk, lk, lk, lk, lk, lk, trivial⟩) rfl ?_
           refine AD.done (by kernel_rfl) ?_
           exact ⟨rfl, _, trivial, Wk.refl _⟩
          ·skip
           refine AStep.alloc (ds := [_, _, _, _, _, _, _, _, _, _, _, _]) rfl (wants_plain rfl) rfl rfl Tryd.zeroValue32 rfl (fun b20 => ?_)
           refine AD.one (i := 7) (by kernel_rfl) ?_
           refine AStep.callP rfl (wants_plain rfl) rfl rfl rfl Tryd.call13 (pE hm hw hk hty) ⟨ot, trivial⟩ ?_
           refine a1_ 8 rfl mv_ ?_
           refine a1_ 9 rfl ex_ ?_
           refine a1_ 10 rfl ex_ ?_
           refine a1_ 11 rfl ex_ ?_
           refine AD.one (i := 13) (by kernel_rfl) ?_
           refine AStep.store (k := 0) (cs' := [_, _, _, _, _, _, _, _, _, _, _, _]) rfl (wants_plain rfl) rfl rfl ot rfl rfl ot rfl rfl Tryd.sizeOf32 rfl rfl rfl (by intro b hb; simp [bks, St.put] at hb ⊢; try first | exact hb | omega | simp [hb] | (rcases hb with hb | hb <;> simp [hb]) | (rcases hb with hb | hb | hb <;> simp [hb])) ?_
           refine a1_ 14 rfl mv_ ?_
           refine a1_ 15 rfl mv_ ?_
           refine AD.wk (y := ⟨179, [(3, _), (8, _), (10, _), (11, _), (13, _), (14, _), (16, _), (18, _), (19, _), (21, _), (22, _)], [⟨b20, 32, 12, [_, _, _, _, _, _, _, _, _, _, _, _]⟩, ⟨b17, 32, 12, [_, _, _, _, _, _, _, _, _, _, _, _]⟩, ⟨b14, 32, 12, [_, _, _, _, _, _, _, _, _, _, _, _]⟩, ⟨b11, 32, 12, [_, _, _, _, _, _, _, _, _, _, _, _]⟩, ⟨b8, 32, 12, [_, _, _, _, _, _, _, _, _, _, _, _]⟩, ⟨b5, 24, 3, [_, _, _]⟩, ⟨b4, 24, 3, [_, _, _]⟩]⟩) (Wk.as_ rfl rfl ⟨lk, lk, lk, lk, lk, lk, lk, lk, lk, lk, lk, trivial⟩) rfl ?_
           refine AD.done (by kernel_rfl) ?_
           exact ⟨rfl, _, trivial, Wk.refl _⟩
         ·skip
          refine AStep.alloc (ds := [_, _, _, _, _, _, _, _, _, _, _, _]) rfl (wants_plain rfl) rfl rfl Tryd.zeroValue32 rfl (fun b20 => ?_)
          refine AD.one (i := 6) (by kernel_rfl) ?_
          refine AStep.appendG (ls := ([] ++ hdD)) (new := [miT, xT]) (Sq := [⟨b87, 24, cp87 * 3, List.flatMap cT ([] ++ hdD)⟩]) cT_len cT_one rfl (wants_plain rfl) rfl rfl Tryd.underlying26 info24_Pd1 rfl (by decide) ot (ownL_row h187 h287) (perm_r11 (A := [_, _, _, _, _, _, _])) ot (Nat.le_of_ble_eq_true rfl) (Nat.le_of_ble_eq_true rfl) (Nat.le_of_ble_eq_true rfl) (fun b92 cp92 h192 h292 => ?_)
          refine AD.perm (perm_q11 (S1 := [⟨b92, 24, cp92 * 3, List.flatMap cT (([] ++ hdD) ++ [miT, xT])⟩]) (A := [_, _, _, _, _, _, _])) ?_
          refine AD.giveL (t := 92) (Sq := [⟨b92, 24, cp92 * 3, List.flatMap cT (([] ++ hdD) ++ [miT, xT])⟩]) lk (ownL_row h192 h292) (fm_len cT_len _) (perm_r11 (A := [_, _, _, _, _, _, _])) ?_
          refine AD.one (i := 7) (by kernel_rfl) ?_
          refine AStep.callP rfl (wants_plain rfl) rfl rfl rfl Tryd.call13 (pE hm hw hk hty) ⟨ot, trivial⟩ ?_
          refine a1_ 8 rfl mv_ ?_
          refine a1_ 9 rfl ex_ ?_
          refine a1_ 10 rfl ex_ ?_
          refine a1_ 11 rfl ex_ ?_
          refine AD.one (i := 13) (by kernel_rfl) ?_
          refine AStep.store (k := 0) (cs' := [_, _, _, _, _, _, _, _, _, _, _, _]) rfl (wants_plain rfl) rfl rfl ot rfl rfl ot rfl rfl Tryd.sizeOf32 rfl rfl rfl (by intro b hb; simp [bks, St.put] at hb ⊢; try first | exact hb | omega | simp [hb] | (rcases hb with hb | hb <;> simp [hb]) | (rcases hb with hb | hb | hb <;> simp [hb])) ?_
          refine a1_ 14 rfl mv_ ?_
          refine a1_ 15 rfl mv_ ?_
          refine AD.wk (y := ⟨179, [(3, _), (8, _), (10, _), (11, _), (13, _), (14, _), (16, _), (18, _), (19, _), (21, _), (22, _)], [⟨b20, 32, 12, [_, _, _, _, _, _, _, _, _, _, _, _]⟩, ⟨b17, 32, 12, [_, _, _, _, _, _, _, _, _, _, _, _]⟩, ⟨b14, 32, 12, [_, _, _, _, _, _, _, _, _, _, _, _]⟩, ⟨b11, 32, 12, [_, _, _, _, _, _, _, _, _, _, _, _]⟩, ⟨b8, 32, 12, [_, _, _, _, _, _, _, _, _, _, _, _]⟩, ⟨b5, 24, 3, [_, _, _]⟩, ⟨b4, 24, 3, [_, _, _]⟩]⟩) (Wk.as_ rfl rfl ⟨lk, lk, lk, lk, lk, lk, lk, lk, lk, lk, lk, trivial⟩) rfl ?_
          refine AD.done (by kernel_rfl) ?_
          exact ⟨rfl, _, trivial, Wk.refl _⟩
        ·skip
         refine AStep.alloc (ds := [_, _, _, _, _, _, _, _, _, _, _, _]) rfl (wants_plain rfl) rfl rfl Tryd.zeroValue32 rfl (fun b20 => ?_)
         refine AD.one (i := 5) (by kernel_rfl) ?_
         refine AStep.bldS (pl := numD 0 [_, _]) (zvs := [.int .i64 0, .string ⟨#[]⟩, .int .i64 0, .int .i64 0, .string ⟨#[]⟩, .int .i64 0]) (ds := [_, _, _, _, _, _]) rfl (wants_plain rfl) rfl rfl Tryd.zeroValue24 Tryd.runUnderlying26 Tryd.sizeOf24 rfl rfl (by kernel_rfl) ⟨rfl, ot, rfl, ot, trivial⟩ (by exact rfl) (fill_full (by exact rfl) (by exact rfl) (by exact rfl)) (fun b91 => ?_)
         refine AD.give (k := 0) (t := 91) (sz := 3) (m := 2) rfl lk rfl rfl rfl (Nat.le_refl _) (by decide) ?_
         refine AD.one (i := 6) (by kernel_rfl) ?_
         refine AStep.appendG (ls := ([] ++ hdD)) (new := [miT, xT]) (Sq := [⟨b87, 24, cp87 * 3, List.flatMap cT ([] ++ hdD)⟩]) cT_len cT_one rfl (wants_plain rfl) rfl rfl Tryd.underlying26 info24_Pd1 rfl (by decide) ot (ownL_row h187 h287) (perm_r11 (A := [_, _, _, _, _, _, _])) ot (Nat.le_of_ble_eq_true rfl) (Nat.le_of_ble_eq_true rfl) (Nat.le_of_ble_eq_true rfl) (fun b92 cp92 h192 h292 => ?_)
         refine AD.perm (perm_q11 (S1 := [⟨b92, 24, cp92 * 3, List.flatMap cT (([] ++ hdD) ++ [miT, xT])⟩]) (A := [_, _, _, _, _, _, _])) ?_
         refine AD.giveL (t := 92) (Sq := [⟨b92, 24, cp92 * 3, List.flatMap cT (([] ++ hdD) ++ [miT, xT])⟩]) lk (ownL_row h192 h292) (fm_len cT_len _) (perm_r11 (A := [_, _, _, _, _, _, _])) ?_
         refine AD.one (i := 7) (by kernel_rfl) ?_
         refine AStep.callP rfl (wants_plain rfl) rfl rfl rfl Tryd.call13 (pE hm hw hk hty) ⟨ot, trivial⟩ ?_
         refine a1_ 8 rfl mv_ ?_
         refine a1_ 9 rfl ex_ ?_
         refine a1_ 10 rfl ex_ ?_
         refine a1_ 11 rfl ex_ ?_
         refine AD.one (i := 13) (by kernel_rfl) ?_
         refine AStep.store (k := 0) (cs' := [_, _, _, _, _, _, _, _, _, _, _, _]) rfl (wants_plain rfl) rfl rfl ot rfl rfl ot rfl rfl Tryd.sizeOf32 rfl rfl rfl (by intro b hb; simp [bks, St.put] at hb ⊢; try first | exact hb | omega | simp [hb] | (rcases hb with hb | hb <;> simp [hb]) | (rcases hb with hb | hb | hb <;> simp [hb])) ?_
         refine a1_ 14 rfl mv_ ?_
         refine a1_ 15 rfl mv_ ?_
         refine AD.wk (y := ⟨179, [(3, _), (8, _), (10, _), (11, _), (13, _), (14, _), (16, _), (18, _), (19, _), (21, _), (22, _)], [⟨b20, 32, 12, [_, _, _, _, _, _, _, _, _, _, _, _]⟩, ⟨b17, 32, 12, [_, _, _, _, _, _, _, _, _, _, _, _]⟩, ⟨b14, 32, 12, [_, _, _, _, _, _, _, _, _, _, _, _]⟩, ⟨b11, 32, 12, [_, _, _, _, _, _, _, _, _, _, _, _]⟩, ⟨b8, 32, 12, [_, _, _, _, _, _, _, _, _, _, _, _]⟩, ⟨b5, 24, 3, [_, _, _]⟩, ⟨b4, 24, 3, [_, _, _]⟩]⟩) (Wk.as_ rfl rfl ⟨lk, lk, lk, lk, lk, lk, lk, lk, lk, lk, lk, trivial⟩) rfl ?_
         refine AD.done (by kernel_rfl) ?_
         exact ⟨rfl, _, trivial, Wk.refl _⟩
       ·skip
        refine AStep.alloc (ds := [_, _, _, _, _, _, _, _, _, _, _, _]) rfl (wants_plain rfl) rfl rfl Tryd.zeroValue32 rfl (fun b20 => ?_)
        refine AD.one (i := 4) (by kernel_rfl) ?_
        refine AStep.callv (f := 12) (args := [_]) (all := [_]) (Sf := []) rfl (wants_plain rfl) rfl rfl ot Tryd.call12 (w_vp ⟨#[120]⟩) rfl ⟨opd_const, trivial⟩ (perm_none _) (by intro b hb; simp [bks, St.put] at hb ⊢; try first | exact hb | omega | simp [hb] | (rcases hb with hb | hb <;> simp [hb]) | (rcases hb with hb | hb | hb <;> simp [hb])) ?_; rintro _ _ ⟨rfl, rfl⟩
        refine AD.one (i := 5) (by kernel_rfl) ?_
        refine AStep.bldS (pl := numD 0 [_, _]) (zvs := [.int .i64 0, .string ⟨#[]⟩, .int .i64 0, .int .i64 0, .string ⟨#[]⟩, .int .i64 0]) (ds := [_, _, _, _, _, _]) rfl (wants_plain rfl) rfl rfl Tryd.zeroValue24 Tryd.runUnderlying26 Tryd.sizeOf24 rfl rfl (by kernel_rfl) ⟨rfl, ot, rfl, ot, trivial⟩ (by exact rfl) (fill_full (by exact rfl) (by exact rfl) (by exact rfl)) (fun b91 => ?_)
        refine AD.give (k := 0) (t := 91) (sz := 3) (m := 2) rfl lk rfl rfl rfl (Nat.le_refl _) (by decide) ?_
        refine AD.one (i := 6) (by kernel_rfl) ?_
        refine AStep.appendG (ls := ([] ++ hdD)) (new := [miT, xT]) (Sq := [⟨b87, 24, cp87 * 3, List.flatMap cT ([] ++ hdD)⟩]) cT_len cT_one rfl (wants_plain rfl) rfl rfl Tryd.underlying26 info24_Pd1 rfl (by decide) ot (ownL_row h187 h287) (perm_r11 (A := [_, _, _, _, _, _, _])) ot (Nat.le_of_ble_eq_true rfl) (Nat.le_of_ble_eq_true rfl) (Nat.le_of_ble_eq_true rfl) (fun b92 cp92 h192 h292 => ?_)
        refine AD.perm (perm_q11 (S1 := [⟨b92, 24, cp92 * 3, List.flatMap cT (([] ++ hdD) ++ [miT, xT])⟩]) (A := [_, _, _, _, _, _, _])) ?_
        refine AD.giveL (t := 92) (Sq := [⟨b92, 24, cp92 * 3, List.flatMap cT (([] ++ hdD) ++ [miT, xT])⟩]) lk (ownL_row h192 h292) (fm_len cT_len _) (perm_r11 (A := [_, _, _, _, _, _, _])) ?_
        refine AD.one (i := 7) (by kernel_rfl) ?_
        refine AStep.callP rfl (wants_plain rfl) rfl rfl rfl Tryd.call13 (pE hm hw hk hty) ⟨ot, trivial⟩ ?_
        refine a1_ 8 rfl mv_ ?_
        refine a1_ 9 rfl ex_ ?_
        refine a1_ 10 rfl ex_ ?_
        refine a1_ 11 rfl ex_ ?_
        refine AD.one (i := 13) (by kernel_rfl) ?_
        refine AStep.store (k := 0) (cs' := [_, _, _, _, _, _, _, _, _, _, _, _]) rfl (wants_plain rfl) rfl rfl ot rfl rfl ot rfl rfl Tryd.sizeOf32 rfl rfl rfl (by intro b hb; simp [bks, St.put] at hb ⊢; try first | exact hb | omega | simp [hb] | (rcases hb with hb | hb <;> simp [hb]) | (rcases hb with hb | hb | hb <;> simp [hb])) ?_
        refine a1_ 14 rfl mv_ ?_
        refine a1_ 15 rfl mv_ ?_
        refine AD.wk (y := ⟨179, [(3, _), (8, _), (10, _), (11, _), (13, _), (14, _), (16, _), (18, _), (19, _), (21, _), (22, _)], [⟨b20, 32, 12, [_, _, _, _, _, _, _, _, _, _, _, _]⟩, ⟨b17, 32, 12, [_, _, _, _, _, _, _, _, _, _, _, _]⟩, ⟨b14, 32, 12, [_, _, _, _, _, _, _, _, _, _, _, _]⟩, ⟨b11, 32, 12, [_, _, _, _, _, _, _, _, _, _, _, _]⟩, ⟨b8, 32, 12, [_, _, _, _, _, _, _, _, _, _, _, _]⟩, ⟨b5, 24, 3, [_, _, _]⟩, ⟨b4, 24, 3, [_, _, _]⟩]⟩) (Wk.as_ rfl rfl ⟨lk, lk, lk, lk, lk, lk, lk, lk, lk, lk, lk, trivial⟩) rfl ?_
        refine AD.done (by kernel_rfl) ?_
        exact ⟨rfl, _, trivial, Wk.refl _⟩
      ·skip
       refine AStep.alloc (ds := [_, _, _, _, _, _, _, _, _, _, _, _]) rfl (wants_plain rfl) rfl rfl Tryd.zeroValue32 rfl (fun b20 => ?_)
       refine AD.one (i := 1) (by kernel_rfl) ?_
       refine AStep.appendG (ls := []) (new := hdD) (Sq := []) cT_len cT_one rfl (wants_plain rfl) rfl rfl Tryd.underlying26 info24_Pd1 rfl (by decide) opd_const ownL_nil (perm_r11 (A := [_, _, _, _, _, _, _])) ot (Nat.le_of_ble_eq_true rfl) (Nat.le_of_ble_eq_true rfl) (Nat.le_of_ble_eq_true rfl) (fun b87 cp87 h187 h287 => ?_)
       refine AD.perm (perm_q11 (S1 := [⟨b87, 24, cp87 * 3, List.flatMap cT ([] ++ hdD)⟩]) (A := [_, _, _, _, _, _, _])) ?_
       refine AD.one (i := 4) (by kernel_rfl) ?_
       refine AStep.callv (f := 12) (args := [_]) (all := [_]) (Sf := []) rfl (wants_plain rfl) rfl rfl ot Tryd.call12 (w_vp ⟨#[120]⟩) rfl ⟨opd_const, trivial⟩ (perm_none _) (by intro b hb; simp [bks, St.put] at hb ⊢; try first | exact hb | omega | simp [hb] | (rcases hb with hb | hb <;> simp [hb]) | (rcases hb with hb | hb | hb <;> simp [hb])) ?_; rintro _ _ ⟨rfl, rfl⟩
       refine AD.one (i := 5) (by kernel_rfl) ?_
       refine AStep.bldS (pl := numD 0 [_, _]) (zvs := [.int .i64 0, .string ⟨#[]⟩, .int .i64 0, .int .i64 0, .string ⟨#[]⟩, .int .i64 0]) (ds := [_, _, _, _, _, _]) rfl (wants_plain rfl) rfl rfl Tryd.zeroValue24 Tryd.runUnderlying26 Tryd.sizeOf24 rfl rfl (by kernel_rfl) ⟨rfl, ot, rfl, ot, trivial⟩ (by exact rfl) (fill_full (by exact rfl) (by exact rfl) (by exact rfl)) (fun b91 => ?_)
       refine AD.give (k := 0) (t := 91) (sz := 3) (m := 2) rfl lk rfl rfl rfl (Nat.le_refl _) (by decide) ?_
       refine AD.one (i := 6) (by kernel_rfl) ?_
       refine AStep.appendG (ls := ([] ++ hdD)) (new := [miT, xT]) (Sq := [⟨b87, 24, cp87 * 3, List.flatMap cT ([] ++ hdD)⟩]) cT_len cT_one rfl (wants_plain rfl) rfl rfl Tryd.underlying26 info24_Pd1 rfl (by decide) ot (ownL_row h187 h287) (perm_r11 (A := [_, _, _, _, _, _, _])) ot (Nat.le_of_ble_eq_true rfl) (Nat.le_of_ble_eq_true rfl) (Nat.le_of_ble_eq_true rfl) (fun b92 cp92 h192 h292 => ?_)
       refine AD.perm (perm_q11 (S1 := [⟨b92, 24, cp92 * 3, List.flatMap cT (([] ++ hdD) ++ [miT, xT])⟩]) (A := [_, _, _, _, _, _, _])) ?_
       refine AD.giveL (t := 92) (Sq := [⟨b92, 24, cp92 * 3, List.flatMap cT (([] ++ hdD) ++ [miT, xT])⟩]) lk (ownL_row h192 h292) (fm_len cT_len _) (perm_r11 (A := [_, _, _, _, _, _, _])) ?_
       refine AD.one (i := 7) (by kernel_rfl) ?_
       refine AStep.callP rfl (wants_plain rfl) rfl rfl rfl Tryd.call13 (pE hm hw hk hty) ⟨ot, trivial⟩ ?_
       refine a1_ 8 rfl mv_ ?_
       refine a1_ 9 rfl ex_ ?_
       refine a1_ 10 rfl ex_ ?_
       refine a1_ 11 rfl ex_ ?_
       refine AD.one (i := 13) (by kernel_rfl) ?_
       refine AStep.store (k := 0) (cs' := [_, _, _, _, _, _, _, _, _, _, _, _]) rfl (wants_plain rfl) rfl rfl ot rfl rfl ot rfl rfl Tryd.sizeOf32 rfl rfl rfl (by intro b hb; simp [bks, St.put] at hb ⊢; try first | exact hb | omega | simp [hb] | (rcases hb with hb | hb <;> simp [hb]) | (rcases hb with hb | hb | hb <;> simp [hb])) ?_
       refine a1_ 14 rfl mv_ ?_
       refine a1_ 15 rfl mv_ ?_
       refine AD.wk (y := ⟨179, [(3, _), (8, _), (10, _), (11, _), (13, _), (14, _), (16, _), (18, _), (19, _), (21, _), (22, _)], [⟨b20, 32, 12, [_, _, _, _, _, _, _, _, _, _, _, _]⟩, ⟨b17, 32, 12, [_, _, _, _, _, _, _, _, _, _, _, _]⟩, ⟨b14, 32, 12, [_, _, _, _, _, _, _, _, _, _, _, _]⟩, ⟨b11, 32, 12, [_, _, _, _, _, _, _, _, _, _, _, _]⟩, ⟨b8, 32, 12, [_, _, _, _, _, _, _, _, _, _, _, _]⟩, ⟨b5, 24, 3, [_, _, _]⟩, ⟨b4, 24, 3, [_, _, _]⟩]⟩) (Wk.as_ rfl rfl ⟨lk, lk, lk, lk, lk, lk, lk, lk, lk, lk, lk, trivial⟩) rfl ?_
       refine AD.done (by kernel_rfl) ?_
       exact ⟨rfl, _, trivial, Wk.refl _⟩
     ·skip
      rintro _ _ ⟨rfl, b20, _, hwk__⟩
      refine CD.wk hwk__ ?_
      refine CD.seq ?_
      refine sr_ ?_
      refine os_ mv_ ?_
      refine os_ bn_ ?_
      refine os_ mv_ ?_
      refine OD.split (t := 99) lk (fun hg99 => ?_) (fun hg99 => ?_)
      ·exact absurd hg99 (by simp)
      ·have hg99' := hg99; (try simp only [V.cnd, ne_eq] at hg99')
       refine os_ mv_ ?_
       refine os_ bn_ ?_
       refine os_ pkF_ ?_
       refine os_ mv_ ?_
       refine OD.split (t := 103) lk (fun hg103 => ?_) (fun hg103 => ?_)
       ·exact absurd hg103 (by simp)
       ·have hg103' := hg103; (try simp only [V.cnd, ne_eq] at hg103')
        refine os_ mv_ ?_
        refine os_ bn_ ?_
        refine os_ pkF_ ?_
        refine os_ mv_ ?_
        refine OD.split (t := 107) lk (fun hg107 => ?_) (fun hg107 => ?_)
        ·exact absurd hg107 (by simp)
        ·have hg107' := hg107; (try simp only [V.cnd, ne_eq] at hg107')
         refine os_ mv_ ?_
         refine os_ bn_ ?_
         refine os_ pkF_ ?_
         refine os_ mv_ ?_
         refine OD.split (t := 111) lk (fun hg111 => ?_) (fun hg111 => ?_)
         ·exact absurd hg111 (by simp)
         ·have hg111' := hg111; (try simp only [V.cnd, ne_eq] at hg111')
          refine os_ mv_ ?_
          refine os_ bn_ ?_
          refine os_ pkF_ ?_
          refine os_ mv_ ?_
          refine OD.split (t := 115) lk (fun hg115 => ?_) (fun hg115 => ?_)
          ·exact absurd hg115 (by simp)
          ·have hg115' := hg115; (try simp only [V.cnd, ne_eq] at hg115')
           refine os_ mv_ ?_
           refine os_ bn_ ?_
           refine os_ pkF_ ?_
           refine os_ mv_ ?_
           refine OD.split (t := 119) lk (fun hg119 => ?_) (fun hg119 => ?_)
           ·exact absurd hg119 (by simp)
           ·have hg119' := hg119; (try simp only [V.cnd, ne_eq] at hg119')
            refine os_ mv_ ?_
            refine os_ bn_ ?_
            refine os_ pkF_ ?_
            refine nm_ [3, 8, 11, 14, 122] ?_
            refine CD.cond ot (fun hc0 => ?_) (fun hc0 => ?_)
            ·exact absurd hc0 (by simp)
            ·have hc0' := hc0
             (try simp only [V.cnd, ne_eq] at hc0')
             refine CD.skip ?_
             refine CD.seq ?_
             refine CD.draw (bks _) (by kernel_rfl) (fun _ h => h) ?_
             refine a0_ 0 rfl (fa_ 6) ?_
             refine a0_ 1 rfl (lb_ 4) ?_
             refine a0_ 2 rfl ln_ ?_
             refine a0_ 3 rfl bn_ ?_
             refine a0_ 4 rfl mv_ ?_
             refine AD0.split (t := 127) lk (fun hg127 => ?_) (fun hg127 => ?_)
             ·have hg127' := hg127; (try simp only [V.cnd, ne_eq] at hg127')
              refine a0_ 5 rfl (fa_ 6) ?_
              refine a0_ 6 rfl (lb_ 4) ?_
              refine a0_ 7 rfl (still_r2 (mk := Op.indexAddr 30) rfl ot opd_const (by first | exact ix_list (j := 0) Tryd.runUnderlying30 Tryd.sizeOf39 rfl (by first | omega | decide) | exact ix_row (j := 0) Tryd.runUnderlying30 Tryd.sizeOf39 rfl (by first | omega | decide))) ?_
              refine a0_ 8 rfl (fa_ 1) ?_
              refine a0_ 9 rfl (la_ [_, _, _]) ?_
              refine a0_ 10 rfl mv_ ?_
              refine a0_ 11 rfl (still_un rfl ot (un_neg (wrap_i64 (by omega) (by omega)))) ?_
              refine AD0.later rfl ?_
              refine AD.one (i := 12) (by kernel_rfl) ?_
              refine AStep.callP rfl (wants_T rfl rfl rfl lk (by first | rfl | assumption)) rfl rfl rfl Tryd.call14 (number_vp _) ⟨ot, trivial⟩ ?_
              refine a1_ 13 rfl (still_eqS (us := [_, _, _]) (us' := [_, _, _]) rfl ot ot Tryd.eqGuardType37 (Nm.eqs37 ⟨2, -k, ⟨#[]⟩⟩ ⟨2, 0 - k, ⟨#[]⟩⟩)) ?_
              refine a1_ 14 rfl pkT_ ?_
              refine a1_ 15 rfl mv_ ?_
              refine AD.split (t := 138) lk (fun hg138 => ?_) (fun hg138 => ?_)
              ·have hg138' := hg138; (try simp only [V.cnd, ne_eq] at hg138')
               refine a1_ 16 rfl (fa_ 6) ?_
               refine a1_ 17 rfl (lb_ 3) ?_
               refine a1_ 18 rfl ln_ ?_
               refine a1_ 19 rfl bn_ ?_
               refine a1_ 20 rfl pkT_ ?_
               refine a1_ 21 rfl mv_ ?_
               refine AD.split (t := 144) lk (fun hg144 => ?_) (fun hg144 => ?_)
               ·have hg144' := hg144; (try simp only [V.cnd, ne_eq] at hg144')
                refine a1_ 22 rfl (fa_ 6) ?_
                refine a1_ 23 rfl (lb_ 3) ?_
                refine a1_ 24 rfl (still_r2 (mk := Op.indexAddr 30) rfl ot opd_const (by first | exact ix_list (j := 1) Tryd.runUnderlying30 Tryd.sizeOf39 rfl (by first | omega | decide) | exact ix_row (j := 1) Tryd.runUnderlying30 Tryd.sizeOf39 rfl (by first | omega | decide))) ?_
                refine a1_ 25 rfl (fa_ 1) ?_
                refine a1_ 27 rfl mv_ ?_
                refine AD.two (i := 26) (j := 28) (by kernel_rfl) ?_ ?_
                ·skip
                 refine at_ rfl (la_ [_, _, _]) ?_
                 refine AD.one (i := 28) (by kernel_rfl) ?_
                 refine AStep.callP rfl (wants_T rfl rfl rfl lk (by first | rfl | assumption)) rfl rfl rfl Tryd.call14 (number_vp _) ⟨ot, trivial⟩ ?_
                 refine a1_ 29 rfl (still_eqS (us := [_, _, _]) (us' := [_, _, _]) rfl ot ot Tryd.eqGuardType37 (Nm.eqs37 ⟨2, k, ⟨#[]⟩⟩ ⟨2, k, ⟨#[]⟩⟩)) ?_
                 refine a1_ 30 rfl pkT_ ?_
                 refine a1_ 31 rfl mv_ ?_
                 refine AD.split (t := 154) lk (fun hg154 => ?_) (fun hg154 => ?_)
                 ·have hg154' := hg154; (try simp only [V.cnd, ne_eq] at hg154')
                  refine a1_ 32 rfl (fa_ 6) ?_
                  refine a1_ 33 rfl (lb_ 2) ?_
                  refine a1_ 34 rfl ln_ ?_
                  refine a1_ 35 rfl bn_ ?_
                  refine a1_ 36 rfl pkT_ ?_
                  refine a1_ 37 rfl mv_ ?_
                  refine AD.split (t := 160) lk (fun hg160 => ?_) (fun hg160 => ?_)
                  ·have hg160' := hg160; (try simp only [V.cnd, ne_eq] at hg160')
                   refine a1_ 38 rfl (fa_ 6) ?_
                   refine a1_ 39 rfl (lb_ 2) ?_
                   refine a1_ 40 rfl (still_r2 (mk := Op.indexAddr 30) rfl ot opd_const (by first | exact ix_list (j := 1) Tryd.runUnderlying30 Tryd.sizeOf39 rfl (by first | omega | decide) | exact ix_row (j := 1) Tryd.runUnderlying30 Tryd.sizeOf39 rfl (by first | omega | decide))) ?_
                   refine a1_ 41 rfl (fa_ 1) ?_
                   refine a1_ 43 rfl mv_ ?_
                   refine a1_ 44 rfl (still_un rfl ot (un_neg (wrap_i64 (by omega) (by omega)))) ?_
                   refine AD.two (i := 42) (j := 45) (by kernel_rfl) ?_ ?_
                   ·skip
                    refine at_ rfl (la_ [_, _, _]) ?_
                    refine AD.one (i := 45) (by kernel_rfl) ?_
                    refine AStep.callP rfl (wants_T rfl rfl rfl lk (by first | rfl | assumption)) rfl rfl rfl Tryd.call14 (number_vp _) ⟨ot, trivial⟩ ?_
                    refine a1_ 46 rfl (still_eqS (us := [_, _, _]) (us' := [_, _, _]) rfl ot ot Tryd.eqGuardType37 (Nm.eqs37 ⟨2, -k, ⟨#[]⟩⟩ ⟨2, 0 - k, ⟨#[]⟩⟩)) ?_
                    refine a1_ 47 rfl pkT_ ?_
                    refine a1_ 48 rfl mv_ ?_
                    refine AD.split (t := 171) lk (fun hg171 => ?_) (fun hg171 => ?_)
                    ·have hg171' := hg171; (try simp only [V.cnd, ne_eq] at hg171')
                     refine a1_ 49 rfl (fa_ 6) ?_
                     refine a1_ 50 rfl (lb_ 2) ?_
                     refine a1_ 51 rfl (still_r2 (mk := Op.indexAddr 30) rfl ot opd_const (by first | exact ix_list (j := 2) Tryd.runUnderlying30 Tryd.sizeOf39 rfl (by first | omega | decide) | exact ix_row (j := 2) Tryd.runUnderlying30 Tryd.sizeOf39 rfl (by first | omega | decide))) ?_
                     refine a1_ 52 rfl (fa_ 0) ?_
                     refine AD.one (i := 53) (by kernel_rfl) ?_
                     refine at_ rfl ld_ ?_
                     refine a1_ 54 rfl bn_ ?_
                     refine a1_ 55 rfl pkT_ ?_
                     refine a1_ 56 rfl mv_ ?_
                     refine AD.wk (y := ⟨179, [(2, _)], [⟨b20, 32, 12, [_, _, _, _, _, _, _, _, _, _, _, _]⟩, ⟨b17, 32, 12, [_, _, _, _, _, _, _, _, _, _, _, _]⟩, ⟨b14, 32, 12, [_, _, _, _, _, _, _, _, _, _, _, _]⟩, ⟨b11, 32, 12, [_, _, _, _, _, _, _, _, _, _, _, _]⟩, ⟨b8, 32, 12, [_, _, _, _, _, _, _, _, _, _, _, _]⟩, ⟨b5, 24, 3, [_, _, _]⟩, ⟨b4, 24, 3, [_, _, _]⟩]⟩) (Wk.as_ rfl rfl ⟨lk, trivial⟩) rfl ?_
                     refine AD.done (by kernel_rfl) ?_
                     refine CD.ret ?_
                     refine ⟨.inr rfl, _, [], List.nil_sublist _, ret_one Tryd.results3 (res_tmp (Nat.le_of_ble_eq_true rfl) lk), ?_⟩
                     first | exact ⟨rfl, rfl⟩ | (refine ⟨vb ?_, rfl⟩; simp)
                    ·exact absurd hg171 (by simp [delS, opN])
                   ·skip
                    refine AStep.callP rfl (wants_T rfl rfl rfl lk (by first | rfl | assumption)) rfl rfl rfl Tryd.call14 (number_vp _) ⟨ot, trivial⟩ ?_
                    refine AD.one (i := 42) (by kernel_rfl) ?_
                    refine at_ rfl (la_ [_, _, _]) ?_
                    refine a1_ 46 rfl (still_eqS (us := [_, _, _]) (us' := [_, _, _]) rfl ot ot Tryd.eqGuardType37 (Nm.eqs37 ⟨2, -k, ⟨#[]⟩⟩ ⟨2, 0 - k, ⟨#[]⟩⟩)) ?_
                    refine a1_ 47 rfl pkT_ ?_
                    refine a1_ 48 rfl mv_ ?_
                    refine AD.split (t := 171) lk (fun hg171 => ?_) (fun hg171 => ?_)
                    ·have hg171' := hg171; (try simp only [V.cnd, ne_eq] at hg171')
                     refine a1_ 49 rfl (fa_ 6) ?_
                     refine a1_ 50 rfl (lb_ 2) ?_
                     refine a1_ 51 rfl (still_r2 (mk := Op.indexAddr 30) rfl ot opd_const (by first | exact ix_list (j := 2) Tryd.runUnderlying30 Tryd.sizeOf39 rfl (by first | omega | decide) | exact ix_row (j := 2) Tryd.runUnderlying30 Tryd.sizeOf39 rfl (by first | omega | decide))) ?_
                     refine a1_ 52 rfl (fa_ 0) ?_
                     refine AD.one (i := 53) (by kernel_rfl) ?_
                     refine at_ rfl ld_ ?_
                     refine a1_ 54 rfl bn_ ?_
                     refine a1_ 55 rfl pkT_ ?_
                     refine a1_ 56 rfl mv_ ?_
                     refine AD.wk (y := ⟨179, [(2, _)], [⟨b20, 32, 12, [_, _, _, _, _, _, _, _, _, _, _, _]⟩, ⟨b17, 32, 12, [_, _, _, _, _, _, _, _, _, _, _, _]⟩, ⟨b14, 32, 12, [_, _, _, _, _, _, _, _, _, _, _, _]⟩, ⟨b11, 32, 12, [_, _, _, _, _, _, _, _, _, _, _, _]⟩, ⟨b8, 32, 12, [_, _, _, _, _, _, _, _, _, _, _, _]⟩, ⟨b5, 24, 3, [_, _, _]⟩, ⟨b4, 24, 3, [_, _, _]⟩]⟩) (Wk.as_ rfl rfl ⟨lk, trivial⟩) rfl ?_
                     refine AD.done (by kernel_rfl) ?_
                     refine CD.ret ?_
                     refine ⟨.inr rfl, _, [], List.nil_sublist _, ret_one Tryd.results3 (res_tmp (Nat.le_of_ble_eq_true rfl) lk), ?_⟩
                     first | exact ⟨rfl, rfl⟩ | (refine ⟨vb ?_, rfl⟩; simp)
                    ·exact absurd hg171 (by simp [delS, opN])
                  ·exact absurd hg160 (by simp [delS, opN])
                 ·exact absurd hg154 (by simp [delS, opN])
                ·skip
                 refine AStep.callP rfl (wants_T rfl rfl rfl lk (by first | rfl | assumption)) rfl rfl rfl Tryd.call14 (number_vp _) ⟨ot, trivial⟩ ?_
                 refine AD.one (i := 26) (by kernel_rfl) ?_
                 refine at_ rfl (la_ [_, _, _]) ?_
                 refine a1_ 29 rfl (still_eqS (us := [_, _, _]) (us' := [_, _, _]) rfl ot ot Tryd.eqGuardType37 (Nm.eqs37 ⟨2, k, ⟨#[]⟩⟩ ⟨2, k, ⟨#[]⟩⟩)) ?_
                 refine a1_ 30 rfl pkT_ ?_
                 refine a1_ 31 rfl mv_ ?_
                 refine AD.split (t := 154) lk (fun hg154 => ?_) (fun hg154 => ?_)
                 ·have hg154' := hg154; (try simp only [V.cnd, ne_eq] at hg154')
                  refine a1_ 32 rfl (fa_ 6) ?_
                  refine a1_ 33 rfl (lb_ 2) ?_
                  refine a1_ 34 rfl ln_ ?_
                  refine a1_ 35 rfl bn_ ?_
                  refine a1_ 36 rfl pkT_ ?_
                  refine a1_ 37 rfl mv_ ?_
                  refine AD.split (t := 160) lk (fun hg160 => ?_) (fun hg160 => ?_)
                  ·have hg160' := hg160; (try simp only [V.cnd, ne_eq] at hg160')
                   refine a1_ 38 rfl (fa_ 6) ?_
                   refine a1_ 39 rfl (lb_ 2) ?_
                   refine a1_ 40 rfl (still_r2 (mk := Op.indexAddr 30) rfl ot opd_const (by first | exact ix_list (j := 1) Tryd.runUnderlying30 Tryd.sizeOf39 rfl (by first | omega | decide) | exact ix_row (j := 1) Tryd.runUnderlying30 Tryd.sizeOf39 rfl (by first | omega | decide))) ?_
                   refine a1_ 41 rfl (fa_ 1) ?_
                   refine a1_ 43 rfl mv_ ?_
                   refine a1_ 44 rfl (still_un rfl ot (un_neg (wrap_i64 (by omega) (by omega)))) ?_
                   refine AD.two (i := 42) (j := 45) (by kernel_rfl) ?_ ?_
                   ·skip
                    refine at_ rfl (la_ [_, _, _]) ?_
                    refine AD.one (i := 45) (by kernel_rfl) ?_
                    refine AStep.callP rfl (wants_T rfl rfl rfl lk (by first | rfl | assumption)) rfl rfl rfl Tryd.call14 (number_vp _) ⟨ot, trivial⟩ ?_
                    refine a1_ 46 rfl (still_eqS (us := [_, _, _]) (us' := [_, _, _]) rfl ot ot Tryd.eqGuardType37 (Nm.eqs37 ⟨2, -k, ⟨#[]⟩⟩ ⟨2, 0 - k, ⟨#[]⟩⟩)) ?_
                    refine a1_ 47 rfl pkT_ ?_
                    refine a1_ 48 rfl mv_ ?_
                    refine AD.split (t := 171) lk (fun hg171 => ?_) (fun hg171 => ?_)
                    ·have hg171' := hg171; (try simp only [V.cnd, ne_eq] at hg171')
                     refine a1_ 49 rfl (fa_ 6) ?_
                     refine a1_ 50 rfl (lb_ 2) ?_
                     refine a1_ 51 rfl (still_r2 (mk := Op.indexAddr 30) rfl ot opd_const (by first | exact ix_list (j := 2) Tryd.runUnderlying30 Tryd.sizeOf39 rfl (by first | omega | decide) | exact ix_row (j := 2) Tryd.runUnderlying30 Tryd.sizeOf39 rfl (by first | omega | decide))) ?_
                     refine a1_ 52 rfl (fa_ 0) ?_
                     refine AD.one (i := 53) (by kernel_rfl) ?_
                     refine at_ rfl ld_ ?_
                     refine a1_ 54 rfl bn_ ?_
                     refine a1_ 55 rfl pkT_ ?_
                     refine a1_ 56 rfl mv_ ?_
                     refine AD.wk (y := ⟨179, [(2, _)], [⟨b20, 32, 12, [_, _, _, _, _, _, _, _, _, _, _, _]⟩, ⟨b17, 32, 12, [_, _, _, _, _, _, _, _, _, _, _, _]⟩, ⟨b14, 32, 12, [_, _, _, _, _, _, _, _, _, _, _, _]⟩, ⟨b11, 32, 12, [_, _, _, _, _, _, _, _, _, _, _, _]⟩, ⟨b8, 32, 12, [_, _, _, _, _, _, _, _, _, _, _, _]⟩, ⟨b5, 24, 3, [_, _, _]⟩, ⟨b4, 24, 3, [_, _, _]⟩]⟩) (Wk.as_ rfl rfl ⟨lk, trivial⟩) rfl ?_
                     refine AD.done (by kernel_rfl) ?_
                     refine CD.ret ?_
                     refine ⟨.inr rfl, _, [], List.nil_sublist _, ret_one Tryd.results3 (res_tmp (Nat.le_of_ble_eq_true rfl) lk), ?_⟩
                     first | exact ⟨rfl, rfl⟩ | (refine ⟨vb ?_, rfl⟩; simp)
                    ·exact absurd hg171 (by simp [delS, opN])
                   ·skip
                    refine AStep.callP rfl (wants_T rfl rfl rfl lk (by first | rfl | assumption)) rfl rfl rfl Tryd.call14 (number_vp _) ⟨ot, trivial⟩ ?_
                    refine AD.one (i := 42) (by kernel_rfl) ?_
                    refine at_ rfl (la_ [_, _, _]) ?_
                    refine a1_ 46 rfl (still_eqS (us := [_, _, _]) (us' := [_, _, _]) rfl ot ot Tryd.eqGuardType37 (Nm.eqs37 ⟨2, -k, ⟨#[]⟩⟩ ⟨2, 0 - k, ⟨#[]⟩⟩)) ?_
                    refine a1_ 47 rfl pkT_ ?_
                    refine a1_ 48 rfl mv_ ?_
                    refine AD.split (t := 171) lk (fun hg171 => ?_) (fun hg171 => ?_)
                    ·have hg171' := hg171; (try simp only [V.cnd, ne_eq] at hg171')
                     refine a1_ 49 rfl (fa_ 6) ?_
                     refine a1_ 50 rfl (lb_ 2) ?_
                     refine a1_ 51 rfl (still_r2 (mk := Op.indexAddr 30) rfl ot opd_const (by first | exact ix_list (j := 2) Tryd.runUnderlying30 Tryd.sizeOf39 rfl (by first | omega | decide) | exact ix_row (j := 2) Tryd.runUnderlying30 Tryd.sizeOf39 rfl (by first | omega | decide))) ?_
                     refine a1_ 52 rfl (fa_ 0) ?_
                     refine AD.one (i := 53) (by kernel_rfl) ?_
                     refine at_ rfl ld_ ?_
                     refine a1_ 54 rfl bn_ ?_
                     refine a1_ 55 rfl pkT_ ?_
                     refine a1_ 56 rfl mv_ ?_
                     refine AD.wk (y := ⟨179, [(2, _)], [⟨b20, 32, 12, [_, _, _, _, _, _, _, _, _, _, _, _]⟩, ⟨b17, 32, 12, [_, _, _, _, _, _, _, _, _, _, _, _]⟩, ⟨b14, 32, 12, [_, _, _, _, _, _, _, _, _, _, _, _]⟩, ⟨b11, 32, 12, [_, _, _, _, _, _, _, _, _, _, _, _]⟩, ⟨b8, 32, 12, [_, _, _, _, _, _, _, _, _, _, _, _]⟩, ⟨b5, 24, 3, [_, _, _]⟩, ⟨b4, 24, 3, [_, _, _]⟩]⟩) (Wk.as_ rfl rfl ⟨lk, trivial⟩) rfl ?_
                     refine AD.done (by kernel_rfl) ?_
                     refine CD.ret ?_
                     refine ⟨.inr rfl, _, [], List.nil_sublist _, ret_one Tryd.results3 (res_tmp (Nat.le_of_ble_eq_true rfl) lk), ?_⟩
                     first | exact ⟨rfl, rfl⟩ | (refine ⟨vb ?_, rfl⟩; simp)
                    ·exact absurd hg171 (by simp [delS, opN])
                  ·exact absurd hg160 (by simp [delS, opN])
                 ·exact absurd hg154 (by simp [delS, opN])
               ·exact absurd hg144 (by simp [delS, opN])
              ·exact absurd hg138 (by simp [delS, opN])
             ·exact absurd hg127 (by simp [delS, opN])

theorem walkParseMinus (n : Int) (wn : (Lit.int .i64 n).wf = true) (w : World) (h1 : MarksTab w) (h2 : WordsTab w) (h3 : TypesTab w) (h4 : CmpTab w) : Calls Tryd.prog 3 #[.int .i64 n] w fun e w' => e = .returned (.bool true) ∧ Below w.heap.size w w' :=
 (minus_vp (G := TGP) tp1 tp2 tp4 tp3 n (wf_bd wn).1 (wf_bd wn).2).runL (tgpx h1 h2 h3 h4) (vs := [_]) (RepL.vs w _ [_])

end Go.Proofs.YtjgekbmahhhokaaDoor.Pa
