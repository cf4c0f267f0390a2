/-
  What the proof of TreeBad leans on, part 3 of 5: walks of the program's functions at the level of values, and plain facts of what they compute.
-/
import Derived.Test.YthnobhekodiciaaPTreeBad2
namespace Go.Proofs.Ythnobhekodiciaa.Tw
open Go.RowKit V Go.Proofs.Ythnobhekodiciaa.Tr Pk
set_option linter.unusedVariables false
set_option linter.unusedSimpArgs false

/-- A page of one's own: where its keys and kids lie. -/
structure PgO where
  p : PgL
  ak : Option Addr
  ck : Nat
  sk : List Blk
  ai : Option Addr
  ci : Nat
  si : List Blk
/-- What its cells read as. -/
def gO (o : PgO) : List D := [.v (.bool o.p.leaf), .v (.slice o.ak o.p.keys.length o.ck), .v (.slice o.ai o.p.kids.length o.ci), .list 1 (o.p.high.flatMap cB) o.p.high.length, .v (.int .i64 o.p.next)]
theorem gO_len (o : PgO) : (gO o).length = 5 := rfl
theorem gO_one (o : PgO) : (gO o).all V.one = true := rfl
/-- Its blocks. -/
def bO (o : PgO) : List Blk := o.sk ++ o.si
def okO (o : PgO) : Prop := OwnKs o.p.keys o.ak o.ck o.sk ∧ OwnI o.p.kids o.ai o.ci o.si
theorem views_O {S : List Blk} : ∀ {L : List PgO}, (∀ o ∈ L, okO o) → (∀ B ∈ L.flatMap bO, B ∈ S) → Views S (L.flatMap gO) ((L.map PgO.p).flatMap cP)
 | [], _, _ => trivial
 | o :: L, h, hs => by
  rw [List.map_cons, List.flatMap_cons, List.flatMap_cons]
  obtain ⟨h1, h2⟩ := h o List.mem_cons_self
  refine Views.append ⟨view_same, view_own h1 (fm_len cK_len _) (fun B hB => hs B ?_), view_own h2 (fm_len cI_len _) (fun B hB => hs B ?_), view_same, view_same, trivial⟩ (views_O (fun o ho => h o (List.mem_cons_of_mem _ ho)) fun B hB => hs B ?_)
  ·rw [List.flatMap_cons]; exact List.mem_append_left _ (List.mem_append_left _ hB)
  ·rw [List.flatMap_cons]; exact List.mem_append_left _ (List.mem_append_right _ hB)
  ·rw [List.flatMap_cons]; exact List.mem_append_right _ hB
abbrev OwnP (L : List PgO) (ad : Option Addr) (cap : Nat) (S : List Blk) : Prop := OwnL 44 5 (L.flatMap gO) L.length ad cap S
/-- A tree of one's own is looked at. -/
theorem view_T {S Sx : List Blk} {L : List PgO} {ad : Option Addr} {cap : Nat} {root : Int} (ho : OwnP L ad cap Sx) (h : ∀ o ∈ L, okO o) (hs : ∀ B ∈ Sx ++ L.flatMap bO, B ∈ S) :
    View S (.agg [.v (.slice ad L.length cap), .v (.int .i64 root)]) (.agg (cT ⟨L.map PgO.p, root⟩)) := by
  refine view_agg ⟨?_, view_same, trivial⟩
  have := view_ownV ho (views_O h fun B hB => hs B (List.mem_append_right _ hB)) (fm_len cP_len _ |>.trans (by simp)) (fun B hB => hs B (List.mem_append_left _ hB))
  rw [List.length_map]
  exact this
/-- A tree of one's own is handed back. -/
def RetT (t : TreeL) (r : D) (S : List Blk) : Prop := ∃ L ad cap Sx, r = .agg [.v (.slice ad (List.length L) cap), .v (.int .i64 t.root)] ∧ OwnP L ad cap Sx ∧ (∀ o ∈ L, okO o) ∧ L.map PgO.p = t.pages ∧ S = Sx ++ L.flatMap bO
theorem bO_snoc (L : List PgO) (o : PgO) : (L ++ [o]).flatMap bO = L.flatMap bO ++ bO o := by simp
variable {G : List (Nat × List Value)}

theorem map_take_next {α : Type} {l : List α} {j : Nat} (h : j < l.length) : List.take j l ++ [l[j]] = List.take (j + 1) l := (List.take_succ_eq_append_getElem h).symm

theorem info31_Tw6 : (Try.prog.info? 31).map (fun i => (i.zero, i.size, i.bytes)) = some (some (.slice none 0 0), 1, 24) := by kernel_rfl

theorem info44_Tw6 : (Try.prog.info? 44).map (fun i => (i.zero, i.size, i.bytes)) = some (some (.agg #[.bool false, .slice none 0 0, .slice none 0 0, .slice none 0 0, .int .i64 0]), 5, 88) := by kernel_rfl

theorem places26_Tw6 : ∀ w, ((#[{ name := "Pages", type := 24, offset := 0, embedded := false, tag := "", pkgPath := "", byteOffset := 0 }, { name := "Root", type := 3, offset := 1, embedded := false, tag := "", pkgPath := "", byteOffset := 24 }] : Array Field).mapM fun f => do pure (f.offset, ← sizeOf f.type) : Sem (Array (Nat × Nat))).run Try.prog w = .ok #[(0, 1), (1, 1)] w := fun w => by simp [Try.sizeOf24, Try.sizeOf3]

theorem places44_Tw6 : ∀ w, ((#[{ name := "Leaf", type := 4, offset := 0, embedded := false, tag := "", pkgPath := "", byteOffset := 0 }, { name := "Keys", type := 42, offset := 1, embedded := false, tag := "", pkgPath := "", byteOffset := 8 }, { name := "Kids", type := 22, offset := 2, embedded := false, tag := "", pkgPath := "", byteOffset := 32 }, { name := "High", type := 31, offset := 3, embedded := false, tag := "", pkgPath := "", byteOffset := 56 }, { name := "Next", type := 3, offset := 4, embedded := false, tag := "", pkgPath := "", byteOffset := 80 }] : Array Field).mapM fun f => do pure (f.offset, ← sizeOf f.type) : Sem (Array (Nat × Nat))).run Try.prog w = .ok #[(0, 1), (1, 1), (2, 1), (3, 1), (4, 1)] w := fun w => by simp [Try.sizeOf22, Try.sizeOf3, Try.sizeOf31, Try.sizeOf4, Try.sizeOf42]

set_option maxHeartbeats 4000000 in
set_option maxRecDepth 100000 in
theorem own_vc (t : TreeL) (h : Nat) (v : Valid t h) : VC Try.prog G 24 [.agg (cT t)] [] (RetT t) := by
 refine VC.body Try.func24 rfl Try.ntmps24 (Nat.le_of_ble_eq_true rfl) fun X0 w0 S00 => ?_
 unfold cT
 have hmx : maxLen = 9223372036854775807 := rfl
 have hval := v
 have hmo := v.most
 refine sr_ ?_
 refine OD.box (ds := [_, _]) (wants_plain rfl) rfl rfl ot rfl rfl (fun b1 => ?_)
 refine OD.alloc (ds := [_, _]) (wants_plain rfl) rfl rfl Try.zeroValue26 rfl (fun b2 => ?_)
 refine OD.wk (Wk.as_ (n := 51) (l' := [(1, _), (2, _)]) (S' := [⟨b2, 26, 2, [_, _]⟩, ⟨b1, 26, 2, [_, _]⟩]) rfl rfl ⟨lk, lk, trivial⟩) ?_
 refine OD.nil ?_
 refine sr_ ?_
 refine os_ (fa_ 1) ?_
 refine os_ (lb_ 1) ?_
 refine OD.still (wants_plain rfl) rfl (still_bld (pl := [(1, _)]) (ds := [_, _]) rfl Try.zeroValue26 Try.runUnderlying26 places26_Tw6 ⟨rfl, ot, trivial⟩ rfl rfl) ?_
 refine OD.alloc (ds := [_, _]) (wants_plain rfl) rfl rfl Try.zeroValue26 rfl (fun b3 => ?_)
 refine OD.store (k := 0) (cs' := [_, _]) (wants_plain rfl) rfl rfl ot rfl rfl ot rfl rfl Try.sizeOf26 rfl rfl rfl ?_
 refine OD.wk (Wk.as_ (n := 51) (l' := [(1, _), (2, _), (3, _)]) (S' := [⟨b3, 26, 2, [_, _]⟩, ⟨b2, 26, 2, [_, _]⟩, ⟨b1, 26, 2, [_, _]⟩]) rfl rfl ⟨lk, lk, lk, trivial⟩) ?_
 refine OD.nil ?_
 refine CD.seq ?_
 refine sr_ ?_
 refine os_ (fa_ 0) ?_
 refine os_ (lb_ 2) ?_
 refine os_ ln_ ?_
 refine os_ mv_ ?_
 refine nm_ [2, 3, 13, 14, 15] ?_
 refine CD.block ?_
 refine CD.wk (Wk.asS (n := 51) (l' := [(2, .v (.pointer (some ⟨b2, 0, none⟩))), (3, .v (.pointer (some ⟨b3, 0, none⟩))), (13, .list 5 (t.pages.flatMap cP) t.pages.length), (14, .v (.int .i64 (t.pages.length : Nat))), (15, .v (.int .i64 ((0) : Nat)))]) (S' := (⟨b3, 26, 2, [.v (.slice none (([] : List PgO)).length (0)), .v (.int .i64 t.root)]⟩ :: ⟨b2, 26, 2, [.v (.slice none 0 0), .v (.int .i64 0)]⟩ :: (([]) ++ (([] : List PgO)).flatMap bO))) rfl (by repeat (first | exact List.Sublist.refl _ | apply List.Sublist.cons_cons | apply List.Sublist.cons)) ⟨lq_, lq_, lq_, lq_, lq_, trivial⟩) (CD.loop (fun (gh__ : Nat × List PgO × Option Addr × Nat × List Blk) y__ => match gh__ with | (i, L, adx, cpx, Sx) => (i ≤ t.pages.length) ∧ (L.map PgO.p = t.pages.take i) ∧ (∀ o ∈ L, okO o) ∧ (OwnP L adx cpx Sx) ∧ y__ = (⟨51, [(2, .v (.pointer (some ⟨b2, 0, none⟩))), (3, .v (.pointer (some ⟨b3, 0, none⟩))), (13, .list 5 (t.pages.flatMap cP) t.pages.length), (14, .v (.int .i64 (t.pages.length : Nat))), (15, .v (.int .i64 (i : Nat)))], (⟨b3, 26, 2, [.v (.slice adx L.length cpx), .v (.int .i64 t.root)]⟩ :: ⟨b2, 26, 2, [.v (.slice none 0 0), .v (.int .i64 0)]⟩ :: (Sx ++ L.flatMap bO))⟩ : St)) (fun (gh__ : Nat × List PgO × Option Addr × Nat × List Blk) => match gh__ with | (i, L, adx, cpx, Sx) => t.pages.length - i) (0, ([] : List PgO), none, 0, []) ⟨(Nat.zero_le _), rfl, (fun o h => by cases h), ownL_nil, rfl⟩ ?_)
 rintro ⟨i, L, adx, cpx, Sx⟩ _ ⟨hi, hL, hok, hox, rfl⟩
 refine sr_ ?_
 refine os_ bn_ ?_
 refine nm_ [2, 3, 13, 14, 15, 16] ?_
 refine CD.seq ?_
 refine CD.cond ot (fun hc0 => ?_) (fun hc0 => ?_)
 ·have hc0' := hc0
  (try simp only [V.cnd, ne_eq] at hc0')
  have hlt : i < t.pages.length := by omega
  have po := v.page _ (List.getElem_mem hlt)
  have hLl : L.length = i := by have := congrArg List.length hL; rw [List.length_map, List.length_take] at this; omega
  have hfew := po.few
  have hhl := po.hlen
  have hkids : (t.pages[i]'hlt).kids.length ≤ 5 := by
      have g6 := po.leaf; have g7 := fun h => (po.node h).1
      cases hlf : (t.pages[i]'hlt).leaf with
      | true => have := g6 hlf; omega
      | false => have := g7 hlf; omega
  refine CD.skip ?_
  refine CD.seq ?_
  refine CD.block ?_
  refine sr_ ?_
  refine os_ (ix_ 5) ?_
  refine os_ (la_ [_, _, _, _, _]) ?_
  refine OD.alloc (ds := [_, _, _, _, _]) (wants_plain rfl) rfl rfl Try.zeroValue44 rfl (fun b5 => ?_)
  refine OD.store (k := 0) (cs' := [_, _, _, _, _]) (wants_plain rfl) rfl rfl ot rfl rfl ot rfl rfl Try.sizeOf44 rfl rfl rfl ?_
  refine OD.wk (Wk.as_ (n := 51) (l' := [(2, _), (3, _), (5, _), (13, _), (14, _), (15, _)]) (S' := (⟨b5, 44, 5, [_, _, _, _, _]⟩ :: ⟨b3, 26, 2, [_, _]⟩ :: ⟨b2, 26, 2, [_, _]⟩ :: (Sx ++ (L.flatMap bO)))) rfl rfl ⟨lk, lk, lk, lk, lk, lk, trivial⟩) ?_
  refine OD.nil ?_
  refine sr_ ?_
  refine os_ mv_ ?_
  refine nm_ [2, 3, 5, 6, 13, 14, 15] ?_
  refine CD.seq ?_
  refine sr_ ?_
  refine os_ (fa_ 1) ?_
  refine os_ (lb_ 0) ?_
  refine os_ ln_ ?_
  refine os_ mv_ ?_
  refine nm_ [2, 3, 5, 6, 13, 14, 15, 20, 21, 22] ?_
  refine CD.block ?_
  refine CD.wk (Wk.asS (n := 51) (l' := [(2, .v (.pointer (some ⟨b2, 0, none⟩))), (3, .v (.pointer (some ⟨b3, 0, none⟩))), (5, .v (.pointer (some ⟨b5, 0, none⟩))), (6, .v (.slice none (List.take (0) (t.pages[i]'hlt).keys).length (0))), (13, .list 5 (t.pages.flatMap cP) t.pages.length), (14, .v (.int .i64 (t.pages.length : Nat))), (15, .v (.int .i64 (i : Nat))), (20, .list 1 ((t.pages[i]'hlt).keys.flatMap cK) (t.pages[i]'hlt).keys.length), (21, .v (.int .i64 ((t.pages[i]'hlt).keys.length : Nat))), (22, .v (.int .i64 ((0) : Nat)))]) (S' := (⟨b5, 44, 5, cP (t.pages[i]'hlt)⟩ :: ⟨b3, 26, 2, [.v (.slice adx L.length cpx), .v (.int .i64 t.root)]⟩ :: ⟨b2, 26, 2, [.v (.slice none 0 0), .v (.int .i64 0)]⟩ :: (([]) ++ (Sx ++ L.flatMap bO)))) rfl (by repeat (first | exact List.Sublist.refl _ | apply List.Sublist.cons_cons | apply List.Sublist.cons)) ⟨(by (repeat (first | exact look_hit | (apply look_at; focus (first | rfl | (simp; done) | (congr 2; omega) | (apply row_eq; exact map_take_next hjl))) | (apply look_miss; focus rfl))); done), (by (repeat (first | exact look_hit | (apply look_at; focus (first | rfl | (simp; done) | (congr 2; omega) | (apply row_eq; exact map_take_next hjl))) | (apply look_miss; focus rfl))); done), (by (repeat (first | exact look_hit | (apply look_at; focus (first | rfl | (simp; done) | (congr 2; omega) | (apply row_eq; exact map_take_next hjl))) | (apply look_miss; focus rfl))); done), (by (repeat (first | exact look_hit | (apply look_at; focus (first | rfl | (simp; done) | (congr 2; omega) | (apply row_eq; exact map_take_next hjl))) | (apply look_miss; focus rfl))); done), (by (repeat (first | exact look_hit | (apply look_at; focus (first | rfl | (simp; done) | (congr 2; omega) | (apply row_eq; exact map_take_next hjl))) | (apply look_miss; focus rfl))); done), (by (repeat (first | exact look_hit | (apply look_at; focus (first | rfl | (simp; done) | (congr 2; omega) | (apply row_eq; exact map_take_next hjl))) | (apply look_miss; focus rfl))); done), (by (repeat (first | exact look_hit | (apply look_at; focus (first | rfl | (simp; done) | (congr 2; omega) | (apply row_eq; exact map_take_next hjl))) | (apply look_miss; focus rfl))); done), (by (repeat (first | exact look_hit | (apply look_at; focus (first | rfl | (simp; done) | (congr 2; omega) | (apply row_eq; exact map_take_next hjl))) | (apply look_miss; focus rfl))); done), (by (repeat (first | exact look_hit | (apply look_at; focus (first | rfl | (simp; done) | (congr 2; omega) | (apply row_eq; exact map_take_next hjl))) | (apply look_miss; focus rfl))); done), (by (repeat (first | exact look_hit | (apply look_at; focus (first | rfl | (simp; done) | (congr 2; omega) | (apply row_eq; exact map_take_next hjl))) | (apply look_miss; focus rfl))); done), trivial⟩) (CD.loop (fun (gh__ : Nat × Option Addr × Nat × List Blk) y__ => match gh__ with | (j, ady, cpy, Sy) => (j ≤ (t.pages[i]'hlt).keys.length) ∧ (OwnKs (List.take j (t.pages[i]'hlt).keys) ady cpy Sy) ∧ y__ = (⟨51, [(2, .v (.pointer (some ⟨b2, 0, none⟩))), (3, .v (.pointer (some ⟨b3, 0, none⟩))), (5, .v (.pointer (some ⟨b5, 0, none⟩))), (6, .v (.slice ady (List.take j (t.pages[i]'hlt).keys).length cpy)), (13, .list 5 (t.pages.flatMap cP) t.pages.length), (14, .v (.int .i64 (t.pages.length : Nat))), (15, .v (.int .i64 (i : Nat))), (20, .list 1 ((t.pages[i]'hlt).keys.flatMap cK) (t.pages[i]'hlt).keys.length), (21, .v (.int .i64 ((t.pages[i]'hlt).keys.length : Nat))), (22, .v (.int .i64 (j : Nat)))], (⟨b5, 44, 5, cP (t.pages[i]'hlt)⟩ :: ⟨b3, 26, 2, [.v (.slice adx L.length cpx), .v (.int .i64 t.root)]⟩ :: ⟨b2, 26, 2, [.v (.slice none 0 0), .v (.int .i64 0)]⟩ :: (Sy ++ (Sx ++ L.flatMap bO)))⟩ : St)) (fun (gh__ : Nat × Option Addr × Nat × List Blk) => match gh__ with | (j, ady, cpy, Sy) => (t.pages[i]'hlt).keys.length - j) (0, none, 0, []) ⟨(Nat.zero_le _), ownL_nil, rfl⟩ ?_)
  rintro ⟨j, ady, cpy, Sy⟩ _ ⟨hj, hoy, rfl⟩
  refine sr_ ?_
  refine os_ bn_ ?_
  refine nm_ [2, 3, 5, 6, 13, 14, 15, 20, 21, 22, 23] ?_
  refine CD.seq ?_
  refine CD.cond ot (fun hc1 => ?_) (fun hc1 => ?_)
  ·have hc1' := hc1
   (try simp only [V.cnd, ne_eq] at hc1')
   have hjl : j < (t.pages[i]'hlt).keys.length := by omega
   have hkl1 := (po.klen _ (List.getElem_mem hjl)).2
   refine CD.skip ?_
   refine CD.seq ?_
   refine CD.block ?_
   refine sr_ ?_
   refine os_ (ix_ 1) ?_
   refine os_ ld_ ?_
   refine os_ mv_ ?_
   refine nm_ [2, 3, 5, 6, 8, 13, 14, 15, 20, 21, 22] ?_
   refine CD.region ?_
   refine os_ mv_ ?_
   refine os_ mv_ ?_
   refine OD.callP (wants_plain rfl) rfl rfl rfl Try.call26 (cloneB_vp (t.pages[i]'hlt).keys[j] (by omega)) ⟨ot, trivial⟩ ?_
   refine OD.bldS (pl := numD 0 [_]) (zvs := [.slice none 0 0]) (ds := [_]) (wants_plain rfl) rfl rfl Try.zeroValue31 Try.runUnderlying42 Try.sizeOf31 rfl rfl (by kernel_rfl) ⟨rfl, ot, trivial⟩ (by exact rfl) (fill_full (by exact rfl) (by exact rfl) (by exact rfl)) (fun b29 => ?_)
   refine OD.give (k := 0) (t := 29) (sz := 1) (m := 1) rfl lk rfl rfl rfl (Nat.le_refl _) (by decide) ?_
   refine OD.appendG (ls := (List.take j (t.pages[i]'hlt).keys)) (new := [(t.pages[i]'hlt).keys[j]]) (Sq := Sy) cK_len cK_one (wants_plain rfl) rfl rfl Try.underlying42 info31_Tw6 rfl (by decide) ot hoy (perm_r13 (A := [_, _, _])) ot (by simp) (by simp [maxLen]; omega) (by simp; omega) (fun b30 cp30 h130 h230 => ?_)
   refine OD.perm (perm_q13 (S1 := [⟨b30, 31, cp30 * 1, List.flatMap cK ((List.take j (t.pages[i]'hlt).keys) ++ [(t.pages[i]'hlt).keys[j]])⟩]) (A := [_, _, _])) ?_
   refine os_ mv_ ?_
   refine OD.wk (Wk.as_ (n := 51) (l' := [(2, _), (3, _), (5, _), (6, _), (13, _), (14, _), (15, _), (20, _), (21, _), (22, _)]) (S' := (⟨b5, 44, 5, [_, _, _, _, _]⟩ :: ⟨b3, 26, 2, [_, _]⟩ :: ⟨b2, 26, 2, [_, _]⟩ :: ([⟨b30, 31, cp30 * 1, List.flatMap cK ((List.take j (t.pages[i]'hlt).keys) ++ [(t.pages[i]'hlt).keys[j]])⟩] ++ (Sx ++ (L.flatMap bO))))) rfl rfl ⟨lk, lk, lk, lk, lk, lk, lk, lk, lk, lk, trivial⟩) ?_
   refine OD.nil ?_
   refine CD.region ?_
   refine os_ bn_ ?_
   refine os_ mv_ ?_
   refine nm_ [2, 3, 5, 6, 13, 14, 15, 20, 21, 22] ?_
   refine ⟨((j + 1), (some ⟨b30, 0, none⟩), cp30, [⟨b30, 31, cp30 * 1, List.flatMap cK ((List.take j (t.pages[i]'hlt).keys) ++ [(t.pages[i]'hlt).keys[j]])⟩]), ⟨51, [(2, .v (.pointer (some ⟨b2, 0, none⟩))), (3, .v (.pointer (some ⟨b3, 0, none⟩))), (5, .v (.pointer (some ⟨b5, 0, none⟩))), (6, .v (.slice ((some ⟨b30, 0, none⟩)) (List.take ((j + 1)) (t.pages[i]'hlt).keys).length cp30)), (13, .list 5 (t.pages.flatMap cP) t.pages.length), (14, .v (.int .i64 (t.pages.length : Nat))), (15, .v (.int .i64 (i : Nat))), (20, .list 1 ((t.pages[i]'hlt).keys.flatMap cK) (t.pages[i]'hlt).keys.length), (21, .v (.int .i64 ((t.pages[i]'hlt).keys.length : Nat))), (22, .v (.int .i64 (((j + 1)) : Nat)))], (⟨b5, 44, 5, cP (t.pages[i]'hlt)⟩ :: ⟨b3, 26, 2, [.v (.slice adx L.length cpx), .v (.int .i64 t.root)]⟩ :: ⟨b2, 26, 2, [.v (.slice none 0 0), .v (.int .i64 0)]⟩ :: (([⟨b30, 31, cp30 * 1, List.flatMap cK ((List.take j (t.pages[i]'hlt).keys) ++ [(t.pages[i]'hlt).keys[j]])⟩]) ++ (Sx ++ L.flatMap bO)))⟩, ?_, Wk.asS (n := 51) rfl (by repeat (first | exact List.Sublist.refl _ | apply List.Sublist.cons_cons | apply List.Sublist.cons)) ⟨(by (repeat (first | exact look_hit | (apply look_at; focus (first | rfl | (simp; done) | (congr 2; omega) | (apply row_eq; exact map_take_next hjl))) | (apply look_miss; focus rfl))); done), (by (repeat (first | exact look_hit | (apply look_at; focus (first | rfl | (simp; done) | (congr 2; omega) | (apply row_eq; exact map_take_next hjl))) | (apply look_miss; focus rfl))); done), (by (repeat (first | exact look_hit | (apply look_at; focus (first | rfl | (simp; done) | (congr 2; omega) | (apply row_eq; exact map_take_next hjl))) | (apply look_miss; focus rfl))); done), (by (repeat (first | exact look_hit | (apply look_at; focus (first | rfl | (simp; done) | (congr 2; omega) | (apply row_eq; exact map_take_next hjl))) | (apply look_miss; focus rfl))); done), (by (repeat (first | exact look_hit | (apply look_at; focus (first | rfl | (simp; done) | (congr 2; omega) | (apply row_eq; exact map_take_next hjl))) | (apply look_miss; focus rfl))); done), (by (repeat (first | exact look_hit | (apply look_at; focus (first | rfl | (simp; done) | (congr 2; omega) | (apply row_eq; exact map_take_next hjl))) | (apply look_miss; focus rfl))); done), (by (repeat (first | exact look_hit | (apply look_at; focus (first | rfl | (simp; done) | (congr 2; omega) | (apply row_eq; exact map_take_next hjl))) | (apply look_miss; focus rfl))); done), (by (repeat (first | exact look_hit | (apply look_at; focus (first | rfl | (simp; done) | (congr 2; omega) | (apply row_eq; exact map_take_next hjl))) | (apply look_miss; focus rfl))); done), (by (repeat (first | exact look_hit | (apply look_at; focus (first | rfl | (simp; done) | (congr 2; omega) | (apply row_eq; exact map_take_next hjl))) | (apply look_miss; focus rfl))); done), (by (repeat (first | exact look_hit | (apply look_at; focus (first | rfl | (simp; done) | (congr 2; omega) | (apply row_eq; exact map_take_next hjl))) | (apply look_miss; focus rfl))); done), trivial⟩, (by omega), (OwnL.cast (ownL_row h130 h230) (map_take_next hjl)), rfl⟩
   first | omega | (simp only []; omega)
  ·have hc1' := hc1
   (try simp only [V.cnd, ne_eq] at hc1')
   have hjt : List.take j (t.pages[i]'hlt).keys = (t.pages[i]'hlt).keys := List.take_of_length_le (by omega)
   rw [hjt] at hoy ⊢
   refine CD.exit ?_
   refine CD.draw (bks (List.take 1 _)) (by kernel_rfl) (fun _ h => (List.Sublist.map _ (List.take_sublist _ _)).subset h) ?_
   refine a0_ 0 rfl (fa_ 0) ?_
   refine a0_ 2 rfl (fa_ 0) ?_
   refine a0_ 3 rfl (lb_ 0) ?_
   refine a0_ 4 rfl mv_ ?_
   refine a0_ 5 rfl (fa_ 2) ?_
   refine a0_ 6 rfl (lb_ 0) ?_
   refine a0_ 8 rfl (fa_ 3) ?_
   refine a0_ 9 rfl (lb_ 0) ?_
   refine a0_ 11 rfl (fa_ 4) ?_
   refine a0_ 12 rfl (lb_ 0) ?_
   refine AD0.later rfl ?_
   refine AD.two (i := 1) (j := 7) (by kernel_rfl) ?_ ?_
   ·skip
    refine at_ rfl (lb_ 1) ?_
    refine AD.one (i := 7) (by kernel_rfl) ?_
    refine AStep.call rfl (wants_plain rfl) rfl rfl rfl Try.call39 (cloneI_vc (t.pages[i]'hlt).kids (by omega)) ⟨ot, trivial⟩ (perm_none _) (fun b hb => by simp [bks, St.put] at hb ⊢; try simp [hb]) ?_
    rintro _ Sz ⟨adz, cpz, rfl, hoz⟩
    refine AD.perm (perm_q12 (A := [_, _, _])) ?_
    have hL2 : (L ++ [(⟨(t.pages[i]'hlt), ady, cpy, Sy, adz, cpz, Sz⟩ : PgO)]).map PgO.p = t.pages.take (i + 1) := by rw [List.map_append, hL]; exact map_take_next hlt
    have hok2 : ∀ o ∈ L ++ [(⟨(t.pages[i]'hlt), ady, cpy, Sy, adz, cpz, Sz⟩ : PgO)], okO o := fun o ho => by rcases List.mem_append.1 ho with ho | ho; exact hok o ho; rw [List.mem_singleton] at ho; subst ho; exact ⟨hoy, hoz⟩
    refine AD.one (i := 10) (by kernel_rfl) ?_
    refine AStep.callP rfl (wants_plain rfl) rfl rfl rfl Try.call26 (cloneB_vp (t.pages[i]'hlt).high (by omega)) ⟨ot, trivial⟩ ?_
    refine a1_ 13 rfl (still_bld (pl := [(0, _), (1, _), (2, _), (3, _), (4, _)]) (ds := [_, _, _, _, _]) rfl Try.zeroValue44 Try.runUnderlying44 places44_Tw6 ⟨rfl, ot, rfl, ot, rfl, ot, rfl, ot, rfl, ot, trivial⟩ rfl rfl) ?_
    refine AD.one (i := 14) (by kernel_rfl) ?_
    refine AStep.bldS (pl := numD 0 [_]) (zvs := [.bool false, .slice none 0 0, .slice none 0 0, .slice none 0 0, .int .i64 0]) (ds := [_, _, _, _, _]) rfl (wants_plain rfl) rfl rfl Try.zeroValue44 Try.runUnderlying24 Try.sizeOf44 rfl rfl (by kernel_rfl) ⟨rfl, ot, trivial⟩ (by exact rfl) (fill_full (by exact rfl) (by exact rfl) (by exact rfl)) (fun b46 => ?_)
    refine AD.give (k := 0) (t := 46) (sz := 5) (m := 1) rfl lk rfl rfl rfl (Nat.le_refl _) (by decide) ?_
    refine AD.one (i := 15) (by kernel_rfl) ?_
    refine AStep.appendG (ls := L) (new := [(⟨(t.pages[i]'hlt), ady, cpy, Sy, adz, cpz, Sz⟩ : PgO)]) (Sq := Sx) gO_len gO_one rfl (wants_plain rfl) rfl rfl Try.underlying24 info44_Tw6 rfl (by decide) ot hox (perm_r34 (A := [_, _, _])) ot (by simp) (by simp only [maxLen, List.length_cons, List.length_nil] at *; omega) (by simp only [List.length_cons, List.length_nil] at *; omega) (fun b47 cp47 h147 h247 => ?_)
    refine AD.perm (perm_q34 (S3 := [⟨b47, 44, cp47 * 5, List.flatMap gO (L ++ [(⟨(t.pages[i]'hlt), ady, cpy, Sy, adz, cpz, Sz⟩ : PgO)])⟩]) (A := [_, _, _])) ?_
    refine AD.perm (S' := ⟨b5, 44, 5, cP (t.pages[i]'hlt)⟩ :: ⟨b3, 26, 2, [.v (.slice adx L.length cpx), .v (.int .i64 t.root)]⟩ :: ⟨b2, 26, 2, [.v (.slice none 0 0), .v (.int .i64 0)]⟩ :: ([⟨b47, 44, cp47 * 5, List.flatMap gO (L ++ [(⟨(t.pages[i]'hlt), ady, cpy, Sy, adz, cpz, Sz⟩ : PgO)])⟩] ++ (L ++ [(⟨(t.pages[i]'hlt), ady, cpy, Sy, adz, cpz, Sz⟩ : PgO)]).flatMap bO)) (perm_cnt fun f__ => by rw [bO_snoc]; simp only [bO, List.map_append, List.map_cons, List.map_nil, List.sum_append, List.sum_cons, List.sum_nil]; omega) ?_
    refine a1_ 16 rfl (fa_ 0) ?_
    refine AD.one (i := 17) (by kernel_rfl) ?_
    refine AStep.store (k := 1) (cs' := [_, _]) rfl (wants_plain rfl) rfl rfl ot rfl rfl ot rfl rfl Try.sizeOf24 rfl rfl rfl (by intro b hb; simp [bks, St.put] at hb ⊢; try first | exact hb | simp [hb] | (rcases hb with hb | hb <;> simp [hb]) | (rcases hb with hb | hb | hb <;> simp [hb])) ?_
    refine AD.wk (y := ⟨51, [(2, _), (3, _), (13, _), (14, _), (15, _)], (⟨b5, 44, 5, [_, _, _, _, _]⟩ :: ⟨b3, 26, 2, [_, _]⟩ :: ⟨b2, 26, 2, [_, _]⟩ :: ([⟨b47, 44, cp47 * 5, List.flatMap gO (L ++ [(⟨(t.pages[i]'hlt), ady, cpy, Sy, adz, cpz, Sz⟩ : PgO)])⟩] ++ ((L ++ [(⟨(t.pages[i]'hlt), ady, cpy, Sy, adz, cpz, Sz⟩ : PgO)]).flatMap bO)))⟩) (Wk.as_ rfl rfl ⟨lk, lk, lk, lk, lk, trivial⟩) rfl ?_
    refine AD.done (by kernel_rfl) ?_
    refine CD.region ?_
    refine os_ bn_ ?_
    refine os_ mv_ ?_
    refine nm_ [2, 3, 13, 14, 15] ?_
    refine ⟨((i + 1), (L ++ [(⟨(t.pages[i]'hlt), ady, cpy, Sy, adz, cpz, Sz⟩ : PgO)]), (some ⟨b47, 0, none⟩), cp47, [⟨b47, 44, cp47 * 5, List.flatMap gO (L ++ [(⟨(t.pages[i]'hlt), ady, cpy, Sy, adz, cpz, Sz⟩ : PgO)])⟩]), ⟨51, [(2, .v (.pointer (some ⟨b2, 0, none⟩))), (3, .v (.pointer (some ⟨b3, 0, none⟩))), (13, .list 5 (t.pages.flatMap cP) t.pages.length), (14, .v (.int .i64 (t.pages.length : Nat))), (15, .v (.int .i64 (((i + 1)) : Nat)))], (⟨b3, 26, 2, [.v (.slice ((some ⟨b47, 0, none⟩)) ((L ++ [(⟨(t.pages[i]'hlt), ady, cpy, Sy, adz, cpz, Sz⟩ : PgO)])).length cp47), .v (.int .i64 t.root)]⟩ :: ⟨b2, 26, 2, [.v (.slice none 0 0), .v (.int .i64 0)]⟩ :: (([⟨b47, 44, cp47 * 5, List.flatMap gO (L ++ [(⟨(t.pages[i]'hlt), ady, cpy, Sy, adz, cpz, Sz⟩ : PgO)])⟩]) ++ ((L ++ [(⟨(t.pages[i]'hlt), ady, cpy, Sy, adz, cpz, Sz⟩ : PgO)])).flatMap bO))⟩, ?_, Wk.asS (n := 51) rfl (by repeat (first | exact List.Sublist.refl _ | apply List.Sublist.cons_cons | apply List.Sublist.cons)) ⟨lq_, lq_, lq_, lq_, lq_, trivial⟩, (by omega), hL2, hok2, (ownL_row h147 h247), rfl⟩
    first | omega | (simp only []; omega)
   ·skip
    refine AStep.call rfl (wants_plain rfl) rfl rfl rfl Try.call39 (cloneI_vc (t.pages[i]'hlt).kids (by omega)) ⟨ot, trivial⟩ (perm_none _) (fun b hb => by simp [bks, St.put] at hb ⊢; try simp [hb]) ?_
    rintro _ Sz ⟨adz, cpz, rfl, hoz⟩
    refine AD.perm (perm_q12 (A := [_, _, _])) ?_
    have hL2 : (L ++ [(⟨(t.pages[i]'hlt), ady, cpy, Sy, adz, cpz, Sz⟩ : PgO)]).map PgO.p = t.pages.take (i + 1) := by rw [List.map_append, hL]; exact map_take_next hlt
    have hok2 : ∀ o ∈ L ++ [(⟨(t.pages[i]'hlt), ady, cpy, Sy, adz, cpz, Sz⟩ : PgO)], okO o := fun o ho => by rcases List.mem_append.1 ho with ho | ho; exact hok o ho; rw [List.mem_singleton] at ho; subst ho; exact ⟨hoy, hoz⟩
    refine AD.two (i := 1) (j := 10) (by kernel_rfl) ?_ ?_
    ·skip
     refine at_ rfl (lb_ 1) ?_
     refine AD.one (i := 10) (by kernel_rfl) ?_
     refine AStep.callP rfl (wants_plain rfl) rfl rfl rfl Try.call26 (cloneB_vp (t.pages[i]'hlt).high (by omega)) ⟨ot, trivial⟩ ?_
     refine a1_ 13 rfl (still_bld (pl := [(0, _), (1, _), (2, _), (3, _), (4, _)]) (ds := [_, _, _, _, _]) rfl Try.zeroValue44 Try.runUnderlying44 places44_Tw6 ⟨rfl, ot, rfl, ot, rfl, ot, rfl, ot, rfl, ot, trivial⟩ rfl rfl) ?_
     refine AD.one (i := 14) (by kernel_rfl) ?_
     refine AStep.bldS (pl := numD 0 [_]) (zvs := [.bool false, .slice none 0 0, .slice none 0 0, .slice none 0 0, .int .i64 0]) (ds := [_, _, _, _, _]) rfl (wants_plain rfl) rfl rfl Try.zeroValue44 Try.runUnderlying24 Try.sizeOf44 rfl rfl (by kernel_rfl) ⟨rfl, ot, trivial⟩ (by exact rfl) (fill_full (by exact rfl) (by exact rfl) (by exact rfl)) (fun b46 => ?_)
     refine AD.give (k := 0) (t := 46) (sz := 5) (m := 1) rfl lk rfl rfl rfl (Nat.le_refl _) (by decide) ?_
     refine AD.one (i := 15) (by kernel_rfl) ?_
     refine AStep.appendG (ls := L) (new := [(⟨(t.pages[i]'hlt), ady, cpy, Sy, adz, cpz, Sz⟩ : PgO)]) (Sq := Sx) gO_len gO_one rfl (wants_plain rfl) rfl rfl Try.underlying24 info44_Tw6 rfl (by decide) ot hox (perm_r34 (A := [_, _, _])) ot (by simp) (by simp only [maxLen, List.length_cons, List.length_nil] at *; omega) (by simp only [List.length_cons, List.length_nil] at *; omega) (fun b47 cp47 h147 h247 => ?_)
     refine AD.perm (perm_q34 (S3 := [⟨b47, 44, cp47 * 5, List.flatMap gO (L ++ [(⟨(t.pages[i]'hlt), ady, cpy, Sy, adz, cpz, Sz⟩ : PgO)])⟩]) (A := [_, _, _])) ?_
     refine AD.perm (S' := ⟨b5, 44, 5, cP (t.pages[i]'hlt)⟩ :: ⟨b3, 26, 2, [.v (.slice adx L.length cpx), .v (.int .i64 t.root)]⟩ :: ⟨b2, 26, 2, [.v (.slice none 0 0), .v (.int .i64 0)]⟩ :: ([⟨b47, 44, cp47 * 5, List.flatMap gO (L ++ [(⟨(t.pages[i]'hlt), ady, cpy, Sy, adz, cpz, Sz⟩ : PgO)])⟩] ++ (L ++ [(⟨(t.pages[i]'hlt), ady, cpy, Sy, adz, cpz, Sz⟩ : PgO)]).flatMap bO)) (perm_cnt fun f__ => by rw [bO_snoc]; simp only [bO, List.map_append, List.map_cons, List.map_nil, List.sum_append, List.sum_cons, List.sum_nil]; omega) ?_
     refine a1_ 16 rfl (fa_ 0) ?_
     refine AD.one (i := 17) (by kernel_rfl) ?_
     refine AStep.store (k := 1) (cs' := [_, _]) rfl (wants_plain rfl) rfl rfl ot rfl rfl ot rfl rfl Try.sizeOf24 rfl rfl rfl (by intro b hb; simp [bks, St.put] at hb ⊢; try first | exact hb | simp [hb] | (rcases hb with hb | hb <;> simp [hb]) | (rcases hb with hb | hb | hb <;> simp [hb])) ?_
     refine AD.wk (y := ⟨51, [(2, _), (3, _), (13, _), (14, _), (15, _)], (⟨b5, 44, 5, [_, _, _, _, _]⟩ :: ⟨b3, 26, 2, [_, _]⟩ :: ⟨b2, 26, 2, [_, _]⟩ :: ([⟨b47, 44, cp47 * 5, List.flatMap gO (L ++ [(⟨(t.pages[i]'hlt), ady, cpy, Sy, adz, cpz, Sz⟩ : PgO)])⟩] ++ ((L ++ [(⟨(t.pages[i]'hlt), ady, cpy, Sy, adz, cpz, Sz⟩ : PgO)]).flatMap bO)))⟩) (Wk.as_ rfl rfl ⟨lk, lk, lk, lk, lk, trivial⟩) rfl ?_
     refine AD.done (by kernel_rfl) ?_
     refine CD.region ?_
     refine os_ bn_ ?_
     refine os_ mv_ ?_
     refine nm_ [2, 3, 13, 14, 15] ?_
     refine ⟨((i + 1), (L ++ [(⟨(t.pages[i]'hlt), ady, cpy, Sy, adz, cpz, Sz⟩ : PgO)]), (some ⟨b47, 0, none⟩), cp47, [⟨b47, 44, cp47 * 5, List.flatMap gO (L ++ [(⟨(t.pages[i]'hlt), ady, cpy, Sy, adz, cpz, Sz⟩ : PgO)])⟩]), ⟨51, [(2, .v (.pointer (some ⟨b2, 0, none⟩))), (3, .v (.pointer (some ⟨b3, 0, none⟩))), (13, .list 5 (t.pages.flatMap cP) t.pages.length), (14, .v (.int .i64 (t.pages.length : Nat))), (15, .v (.int .i64 (((i + 1)) : Nat)))], (⟨b3, 26, 2, [.v (.slice ((some ⟨b47, 0, none⟩)) ((L ++ [(⟨(t.pages[i]'hlt), ady, cpy, Sy, adz, cpz, Sz⟩ : PgO)])).length cp47), .v (.int .i64 t.root)]⟩ :: ⟨b2, 26, 2, [.v (.slice none 0 0), .v (.int .i64 0)]⟩ :: (([⟨b47, 44, cp47 * 5, List.flatMap gO (L ++ [(⟨(t.pages[i]'hlt), ady, cpy, Sy, adz, cpz, Sz⟩ : PgO)])⟩]) ++ ((L ++ [(⟨(t.pages[i]'hlt), ady, cpy, Sy, adz, cpz, Sz⟩ : PgO)])).flatMap bO))⟩, ?_, Wk.asS (n := 51) rfl (by repeat (first | exact List.Sublist.refl _ | apply List.Sublist.cons_cons | apply List.Sublist.cons)) ⟨lq_, lq_, lq_, lq_, lq_, trivial⟩, (by omega), hL2, hok2, (ownL_row h147 h247), rfl⟩
     first | omega | (simp only []; omega)
    ·skip
     refine AStep.callP rfl (wants_plain rfl) rfl rfl rfl Try.call26 (cloneB_vp (t.pages[i]'hlt).high (by omega)) ⟨ot, trivial⟩ ?_
     refine a1_ 13 rfl (still_bld (pl := [(0, _), (1, _), (2, _), (3, _), (4, _)]) (ds := [_, _, _, _, _]) rfl Try.zeroValue44 Try.runUnderlying44 places44_Tw6 ⟨rfl, ot, rfl, ot, rfl, ot, rfl, ot, rfl, ot, trivial⟩ rfl rfl) ?_
     refine AD.two (i := 1) (j := 14) (by kernel_rfl) ?_ ?_
     ·skip
      refine at_ rfl (lb_ 1) ?_
      refine AD.one (i := 14) (by kernel_rfl) ?_
      refine AStep.bldS (pl := numD 0 [_]) (zvs := [.bool false, .slice none 0 0, .slice none 0 0, .slice none 0 0, .int .i64 0]) (ds := [_, _, _, _, _]) rfl (wants_plain rfl) rfl rfl Try.zeroValue44 Try.runUnderlying24 Try.sizeOf44 rfl rfl (by kernel_rfl) ⟨rfl, ot, trivial⟩ (by exact rfl) (fill_full (by exact rfl) (by exact rfl) (by exact rfl)) (fun b46 => ?_)
      refine AD.give (k := 0) (t := 46) (sz := 5) (m := 1) rfl lk rfl rfl rfl (Nat.le_refl _) (by decide) ?_
      refine AD.one (i := 15) (by kernel_rfl) ?_
      refine AStep.appendG (ls := L) (new := [(⟨(t.pages[i]'hlt), ady, cpy, Sy, adz, cpz, Sz⟩ : PgO)]) (Sq := Sx) gO_len gO_one rfl (wants_plain rfl) rfl rfl Try.underlying24 info44_Tw6 rfl (by decide) ot hox (perm_r34 (A := [_, _, _])) ot (by simp) (by simp only [maxLen, List.length_cons, List.length_nil] at *; omega) (by simp only [List.length_cons, List.length_nil] at *; omega) (fun b47 cp47 h147 h247 => ?_)
      refine AD.perm (perm_q34 (S3 := [⟨b47, 44, cp47 * 5, List.flatMap gO (L ++ [(⟨(t.pages[i]'hlt), ady, cpy, Sy, adz, cpz, Sz⟩ : PgO)])⟩]) (A := [_, _, _])) ?_
      refine AD.perm (S' := ⟨b5, 44, 5, cP (t.pages[i]'hlt)⟩ :: ⟨b3, 26, 2, [.v (.slice adx L.length cpx), .v (.int .i64 t.root)]⟩ :: ⟨b2, 26, 2, [.v (.slice none 0 0), .v (.int .i64 0)]⟩ :: ([⟨b47, 44, cp47 * 5, List.flatMap gO (L ++ [(⟨(t.pages[i]'hlt), ady, cpy, Sy, adz, cpz, Sz⟩ : PgO)])⟩] ++ (L ++ [(⟨(t.pages[i]'hlt), ady, cpy, Sy, adz, cpz, Sz⟩ : PgO)]).flatMap bO)) (perm_cnt fun f__ => by rw [bO_snoc]; simp only [bO, List.map_append, List.map_cons, List.map_nil, List.sum_append, List.sum_cons, List.sum_nil]; omega) ?_
      refine a1_ 16 rfl (fa_ 0) ?_
      refine AD.one (i := 17) (by kernel_rfl) ?_
      refine AStep.store (k := 1) (cs' := [_, _]) rfl (wants_plain rfl) rfl rfl ot rfl rfl ot rfl rfl Try.sizeOf24 rfl rfl rfl (by intro b hb; simp [bks, St.put] at hb ⊢; try first | exact hb | simp [hb] | (rcases hb with hb | hb <;> simp [hb]) | (rcases hb with hb | hb | hb <;> simp [hb])) ?_
      refine AD.wk (y := ⟨51, [(2, _), (3, _), (13, _), (14, _), (15, _)], (⟨b5, 44, 5, [_, _, _, _, _]⟩ :: ⟨b3, 26, 2, [_, _]⟩ :: ⟨b2, 26, 2, [_, _]⟩ :: ([⟨b47, 44, cp47 * 5, List.flatMap gO (L ++ [(⟨(t.pages[i]'hlt), ady, cpy, Sy, adz, cpz, Sz⟩ : PgO)])⟩] ++ ((L ++ [(⟨(t.pages[i]'hlt), ady, cpy, Sy, adz, cpz, Sz⟩ : PgO)]).flatMap bO)))⟩) (Wk.as_ rfl rfl ⟨lk, lk, lk, lk, lk, trivial⟩) rfl ?_
      refine AD.done (by kernel_rfl) ?_
      refine CD.region ?_
      refine os_ bn_ ?_
      refine os_ mv_ ?_
      refine nm_ [2, 3, 13, 14, 15] ?_
      refine ⟨((i + 1), (L ++ [(⟨(t.pages[i]'hlt), ady, cpy, Sy, adz, cpz, Sz⟩ : PgO)]), (some ⟨b47, 0, none⟩), cp47, [⟨b47, 44, cp47 * 5, List.flatMap gO (L ++ [(⟨(t.pages[i]'hlt), ady, cpy, Sy, adz, cpz, Sz⟩ : PgO)])⟩]), ⟨51, [(2, .v (.pointer (some ⟨b2, 0, none⟩))), (3, .v (.pointer (some ⟨b3, 0, none⟩))), (13, .list 5 (t.pages.flatMap cP) t.pages.length), (14, .v (.int .i64 (t.pages.length : Nat))), (15, .v (.int .i64 (((i + 1)) : Nat)))], (⟨b3, 26, 2, [.v (.slice ((some ⟨b47, 0, none⟩)) ((L ++ [(⟨(t.pages[i]'hlt), ady, cpy, Sy, adz, cpz, Sz⟩ : PgO)])).length cp47), .v (.int .i64 t.root)]⟩ :: ⟨b2, 26, 2, [.v (.slice none 0 0), .v (.int .i64 0)]⟩ :: (([⟨b47, 44, cp47 * 5, List.flatMap gO (L ++ [(⟨(t.pages[i]'hlt), ady, cpy, Sy, adz, cpz, Sz⟩ : PgO)])⟩]) ++ ((L ++ [(⟨(t.pages[i]'hlt), ady, cpy, Sy, adz, cpz, Sz⟩ : PgO)])).flatMap bO))⟩, ?_, Wk.asS (n := 51) rfl (by repeat (first | exact List.Sublist.refl _ | apply List.Sublist.cons_cons | apply List.Sublist.cons)) ⟨lq_, lq_, lq_, lq_, lq_, trivial⟩, (by omega), hL2, hok2, (ownL_row h147 h247), rfl⟩
      first | omega | (simp only []; omega)
     ·skip
      refine AStep.bldS (pl := numD 0 [_]) (zvs := [.bool false, .slice none 0 0, .slice none 0 0, .slice none 0 0, .int .i64 0]) (ds := [_, _, _, _, _]) rfl (wants_plain rfl) rfl rfl Try.zeroValue44 Try.runUnderlying24 Try.sizeOf44 rfl rfl (by kernel_rfl) ⟨rfl, ot, trivial⟩ (by exact rfl) (fill_full (by exact rfl) (by exact rfl) (by exact rfl)) (fun b46 => ?_)
      refine AD.give (k := 0) (t := 46) (sz := 5) (m := 1) rfl lk rfl rfl rfl (Nat.le_refl _) (by decide) ?_
      refine AD.one (i := 1) (by kernel_rfl) ?_
      refine at_ rfl (lb_ 1) ?_
      refine AD.one (i := 15) (by kernel_rfl) ?_
      refine AStep.appendG (ls := L) (new := [(⟨(t.pages[i]'hlt), ady, cpy, Sy, adz, cpz, Sz⟩ : PgO)]) (Sq := Sx) gO_len gO_one rfl (wants_plain rfl) rfl rfl Try.underlying24 info44_Tw6 rfl (by decide) ot hox (perm_r34 (A := [_, _, _])) ot (by simp) (by simp only [maxLen, List.length_cons, List.length_nil] at *; omega) (by simp only [List.length_cons, List.length_nil] at *; omega) (fun b47 cp47 h147 h247 => ?_)
      refine AD.perm (perm_q34 (S3 := [⟨b47, 44, cp47 * 5, List.flatMap gO (L ++ [(⟨(t.pages[i]'hlt), ady, cpy, Sy, adz, cpz, Sz⟩ : PgO)])⟩]) (A := [_, _, _])) ?_
      refine AD.perm (S' := ⟨b5, 44, 5, cP (t.pages[i]'hlt)⟩ :: ⟨b3, 26, 2, [.v (.slice adx L.length cpx), .v (.int .i64 t.root)]⟩ :: ⟨b2, 26, 2, [.v (.slice none 0 0), .v (.int .i64 0)]⟩ :: ([⟨b47, 44, cp47 * 5, List.flatMap gO (L ++ [(⟨(t.pages[i]'hlt), ady, cpy, Sy, adz, cpz, Sz⟩ : PgO)])⟩] ++ (L ++ [(⟨(t.pages[i]'hlt), ady, cpy, Sy, adz, cpz, Sz⟩ : PgO)]).flatMap bO)) (perm_cnt fun f__ => by rw [bO_snoc]; simp only [bO, List.map_append, List.map_cons, List.map_nil, List.sum_append, List.sum_cons, List.sum_nil]; omega) ?_
      refine a1_ 16 rfl (fa_ 0) ?_
      refine AD.one (i := 17) (by kernel_rfl) ?_
      refine AStep.store (k := 1) (cs' := [_, _]) rfl (wants_plain rfl) rfl rfl ot rfl rfl ot rfl rfl Try.sizeOf24 rfl rfl rfl (by intro b hb; simp [bks, St.put] at hb ⊢; try first | exact hb | simp [hb] | (rcases hb with hb | hb <;> simp [hb]) | (rcases hb with hb | hb | hb <;> simp [hb])) ?_
      refine AD.wk (y := ⟨51, [(2, _), (3, _), (13, _), (14, _), (15, _)], (⟨b5, 44, 5, [_, _, _, _, _]⟩ :: ⟨b3, 26, 2, [_, _]⟩ :: ⟨b2, 26, 2, [_, _]⟩ :: ([⟨b47, 44, cp47 * 5, List.flatMap gO (L ++ [(⟨(t.pages[i]'hlt), ady, cpy, Sy, adz, cpz, Sz⟩ : PgO)])⟩] ++ ((L ++ [(⟨(t.pages[i]'hlt), ady, cpy, Sy, adz, cpz, Sz⟩ : PgO)]).flatMap bO)))⟩) (Wk.as_ rfl rfl ⟨lk, lk, lk, lk, lk, trivial⟩) rfl ?_
      refine AD.done (by kernel_rfl) ?_
      refine CD.region ?_
      refine os_ bn_ ?_
      refine os_ mv_ ?_
      refine nm_ [2, 3, 13, 14, 15] ?_
      refine ⟨((i + 1), (L ++ [(⟨(t.pages[i]'hlt), ady, cpy, Sy, adz, cpz, Sz⟩ : PgO)]), (some ⟨b47, 0, none⟩), cp47, [⟨b47, 44, cp47 * 5, List.flatMap gO (L ++ [(⟨(t.pages[i]'hlt), ady, cpy, Sy, adz, cpz, Sz⟩ : PgO)])⟩]), ⟨51, [(2, .v (.pointer (some ⟨b2, 0, none⟩))), (3, .v (.pointer (some ⟨b3, 0, none⟩))), (13, .list 5 (t.pages.flatMap cP) t.pages.length), (14, .v (.int .i64 (t.pages.length : Nat))), (15, .v (.int .i64 (((i + 1)) : Nat)))], (⟨b3, 26, 2, [.v (.slice ((some ⟨b47, 0, none⟩)) ((L ++ [(⟨(t.pages[i]'hlt), ady, cpy, Sy, adz, cpz, Sz⟩ : PgO)])).length cp47), .v (.int .i64 t.root)]⟩ :: ⟨b2, 26, 2, [.v (.slice none 0 0), .v (.int .i64 0)]⟩ :: (([⟨b47, 44, cp47 * 5, List.flatMap gO (L ++ [(⟨(t.pages[i]'hlt), ady, cpy, Sy, adz, cpz, Sz⟩ : PgO)])⟩]) ++ ((L ++ [(⟨(t.pages[i]'hlt), ady, cpy, Sy, adz, cpz, Sz⟩ : PgO)])).flatMap bO))⟩, ?_, Wk.asS (n := 51) rfl (by repeat (first | exact List.Sublist.refl _ | apply List.Sublist.cons_cons | apply List.Sublist.cons)) ⟨lq_, lq_, lq_, lq_, lq_, trivial⟩, (by omega), hL2, hok2, (ownL_row h147 h247), rfl⟩
      first | omega | (simp only []; omega)
 ·have hc0' := hc0
  (try simp only [V.cnd, ne_eq] at hc0')
  refine CD.exit ?_
  refine sr_ ?_
  refine os_ (lab_ 0 [_, _]) ?_
  refine OD.store (k := 1) (cs' := [_, _]) (wants_plain rfl) rfl rfl ot rfl rfl ot rfl rfl Try.sizeOf26 rfl rfl rfl ?_
  refine OD.wk (Wk.as_ (n := 51) (l' := [(2, _)]) (S' := (⟨b3, 26, 2, [_, _]⟩ :: ⟨b2, 26, 2, [_, _]⟩ :: (Sx ++ (L.flatMap bO)))) rfl rfl ⟨lk, trivial⟩) ?_
  refine OD.nil ?_
  refine CD.ret ?_
  refine ⟨.inr rfl, _, (Sx ++ L.flatMap bO), (by repeat (first | exact List.Sublist.refl _ | apply List.Sublist.cons)), ret_one Try.results24 (res_cells (k := 1) (ds := [_, _]) (Nat.le_of_ble_eq_true rfl) lk rfl rfl Try.isAgg26 Try.sizeOf26 rfl rfl), ?_⟩
  exact ⟨L, adx, cpx, Sx, rfl, hox, hok, by rw [hL, List.take_of_length_le (by omega)], rfl⟩

end Go.Proofs.Ythnobhekodiciaa.Tw

namespace Go.Proofs.Ythnobhekodiciaa.Tw
open Go.RowKit V Go.Proofs.Ythnobhekodiciaa.Tr Pk
set_option linter.unusedVariables false
set_option linter.unusedSimpArgs false

open Go.Lib (compareBytes)
/-- What a checker has met may be. -/
structure MetOk (t : TreeL) (s : Met) : Prop where
  nd : s.1.Nodup
  rg : ∀ x ∈ s.1, 0 ≤ x ∧ x < t.pages.length
  few : s.2.length ≤ s.1.length
  each : ∀ l ∈ s.2, l.length ≤ s.1.length
  el : ∀ l ∈ s.2, ∀ x ∈ l, 0 ≤ x ∧ x < t.pages.length
theorem nodup_le {n : Nat} {l : List Int} (h : l.Nodup) (hr : ∀ x ∈ l, 0 ≤ x ∧ x < n) : l.length ≤ n := by
 induction n generalizing l with
 | zero =>
  cases l with
  | nil => simp
  | cons a l => have := hr a List.mem_cons_self; omega
 | succ n ih =>
  have h1 := ih (l := l.erase (n : Int)) (h.erase _) fun x hx => by
   have h2 := (h.mem_erase_iff).1 hx
   have h3 := hr x h2.2
   have := h2.1
   omega
  rw [List.length_erase] at h1
  split at h1 <;> omega
theorem MetOk.most {t : TreeL} {s : Met} (h : MetOk t s) : s.1.length ≤ t.pages.length := nodup_le h.nd h.rg
theorem addL_each {lv : List (List Int)} {level : Nat} {i : Int} {n : Nat} (h : ∀ l ∈ lv, l.length ≤ n) : ∀ l ∈ addL lv level i, l.length ≤ n + 1 := fun l hl => by
 obtain ⟨j, hj, rfl⟩ := List.mem_iff_getElem.1 hl
 have e : (addL lv level i)[j] = (addL lv level i).getD j [] := by rw [List.getD_eq_getElem?_getD, List.getElem?_eq_getElem hj]; rfl
 rw [e, addL_at, List.length_append]
 have h1 : (lv.getD j []).length ≤ n := by
  rw [List.getD_eq_getElem?_getD]
  rcases Nat.lt_or_ge j lv.length with q | q
  ·rw [List.getElem?_eq_getElem q]; exact h _ (List.getElem_mem q)
  ·rw [List.getElem?_eq_none q]; simp
 split
 ·simp only [List.length_cons, List.length_nil]; omega
 ·simp only [List.length_nil]; omega
theorem addL_el {lv : List (List Int)} {level : Nat} {i : Int} {Q : Int → Prop} (h : ∀ l ∈ lv, ∀ x ∈ l, Q x) (hi : Q i) : ∀ l ∈ addL lv level i, ∀ x ∈ l, Q x := fun l hl x hx => by
 obtain ⟨j, hj, rfl⟩ := List.mem_iff_getElem.1 hl
 have e : (addL lv level i)[j] = (addL lv level i).getD j [] := by rw [List.getD_eq_getElem?_getD, List.getElem?_eq_getElem hj]; rfl
 rw [e, addL_at, List.mem_append] at hx
 rcases hx with hx | hx
 ·rw [List.getD_eq_getElem?_getD] at hx
  rcases Nat.lt_or_ge j lv.length with q | q
  ·rw [List.getElem?_eq_getElem q] at hx; exact h _ (List.getElem_mem q) x hx
  ·rw [List.getElem?_eq_none q] at hx; cases hx
 ·split at hx
  ·rw [List.mem_singleton] at hx; subst hx; exact hi
  ·cases hx
theorem MetOk.add {t : TreeL} {s : Met} (h : MetOk t s) {i : Int} (hi : 0 ≤ i ∧ i < t.pages.length) (hn : i ∉ s.1) {level : Nat} (hl : level ≤ s.1.length) : MetOk t (s.1 ++ [i], addL s.2 level i) := by
 refine ⟨?_, fun x hx => ?_, ?_, ?_, addL_el h.el hi⟩
 ·exact List.nodup_append.2 ⟨h.nd, by simp, fun a ha b hb e => by rw [List.mem_singleton] at hb; subst hb; subst e; exact hn ha⟩
 ·rcases List.mem_append.1 hx with hx | hx
  ·exact h.rg x hx
  ·rw [List.mem_singleton] at hx; subst hx; exact hi
 ·show (addL s.2 level i).length ≤ (s.1 ++ [i]).length
  rw [addL_len, List.length_append]; have := h.few; simp; omega
 ·show ∀ l ∈ addL s.2 level i, l.length ≤ (s.1 ++ [i]).length
  rw [List.length_append]; exact addL_each h.each
theorem kids_met {t : TreeL} {go : Int → K → K → Met → Option (Nat × Met)} {low : K} {p : PgL} {n : Nat} (hgo : ∀ (c : Int) lo hi s d s', (0 ≤ c ∧ c < t.pages.length) → MetOk t s → n ≤ s.1.length → go c lo hi s = some (d, s') → MetOk t s' ∧ s.1.length ≤ s'.1.length) :
  ∀ (cs : List Int) (k : Nat) (deep : Option Nat) (s : Met) (d : Nat) (s' : Met), (∀ c ∈ cs, 0 ≤ c ∧ c < t.pages.length) → MetOk t s → n ≤ s.1.length → kidsF go low p cs k deep s = some (d, s') → MetOk t s' ∧ s.1.length ≤ s'.1.length
 | [], k, deep, s, d, s', _, hs, _, h => by
  rw [kidsF] at h
  cases deep with
  | none => cases h
  | some e => simp at h; rw [← h.2]; exact ⟨hs, Nat.le_refl _⟩
 | c :: cs, k, deep, s, d, s', hc, hs, hn, h => by
  rw [kidsF] at h
  cases hg : go c (loK low p k) (hiK p k) s with
  | none => rw [hg] at h; cases h
  | some q =>
   obtain ⟨d1, s1⟩ := q
   rw [hg] at h
   obtain ⟨h1, h2⟩ := hgo _ _ _ _ _ _ (hc c List.mem_cons_self) hs hn hg
   change (if deep = none ∨ deep = some d1 then kidsF go low p cs (k + 1) (some d1) s1 else none) = _ at h
   split at h
   ·obtain ⟨h3, h4⟩ := kids_met hgo cs _ _ _ _ _ (fun c hc' => hc c (List.mem_cons_of_mem _ hc')) h1 (by omega) h
    exact ⟨h3, by omega⟩
   ·cases h
theorem kid_range {t : TreeL} {p : PgL} (hp : PageOk p t.pages.length) (hl : p.leaf = false) : ∀ c ∈ p.kids, 0 ≤ c ∧ c < t.pages.length := fun c hc => ⟨hp.kid c hc, hp.kidn hl c hc⟩
theorem wlk_met {t : TreeL} (hp : PagesOk t) : ∀ (f : Nat) (i : Int) (lo hi : K) (level : Nat) (s : Met) (d : Nat) (s' : Met), (0 ≤ i ∧ i < t.pages.length) → MetOk t s → level ≤ s.1.length → wlkF t f i lo hi level s = some (d, s') → MetOk t s' ∧ s.1.length ≤ s'.1.length
 | 0, i, lo, hi, level, s, d, s', _, _, _, h => by rw [wlkF] at h; cases h
 | f + 1, i, lo, hi, level, s, d, s', hr, hs, hl, h => by
  rw [wlkF] at h
  split at h
  ·cases h
  ·rename_i hn
   split at h
   ·cases h
   ·have ha := hs.add hr hn hl
    have hlen : s.1.length + 1 = (s.1 ++ [i]).length := by simp
    split at h
    ·simp at h; rw [← h.2]; exact ⟨ha, by show s.1.length ≤ (s.1 ++ [i]).length; omega⟩
    ·rename_i hlf
     have hlf : (t.pg i).leaf = false := by simpa using hlf
     obtain ⟨h1, h2⟩ := kids_met (n := level + 1) (fun c lo hi s d s' hc hs hn h => wlk_met hp f c lo hi (level + 1) s d s' hc hs hn h) _ _ _ _ _ _ (kid_range (hp _ (pg_mem hr)) hlf) ha (by show level + 1 ≤ (s.1 ++ [i]).length; omega) h
     have h3 : (s.1 ++ [i]).length ≤ s'.1.length := h2
     exact ⟨h1, by omega⟩
/-- A level of one's own. -/
structure LvO where
  l : List Int
  ad : Option Addr
  cp : Nat
  s : List Blk
def gV (o : LvO) : List D := [.v (.slice o.ad o.l.length o.cp)]
theorem gV_len (o : LvO) : (gV o).length = 1 := rfl
theorem gV_one (o : LvO) : (gV o).all V.one = true := rfl
def okV (o : LvO) : Prop := OwnI o.l o.ad o.cp o.s
def nilV : LvO := ⟨[], none, 0, []⟩
theorem okV_nil : okV nilV := .inl ⟨rfl, rfl, rfl, rfl, rfl⟩
abbrev OwnV (L : List LvO) (ad : Option Addr) (cap : Nat) (S : List Blk) : Prop := OwnL 22 1 (L.flatMap gV) L.length ad cap S
def chkB (t : TreeL) (b bm : Nat) (n : Nat) (ad : Option Addr) (cap : Nat) : Blk := ⟨b, 75, 4, [.list 5 (t.pages.flatMap cP) t.pages.length, .v (.int .i64 t.root), .v (.map (some bm)), .v (.slice ad n cap)]⟩
def SW (t : TreeL) (b bm : Nat) (m : List Int) (L : List LvO) (ad : Option Addr) (cap : Nat) (Sx : List Blk) : List Blk := chkB t b bm L.length ad cap :: setB bm m :: (Sx ++ L.flatMap LvO.s)
/-- What a walk gives. -/
def RetW (t : TreeL) (b bm : Nat) : Option (Nat × Met) → D → List Blk → Prop
  | none, r, S => r = .v (.int .i64 (-1)) ∧ S = []
  | some (d, s), r, S => r = .v (.int .i64 (d : Nat)) ∧ ∃ L ad cap Sx, OwnV L ad cap Sx ∧ (∀ o ∈ L, okV o) ∧ L.map LvO.l = s.2 ∧ S = SW t b bm s.1 L ad cap Sx
theorem perm_at {α : Type} (g : α → List Blk) : ∀ {L : List α} {j : Nat} (h : j < L.length), (L.flatMap g).Perm (g L[j] ++ (L.eraseIdx j).flatMap g)
 | a :: L, 0, _ => by simp
 | a :: L, j + 1, h => by
  have ih := perm_at g (L := L) (j := j) (by simpa using h)
  simp only [List.flatMap_cons, List.getElem_cons_succ, List.eraseIdx_cons_succ]
  refine (ih.append_left (g a)).trans ?_
  rw [← List.append_assoc, ← List.append_assoc]
  exact List.perm_append_comm.append_right _
theorem perm_put {α : Type} (g : α → List Blk) {L : List α} {j : Nat} (h : j < L.length) (a : α) : ((L.set j a).flatMap g).Perm (g a ++ (L.eraseIdx j).flatMap g) := by
 have := perm_at g (L := L.set j a) (j := j) (by rw [List.length_set]; exact h)
 rw [List.getElem_set_self, List.eraseIdx_set_eq] at this
 exact this
def deepI : Option Nat → Int
 | none => -2
 | some d => d
variable {G : List (Nat × List Value)}

theorem wlk_in {t : TreeL} {f level : Nat} {i : Int} {low high : K} {s : Met} (h : i ∈ s.1) : wlkF t (f + 1) i low high level s = none := by rw [wlkF, if_pos h]
theorem wlk_bad {t : TreeL} {f level : Nat} {i : Int} {low high : K} {s : Met} (h : ((t.pg i).high ≠ high ∨ ∃ k, (t.pg i).keys.head? = some k ∧ klt k low)) : wlkF t (f + 1) i low high level s = none := by
 rw [wlkF]; by_cases hi : i ∈ s.1
 ·rw [if_pos hi]
 ·rw [if_neg hi, if_pos h]
theorem wlk_leaf {t : TreeL} {f level : Nat} {i : Int} {low high : K} {s : Met} (h : i ∉ s.1) (h2 : ¬ ((t.pg i).high ≠ high ∨ ∃ k, (t.pg i).keys.head? = some k ∧ klt k low)) (h3 : (t.pg i).leaf = true) : wlkF t (f + 1) i low high level s = some (level, (s.1 ++ [i], addL s.2 level i)) := by rw [wlkF, if_neg h, if_neg h2, if_pos h3]
theorem wlk_node {t : TreeL} {f level : Nat} {i : Int} {low high : K} {s : Met} (h : i ∉ s.1) (h2 : ¬ ((t.pg i).high ≠ high ∨ ∃ k, (t.pg i).keys.head? = some k ∧ klt k low)) (h3 : (t.pg i).leaf = false) : wlkF t (f + 1) i low high level s = kidsF (fun c lo hi s => wlkF t f c lo hi (level + 1) s) low (t.pg i) (t.pg i).kids 0 none (s.1 ++ [i], addL s.2 level i) := by rw [wlkF, if_neg h, if_neg h2, if_neg (by rw [h3]; decide)]
section
variable {go : Int → K → K → Met → Option (Nat × Met)} {low : K} {p : PgL} {k : Nat} {deep : Option Nat} {s s' : Met} {d : Nat}
theorem kids_none (hk : k < p.kids.length) (h : go p.kids[k] (loK low p k) (hiK p k) s = none) : kidsF go low p (p.kids.drop k) k deep s = none := by rw [List.drop_eq_getElem_cons hk, kidsF, h]
theorem kids_some (hk : k < p.kids.length) (h : go p.kids[k] (loK low p k) (hiK p k) s = some (d, s')) (hd : deep = none ∨ deep = some d) : kidsF go low p (p.kids.drop k) k deep s = kidsF go low p (p.kids.drop (k + 1)) (k + 1) (some d) s' := by
 rw [List.drop_eq_getElem_cons hk, kidsF, h]
 show (if deep = none ∨ deep = some d then _ else _) = _
 rw [if_pos hd]
theorem kids_not (hk : k < p.kids.length) (h : go p.kids[k] (loK low p k) (hiK p k) s = some (d, s')) (hd : ¬ (deep = none ∨ deep = some d)) : kidsF go low p (p.kids.drop k) k deep s = none := by
 rw [List.drop_eq_getElem_cons hk, kidsF, h]
 show (if deep = none ∨ deep = some d then _ else _) = _
 rw [if_neg hd]
theorem kids_end (hk : p.kids.length ≤ k) : kidsF go low p (p.kids.drop k) k deep s = deep.map fun d => (d, s) := by rw [List.drop_of_length_le hk, kidsF]
end
theorem nilV_snoc {L : List LvO} : (L ++ [nilV]).flatMap LvO.s = L.flatMap LvO.s := by simp [nilV]
theorem pad_map {L L1 : List LvO} {level : Nat} (h : L1.map LvO.l = L.map LvO.l ++ List.replicate (L1.length - L.length) []) (h1 : L.length ≤ L1.length) (h2 : L1.length ≤ max L.length (level + 1)) (h3 : level < L1.length) : L1.map LvO.l = padL (L.map LvO.l) (level + 1) := by
 rw [h]; unfold padL
 rw [List.length_map, show L1.length - L.length = level + 1 - L.length from by omega]
theorem add_map {L L1 : List LvO} {level : Nat} {i : Int} {o : LvO} (h : L1.map LvO.l = padL (L.map LvO.l) (level + 1)) (h3 : level < L1.length) (ho : o.l = L1[level].l ++ [i]) : (L1.set level o).map LvO.l = addL (L.map LvO.l) level i := by
 rw [List.map_set, ho]; unfold addL
 rw [← h, List.getD_eq_getElem?_getD, List.getElem?_eq_getElem (by rw [List.length_map]; exact h3), List.getElem_map]; rfl
theorem set_okV {L : List LvO} {j : Nat} {o : LvO} (h : ∀ o ∈ L, okV o) (ho : okV o) : ∀ x ∈ L.set j o, okV x := fun x hx => by
 rcases List.mem_or_eq_of_mem_set hx with hx | rfl
 ·exact h x hx
 ·exact ho
theorem deepI_ne {deep : Option Nat} {d : Nat} (h : deepI deep ≠ -2) (h2 : (d : Int) = deepI deep) : deep = some d := by
 cases deep with
 | none => exact absurd rfl h
 | some e => unfold deepI at h2; simp only at h2; rw [show d = e from by omega]
theorem deepI_no {deep : Option Nat} {d : Nat} (h : deepI deep ≠ -2) (h2 : ¬ (d : Int) = deepI deep) : ¬ (deep = none ∨ deep = some d) := by
 rintro (rfl | rfl)
 ·exact h rfl
 ·exact h2 rfl
theorem deepI_nil {deep : Option Nat} (h : deepI deep = -2) : deep = none := by
 cases deep with
 | none => rfl
 | some e => unfold deepI at h; simp only at h; omega
def WalkC (G : List (Nat × List Value)) (t : TreeL) (b bm f : Nat) : Prop := ∀ (i : Int) (low high : K) (level : Nat) (m : List Int) (L : List LvO) (ad : Option Addr) (cap : Nat) (Sx : List Blk), (0 ≤ i ∧ i < t.pages.length) → MetOk t (m, (L.map LvO.l)) → level ≤ m.length → t.pages.length + 1 ≤ f + m.length → high.length ≤ 100 → OwnV L ad cap Sx → (∀ o ∈ L, okV o) →
 VC Try.prog G 34 [.v (.pointer (some ⟨b, 0, none⟩)), .v (.int .i64 i), .list 1 (low.flatMap cB) low.length, .list 1 (high.flatMap cB) high.length, .v (.int .i64 (level : Nat))] (SW t b bm m L ad cap Sx) (RetW t b bm (wlkF t f i low high level (m, (L.map LvO.l))))

theorem info3_Tw9 : (Try.prog.info? 3).map (fun i => (i.zero, i.size, i.bytes)) = some (some (.int .i64 0), 1, 8) := by kernel_rfl

theorem info22_Tw9 : (Try.prog.info? 22).map (fun i => (i.zero, i.size, i.bytes)) = some (some (.slice none 0 0), 1, 24) := by kernel_rfl

theorem places90_Tw9 : ∀ w, ((#[] : Array Field).mapM fun f => do pure (f.offset, ← sizeOf f.type) : Sem (Array (Nat × Nat))).run Try.prog w = .ok #[] w := fun w => by simp []

set_option maxHeartbeats 4000000 in
set_option maxRecDepth 100000 in
theorem walk_step (t : TreeL) (hp : PagesOk t) (hmax : t.pages.length ≤ 4000) (b bm f : Nat) (ih : WalkC G t b bm f) (i : Int) (low high : K) (level : Nat) (m : List Int) (L : List LvO) (ad : Option Addr) (cap : Nat) (Sx : List Blk) (hr : 0 ≤ i ∧ i < t.pages.length) (hmet : MetOk t (m, (L.map LvO.l))) (hlm : level ≤ m.length) (hfu : t.pages.length + 1 ≤ (f + 1) + m.length) (hhg : high.length ≤ 100) (hov : OwnV L ad cap Sx) (hok : ∀ o ∈ L, okV o) :
 VC Try.prog G 34 [.v (.pointer (some ⟨b, 0, none⟩)), .v (.int .i64 i), .list 1 (low.flatMap cB) low.length, .list 1 (high.flatMap cB) high.length, .v (.int .i64 (level : Nat))] (SW t b bm m L ad cap Sx) (RetW t b bm (wlkF t (f + 1) i low high level (m, (L.map LvO.l)))) := by
 refine VC.body Try.func34 rfl Try.ntmps34 (Nat.le_of_ble_eq_true rfl) fun X0 w0 S00 => ?_
 unfold SW chkB
 have hmx : maxLen = 9223372036854775807 := rfl
 have hlt : i.toNat < t.pages.length := by omega
 have hpg : t.pg i = (t.pages[i.toNat]'hlt) := pg_at hr
 have po : PageOk (t.pages[i.toNat]'hlt) t.pages.length := hp _ (List.getElem_mem hlt)
 have hhl := po.hlen
 have hmm := hmet.most
 have hm1 : m.length ≤ t.pages.length := hmm
 refine sr_ ?_
 refine os_ mv_ ?_
 refine nm_ [0, 1, 2, 3, 4] ?_
 refine CD.seq ?_
 refine sr_ ?_
 refine os_ mv_ ?_
 refine os_ nc_ ?_
 refine os_ (fa_ 2) ?_
 refine os_ (lb_ 0) ?_
 refine os_ mv_ ?_
 refine OD.still (wants_plain rfl) rfl (still_has (i := 1) rfl ot ot rfl Try.underlying72 Try.underlying3 Try.zeroValue90) ?_
 refine os_ mv_ ?_
 refine os_ ex_ ?_
 refine os_ ex_ ?_
 refine OD.alloc (ds := []) (wants_plain rfl) rfl rfl Try.zeroValue90 rfl (fun b11 => ?_)
 refine OD.store (k := 0) (cs' := []) (wants_plain rfl) rfl rfl ot rfl rfl ot rfl rfl Try.sizeOf90 rfl rfl rfl ?_
 refine os_ mv_ ?_
 refine OD.wk (Wk.as_ (n := 148) (l' := [(0, _), (1, _), (2, _), (3, _), (4, _), (12, _)]) (S' := (⟨b11, 90, 0, []⟩ :: ⟨b, 75, 4, [_, _, _, _]⟩ :: _ :: (Sx ++ L.flatMap LvO.s))) rfl rfl ⟨lk, lk, lk, lk, lk, lk, trivial⟩) ?_
 refine OD.nil ?_
 refine sr_ ?_
 refine os_ mv_ ?_
 refine nm_ [0, 1, 2, 3, 4, 29] ?_
 refine CD.cond ot (fun hc0 => ?_) (fun hc0 => ?_)
 ·have hc0' := hc0
  (try simp only [V.cnd, ne_eq] at hc0')
  have hin : i ∈ m := by simpa using hc0
  refine sr_ ?_
  refine os_ mv_ ?_
  refine nm_ [10] ?_
  refine CD.ret ?_
  refine ⟨.inr rfl, _, [], List.nil_sublist _, ret_one Try.results34 (res_tmp (Nat.le_of_ble_eq_true rfl) lk), ?_⟩
  rw [wlk_in (by exact hin)]; exact ⟨rfl, rfl⟩
 ·have hc0' := hc0
  (try simp only [V.cnd, ne_eq] at hc0')
  have hni : i ∉ m := by simpa using hc0
  refine CD.skip ?_
  refine sr_ ?_
  refine os_ mv_ ?_
  refine os_ nc_ ?_
  refine os_ (fa_ 2) ?_
  refine os_ (lb_ 1) ?_
  refine os_ mv_ ?_
  refine OD.still (wants_plain rfl) rfl (still_bld (pl := []) (ds := []) rfl Try.zeroValue90 Try.runUnderlying90 places90_Tw9 trivial rfl rfl) ?_
  refine OD.addKey (i := 2) (wants_plain rfl) rfl rfl ot ot ot rfl hni Try.underlying72 Try.underlying3 ?_
  refine OD.wk (Wk.as_ (n := 148) (l' := [(0, _), (1, _), (2, _), (3, _), (4, _)]) (S' := (⟨b11, 90, 0, []⟩ :: ⟨b, 75, 4, [_, _, _, _]⟩ :: _ :: (Sx ++ L.flatMap LvO.s))) rfl rfl ⟨lk, lk, lk, lk, lk, trivial⟩) ?_
  refine OD.nil ?_
  refine sr_ ?_
  refine os_ mv_ ?_
  refine os_ nc_ ?_
  refine os_ (fa_ 0) ?_
  refine os_ (fa_ 0) ?_
  refine os_ (lb_ 1) ?_
  refine os_ mv_ ?_
  refine os_ (ix_ 5 (h := by first | exact .l (j := i.toNat) (Int.toNat_of_nonneg hr.1).symm hlt | exact .r (j := i.toNat) (Int.toNat_of_nonneg hr.1).symm hlt)) ?_
  refine os_ (la_ [_, _, _, _, _]) ?_
  refine OD.alloc (ds := [_, _, _, _, _]) (wants_plain rfl) rfl rfl Try.zeroValue44 rfl (fun b13 => ?_)
  refine OD.store (k := 0) (cs' := [_, _, _, _, _]) (wants_plain rfl) rfl rfl ot rfl rfl ot rfl rfl Try.sizeOf44 rfl rfl rfl ?_
  refine OD.wk (Wk.as_ (n := 148) (l' := [(0, _), (1, _), (2, _), (3, _), (4, _), (13, _)]) (S' := (⟨b13, 44, 5, [_, _, _, _, _]⟩ :: ⟨b11, 90, 0, []⟩ :: ⟨b, 75, 4, [_, _, _, _]⟩ :: _ :: (Sx ++ L.flatMap LvO.s))) rfl rfl ⟨lk, lk, lk, lk, lk, lk, trivial⟩) ?_
  refine OD.nil ?_
  refine CD.cut (fun y__ => ∃ (b13 : Nat), (¬ ((t.pg i).high ≠ high ∨ ∃ k, (t.pg i).keys.head? = some k ∧ klt k low)) ∧ y__ = (⟨148, [(0, .v (.pointer (some ⟨b, 0, none⟩))), (1, .v (.int .i64 i)), (2, .list 1 (low.flatMap cB) low.length), (3, .list 1 (high.flatMap cB) high.length), (4, .v (.int .i64 (level : Nat))), (13, .v (.pointer (some ⟨b13, 0, none⟩)))], (⟨b13, 44, 5, cP (t.pages[i.toNat]'hlt)⟩ :: ⟨b, 75, 4, [.list 5 (t.pages.flatMap cP) t.pages.length, .v (.int .i64 t.root), .v (.map (some bm)), .v (.slice ad L.length cap)]⟩ :: setB bm (m ++ [i]) :: (Sx ++ L.flatMap LvO.s))⟩ : St)) ?_ ?_
  ·skip
   refine sr_ ?_
   refine os_ (fa_ 3) ?_
   refine os_ (lb_ 0) ?_
   refine os_ mv_ ?_
   refine OD.callP (wants_plain rfl) rfl rfl rfl Try.call37 (eq_vp (t.pages[i.toNat]'hlt).high high (by omega) (by omega)) ⟨ot, ot, trivial⟩ ?_
   refine os_ un_ ?_
   refine os_ mv_ ?_
   refine OD.split (t := 49) lk (fun hg49 => ?_) (fun hg49 => ?_)
   ·have hg49' := hg49; (try simp only [V.cnd, ne_eq] at hg49')
    refine sk_ ?_
    refine sk_ ?_
    refine sk_ ?_
    refine sk_ ?_
    refine sk_ ?_
    refine sj_ ?_
    refine sj_ ?_
    refine sj_ ?_
    refine sj_ ?_
    refine sj_ ?_
    refine sj_ ?_
    refine sj_ ?_
    refine sk_ ?_
    refine os_ pkT_ ?_
    refine OD.wk (Wk.as_ (n := 148) (l' := [(0, _), (1, _), (2, _), (3, _), (4, _), (13, _), (63, _)]) (S' := (⟨b13, 44, 5, [_, _, _, _, _]⟩ :: ⟨b11, 90, 0, []⟩ :: ⟨b, 75, 4, [_, _, _, _]⟩ :: _ :: (Sx ++ L.flatMap LvO.s))) rfl rfl ⟨lk, lk, lk, lk, lk, lk, lk, trivial⟩) ?_
    refine OD.nil ?_
    refine CD.condT ot (by first | rfl | assumption) ?_
    have hbad : ((t.pg i).high ≠ high ∨ ∃ k, (t.pg i).keys.head? = some k ∧ klt k low) := by rw [hpg]; first | exact .inl (by simpa using hg49) | exact .inr ⟨_, List.head?_eq_getElem? .. ▸ List.getElem?_eq_getElem (by omega), of_decide_eq_true hc1⟩
    refine sr_ ?_
    refine os_ mv_ ?_
    refine nm_ [10] ?_
    refine CD.ret ?_
    refine ⟨.inr rfl, _, [], List.nil_sublist _, ret_one Try.results34 (res_tmp (Nat.le_of_ble_eq_true rfl) lk), ?_⟩
    rw [wlk_bad hbad]; exact ⟨rfl, rfl⟩
   ·have hg49' := hg49; (try simp only [V.cnd, ne_eq] at hg49')
    refine os_ (fa_ 1) ?_
    refine os_ (lb_ 0) ?_
    refine os_ ln_ ?_
    refine os_ bn_ ?_
    refine os_ mv_ ?_
    refine OD.split (t := 54) lk (fun hg54 => ?_) (fun hg54 => ?_)
    ·have hg54' := hg54; (try simp only [V.cnd, ne_eq] at hg54')
     refine os_ (fa_ 1) ?_
     refine os_ (lb_ 0) ?_
     refine OD.still (wants_T rfl rfl rfl lk (by first | rfl | assumption)) rfl (still_r2 (mk := Op.indexAddr 42) rfl ot opd_const (by first | exact ix_list (j := 0) Try.runUnderlying42 Try.sizeOf31 rfl (by first | omega | decide) | exact ix_row (j := 0) Try.runUnderlying42 Try.sizeOf31 rfl (by first | omega | decide))) ?_
     refine os_ ld_ ?_
     refine os_ mv_ ?_
     refine OD.callP (wants_T rfl rfl rfl lk (by first | rfl | assumption)) rfl rfl rfl Try.call32 (cmp_vp ((t.pages[i.toNat]'hlt).keys[0]'(by omega)) low) ⟨ot, ot, trivial⟩ ?_
     refine os_ bn_ ?_
     refine os_ pkT_ ?_
     refine os_ pkF_ ?_
     refine OD.wk (Wk.as_ (n := 148) (l' := [(0, _), (1, _), (2, _), (3, _), (4, _), (13, _), (63, _)]) (S' := (⟨b13, 44, 5, [_, _, _, _, _]⟩ :: ⟨b11, 90, 0, []⟩ :: ⟨b, 75, 4, [_, _, _, _]⟩ :: _ :: (Sx ++ L.flatMap LvO.s))) rfl rfl ⟨lk, lk, lk, lk, lk, lk, lk, trivial⟩) ?_
     refine OD.nil ?_
     refine CD.cond ot (fun hc1 => ?_) (fun hc1 => ?_)
     ·have hc1' := hc1
      (try simp only [V.cnd, ne_eq] at hc1')
      have hbad : ((t.pg i).high ≠ high ∨ ∃ k, (t.pg i).keys.head? = some k ∧ klt k low) := by rw [hpg]; first | exact .inl (by simpa using hg49) | exact .inr ⟨_, List.head?_eq_getElem? .. ▸ List.getElem?_eq_getElem (by omega), of_decide_eq_true hc1⟩
      refine sr_ ?_
      refine os_ mv_ ?_
      refine nm_ [10] ?_
      refine CD.ret ?_
      refine ⟨.inr rfl, _, [], List.nil_sublist _, ret_one Try.results34 (res_tmp (Nat.le_of_ble_eq_true rfl) lk), ?_⟩
      rw [wlk_bad hbad]; exact ⟨rfl, rfl⟩
     ·have hc1' := hc1
      (try simp only [V.cnd, ne_eq] at hc1')
      have hgood : ¬ ((t.pg i).high ≠ high ∨ ∃ k, (t.pg i).keys.head? = some k ∧ klt k low) := by rw [hpg]; rintro (h | ⟨k, hk, hlt2⟩); exact h (by simpa using hg49); first | (rw [List.head?_eq_getElem?, List.getElem?_eq_none (by omega)] at hk; cases hk; done) | (rw [List.head?_eq_getElem?, List.getElem?_eq_getElem (by omega)] at hk; cases hk; exact of_decide_eq_false hc1 hlt2)
      refine CD.skip ?_
      refine ⟨(⟨148, [(0, .v (.pointer (some ⟨b, 0, none⟩))), (1, .v (.int .i64 i)), (2, .list 1 (low.flatMap cB) low.length), (3, .list 1 (high.flatMap cB) high.length), (4, .v (.int .i64 (level : Nat))), (13, .v (.pointer (some ⟨(b13), 0, none⟩)))], (⟨(b13), 44, 5, cP (t.pages[i.toNat]'hlt)⟩ :: ⟨b, 75, 4, [.list 5 (t.pages.flatMap cP) t.pages.length, .v (.int .i64 t.root), .v (.map (some bm)), .v (.slice ad L.length cap)]⟩ :: setB bm (m ++ [i]) :: (Sx ++ L.flatMap LvO.s))⟩ : St), Wk.asS (n := 148) rfl (by repeat (first | exact List.Sublist.refl _ | apply List.Sublist.cons_cons | apply List.Sublist.cons)) ⟨lq_, lq_, lq_, lq_, lq_, lq_, trivial⟩, b13, hgood, rfl⟩
    ·have hg54' := hg54; (try simp only [V.cnd, ne_eq] at hg54')
     refine sk_ ?_
     refine sk_ ?_
     refine sk_ ?_
     refine sk_ ?_
     refine sk_ ?_
     refine sk_ ?_
     refine sk_ ?_
     refine os_ pkF_ ?_
     refine os_ pkF_ ?_
     refine OD.wk (Wk.as_ (n := 148) (l' := [(0, _), (1, _), (2, _), (3, _), (4, _), (13, _), (63, _)]) (S' := (⟨b13, 44, 5, [_, _, _, _, _]⟩ :: ⟨b11, 90, 0, []⟩ :: ⟨b, 75, 4, [_, _, _, _]⟩ :: _ :: (Sx ++ L.flatMap LvO.s))) rfl rfl ⟨lk, lk, lk, lk, lk, lk, lk, trivial⟩) ?_
     refine OD.nil ?_
     refine CD.condF ot (by first | rfl | assumption) ?_
     have hgood : ¬ ((t.pg i).high ≠ high ∨ ∃ k, (t.pg i).keys.head? = some k ∧ klt k low) := by rw [hpg]; rintro (h | ⟨k, hk, hlt2⟩); exact h (by simpa using hg49); first | (rw [List.head?_eq_getElem?, List.getElem?_eq_none (by omega)] at hk; cases hk; done) | (rw [List.head?_eq_getElem?, List.getElem?_eq_getElem (by omega)] at hk; cases hk; exact of_decide_eq_false hc1 hlt2)
     refine CD.skip ?_
     refine ⟨(⟨148, [(0, .v (.pointer (some ⟨b, 0, none⟩))), (1, .v (.int .i64 i)), (2, .list 1 (low.flatMap cB) low.length), (3, .list 1 (high.flatMap cB) high.length), (4, .v (.int .i64 (level : Nat))), (13, .v (.pointer (some ⟨(b13), 0, none⟩)))], (⟨(b13), 44, 5, cP (t.pages[i.toNat]'hlt)⟩ :: ⟨b, 75, 4, [.list 5 (t.pages.flatMap cP) t.pages.length, .v (.int .i64 t.root), .v (.map (some bm)), .v (.slice ad L.length cap)]⟩ :: setB bm (m ++ [i]) :: (Sx ++ L.flatMap LvO.s))⟩ : St), Wk.asS (n := 148) rfl (by repeat (first | exact List.Sublist.refl _ | apply List.Sublist.cons_cons | apply List.Sublist.cons)) ⟨lq_, lq_, lq_, lq_, lq_, lq_, trivial⟩, b13, hgood, rfl⟩
  rintro _ ⟨b13, hgood, rfl⟩
  refine CD.seq ?_
  refine CD.block ?_
  refine CD.wk (Wk.asS (n := 148) (l' := [(0, .v (.pointer (some ⟨b, 0, none⟩))), (1, .v (.int .i64 i)), (2, .list 1 (low.flatMap cB) low.length), (3, .list 1 (high.flatMap cB) high.length), (4, .v (.int .i64 (level : Nat))), (13, .v (.pointer (some ⟨b13, 0, none⟩)))]) (S' := (⟨b13, 44, 5, cP (t.pages[i.toNat]'hlt)⟩ :: ⟨b, 75, 4, [.list 5 (t.pages.flatMap cP) t.pages.length, .v (.int .i64 t.root), .v (.map (some bm)), .v (.slice ad L.length cap)]⟩ :: setB bm (m ++ [i]) :: (Sx ++ L.flatMap LvO.s))) rfl (by repeat (first | exact List.Sublist.refl _ | apply List.Sublist.cons_cons | apply List.Sublist.cons)) ⟨lq_, lq_, lq_, lq_, lq_, lq_, trivial⟩) (CD.loop (fun (gh__ : List LvO × Option Addr × Nat × List Blk) y__ => match gh__ with | (L1, ad1, cap1, Sx1) => (OwnV L1 ad1 cap1 Sx1) ∧ (∀ o ∈ L1, okV o) ∧ (L1.map LvO.l = L.map LvO.l ++ List.replicate (L1.length - L.length) []) ∧ (L.length ≤ L1.length) ∧ (L1.length ≤ max L.length (level + 1)) ∧ y__ = (⟨148, [(0, .v (.pointer (some ⟨b, 0, none⟩))), (1, .v (.int .i64 i)), (2, .list 1 (low.flatMap cB) low.length), (3, .list 1 (high.flatMap cB) high.length), (4, .v (.int .i64 (level : Nat))), (13, .v (.pointer (some ⟨b13, 0, none⟩)))], (⟨b13, 44, 5, cP (t.pages[i.toNat]'hlt)⟩ :: ⟨b, 75, 4, [.list 5 (t.pages.flatMap cP) t.pages.length, .v (.int .i64 t.root), .v (.map (some bm)), .v (.slice ad1 L1.length cap1)]⟩ :: setB bm (m ++ [i]) :: (Sx1 ++ L1.flatMap LvO.s))⟩ : St)) (fun (gh__ : List LvO × Option Addr × Nat × List Blk) => match gh__ with | (L1, ad1, cap1, Sx1) => level + 1 - L1.length) (L, ad, cap, Sx) ⟨hov, hok, (by simp), (Nat.le_refl _), (by omega), rfl⟩ ?_)
  rintro ⟨L1, ad1, cap1, Sx1⟩ _ ⟨hov1, hok1, hmp1, hle1, hle2, rfl⟩
  refine CD.seq ?_
  refine sr_ ?_
  refine os_ mv_ ?_
  refine os_ nc_ ?_
  refine os_ (fa_ 3) ?_
  refine os_ (lb_ 1) ?_
  refine os_ ln_ ?_
  refine os_ mv_ ?_
  refine os_ bn_ ?_
  refine nm_ [0, 1, 2, 3, 4, 13, 70] ?_
  refine CD.cond ot (fun hc2 => ?_) (fun hc2 => ?_)
  ·have hc2' := hc2
   (try simp only [V.cnd, ne_eq] at hc2')
   have hfew := hmet.few
   have hfew : L.length ≤ m.length := by simpa using hfew
   have hlv : L1.length ≤ level := by omega
   refine CD.skip ?_
   refine CD.block ?_
   refine CD.region ?_
   refine os_ mv_ ?_
   refine os_ mv_ ?_
   refine os_ nc_ ?_
   refine os_ (fa_ 3) ?_
   refine os_ (lb_ 1) ?_
   refine OD.bldS (pl := numD 0 [_]) (zvs := [.slice none 0 0]) (ds := [_]) (wants_plain rfl) rfl rfl Try.zeroValue22 Try.runUnderlying73 Try.sizeOf22 rfl rfl (by kernel_rfl) ⟨rfl, opd_const, trivial⟩ (by exact rfl) (fill_full (by exact rfl) (by exact rfl) (by exact rfl)) (fun b76 => ?_)
   refine OD.give (k := 0) (t := 76) (sz := 1) (m := 1) rfl lk rfl rfl rfl (Nat.le_refl _) (by decide) ?_
   refine OD.appendG (ls := L1) (new := [nilV]) (Sq := Sx1) gV_len gV_one (wants_plain rfl) rfl rfl Try.underlying73 info22_Tw9 rfl (by decide) ot hov1 (perm_r12 (A := [_, _, _])) ot (by simp) (by simp only [maxLen, List.length_append, List.length_cons, List.length_nil] at *; omega) (by simp only [maxLen, List.length_append, List.length_cons, List.length_nil] at *; omega) (fun b77 cp77 h177 h277 => ?_)
   refine OD.perm (perm_q12 (S1 := [⟨b77, 22, cp77 * 1, List.flatMap gV (L1 ++ [nilV])⟩]) (A := [_, _, _])) ?_
   rw [← nilV_snoc (L := L1)]
   refine os_ nc_ ?_
   refine os_ (fa_ 3) ?_
   refine OD.store (k := 1) (cs' := [_, _, _, _]) (wants_plain rfl) rfl rfl ot rfl rfl ot rfl rfl Try.sizeOf73 rfl rfl rfl ?_
   refine OD.wk (Wk.as_ (n := 148) (l' := [(0, _), (1, _), (2, _), (3, _), (4, _), (13, _)]) (S' := (⟨b13, 44, 5, [_, _, _, _, _]⟩ :: ⟨b, 75, 4, [_, _, _, _]⟩ :: _ :: ([⟨b77, 22, cp77 * 1, List.flatMap gV (L1 ++ [nilV])⟩] ++ ((L1 ++ [nilV]).flatMap LvO.s)))) rfl rfl ⟨lk, lk, lk, lk, lk, lk, trivial⟩) ?_
   refine OD.nil ?_
   refine ⟨((L1 ++ [nilV]), (some ⟨b77, 0, none⟩), cp77, [⟨b77, 22, cp77 * 1, List.flatMap gV (L1 ++ [nilV])⟩]), ⟨148, [(0, .v (.pointer (some ⟨b, 0, none⟩))), (1, .v (.int .i64 i)), (2, .list 1 (low.flatMap cB) low.length), (3, .list 1 (high.flatMap cB) high.length), (4, .v (.int .i64 (level : Nat))), (13, .v (.pointer (some ⟨b13, 0, none⟩)))], (⟨b13, 44, 5, cP (t.pages[i.toNat]'hlt)⟩ :: ⟨b, 75, 4, [.list 5 (t.pages.flatMap cP) t.pages.length, .v (.int .i64 t.root), .v (.map (some bm)), .v (.slice ((some ⟨b77, 0, none⟩)) ((L1 ++ [nilV])).length cp77)]⟩ :: setB bm (m ++ [i]) :: (([⟨b77, 22, cp77 * 1, List.flatMap gV (L1 ++ [nilV])⟩]) ++ ((L1 ++ [nilV])).flatMap LvO.s))⟩, ?_, Wk.asS (n := 148) rfl (by repeat (first | exact List.Sublist.refl _ | apply List.Sublist.cons_cons | apply List.Sublist.cons)) ⟨lq_, lq_, lq_, lq_, lq_, lq_, trivial⟩, (ownL_row h177 h277), (fun o ho => by rcases List.mem_append.1 ho with ho | ho; exact hok1 o ho; rw [List.mem_singleton] at ho; subst ho; exact okV_nil), (by rw [List.map_append, hmp1, List.append_assoc, List.length_append, show [nilV].length = 1 from rfl, show L1.length + 1 - L.length = L1.length - L.length + 1 from by omega, List.replicate_succ']; rfl), (by rw [List.length_append]; omega), (by rw [List.length_append, show [nilV].length = 1 from rfl]; omega), rfl⟩
   (show level + 1 - (L1 ++ [nilV]).length < level + 1 - L1.length; rw [List.length_append, show [nilV].length = 1 from rfl]; omega)
  ·have hc2' := hc2
   (try simp only [V.cnd, ne_eq] at hc2')
   have hlv : level < L1.length := by omega
   have hmap := pad_map hmp1 hle1 hle2 hlv
   obtain ⟨bv, rfl, hlle, hlcap, rfl⟩ := hov1.pos (by omega)
   have hox : okV (L1[level]'hlv) := hok1 _ (List.getElem_mem hlv)
   have hll : (L1[level]'hlv).l.length ≤ m.length := by
      have hz : (L1[level]'hlv).l = (padL (L.map LvO.l) (level + 1)).getD level [] := by rw [← hmap, List.getD_eq_getElem?_getD, List.getElem?_eq_getElem (by rw [List.length_map]; exact hlv), List.getElem_map]; rfl
      rw [hz, padL_at, List.getD_eq_getElem?_getD]
      rcases Nat.lt_or_ge level (L.map LvO.l).length with q | q
      ·rw [List.getElem?_eq_getElem q]; exact hmet.each _ (List.getElem_mem q)
      ·rw [List.getElem?_eq_none q]; simp
   refine CD.perm (S' := ⟨b13, 44, 5, cP (t.pages[i.toNat]'hlt)⟩ :: ⟨b, 75, 4, [.list 5 (t.pages.flatMap cP) t.pages.length, .v (.int .i64 t.root), .v (.map (some bm)), .v (.slice (some ⟨bv, 0, none⟩) L1.length cap1)]⟩ :: setB bm (m ++ [i]) :: ([⟨bv, 22, cap1 * 1, List.flatMap gV L1⟩] ++ ((L1[level]'hlv).s ++ ((L1.eraseIdx level).flatMap LvO.s)))) (List.Perm.cons _ (List.Perm.cons _ (List.Perm.cons _ ((perm_at LvO.s hlv).append_left _)))) ?_
   refine CD.exit ?_
   refine CD.seq ?_
   refine CD.mono (Q := fun e__ y__ => e__ = Exit.normal ∧ ∃ (o2 : LvO), (okV o2) ∧ (o2.l = (L1[level]'hlv).l ++ [i]) ∧ Wk y__ (⟨148, [(0, .v (.pointer (some ⟨b, 0, none⟩))), (2, .list 1 (low.flatMap cB) low.length), (3, .list 1 (high.flatMap cB) high.length), (4, .v (.int .i64 (level : Nat))), (13, .v (.pointer (some ⟨b13, 0, none⟩)))], (⟨b13, 44, 5, cP (t.pages[i.toNat]'hlt)⟩ :: ⟨b, 75, 4, [.list 5 (t.pages.flatMap cP) t.pages.length, .v (.int .i64 t.root), .v (.map (some bm)), .v (.slice (some ⟨bv, 0, none⟩) (L1.set level o2).length cap1)]⟩ :: setB bm (m ++ [i]) :: ([⟨bv, 22, cap1 * 1, List.flatMap gV (L1.set level o2)⟩] ++ (L1.set level o2).flatMap LvO.s))⟩ : St)) ?_ ?_
   ·skip
    refine CD.draw (bks (List.take 3 _)) (by kernel_rfl) (fun _ h => (List.Sublist.map _ (List.take_sublist _ _)).subset h) ?_
    refine a0_ 0 rfl mv_ ?_
    refine a0_ 1 rfl nc_ ?_
    refine a0_ 2 rfl (fa_ 3) ?_
    refine a0_ 3 rfl (lb_ 1) ?_
    refine a0_ 4 rfl mv_ ?_
    refine a0_ 5 rfl mv_ ?_
    refine a0_ 6 rfl nc_ ?_
    refine a0_ 7 rfl (fa_ 3) ?_
    refine a0_ 8 rfl (lb_ 1) ?_
    refine a0_ 9 rfl mv_ ?_
    refine a0_ 10 rfl (ix_ 1) ?_
    refine a0_ 12 rfl mv_ ?_
    refine AD0.later rfl ?_
    refine AD.two (i := 11) (j := 13) (by kernel_rfl) ?_ ?_
    ·skip
     refine at_ rfl (still_r1 (mk := Op.load 22) rfl ot (ld_row0 (k := 3) (d := .v (.slice (L1[level]'hlv).ad (L1[level]'hlv).l.length (L1[level]'hlv).cp)) (i := level) gV_len rfl rfl rfl Try.isAgg22 hlv rfl)) ?_
     refine AD.one (i := 13) (by kernel_rfl) ?_
     refine AStep.bldS (pl := numD 0 [_]) (zvs := [.int .i64 0]) (ds := [_]) rfl (wants_plain rfl) rfl rfl Try.zeroValue3 Try.runUnderlying22 Try.sizeOf3 rfl rfl (by kernel_rfl) ⟨rfl, ot, trivial⟩ (by exact rfl) (fill_full (by exact rfl) (by exact rfl) (by exact rfl)) (fun b93 => ?_)
     refine AD.give (k := 0) (t := 93) (sz := 1) (m := 1) rfl lk rfl rfl rfl (Nat.le_refl _) (by decide) ?_
     refine AD.one (i := 14) (by kernel_rfl) ?_
     refine AStep.appendG (ls := (L1[level]'hlv).l) (new := [i]) (Sq := (L1[level]'hlv).s) cI_len cI_one rfl (wants_plain rfl) rfl rfl Try.underlying22 info3_Tw9 rfl (by decide) ot hox (perm_r23 (A := [_, _, _]) (S1 := [⟨bv, 22, cap1 * 1, List.flatMap gV L1⟩])) ot (by simp) (by simp only [maxLen, List.length_cons, List.length_nil] at *; omega) (by simp only [List.length_cons, List.length_nil] at *; omega) (fun b94 cp94 h194 h294 => ?_)
     refine AD.perm (perm_q23 (S2 := [⟨b94, 3, cp94 * 1, List.flatMap cI ((L1[level]'hlv).l ++ [i])⟩]) (A := [_, _, _])) ?_
     refine a1_ 15 rfl (ix_ 1) ?_
     refine AD.one (i := 16) (by kernel_rfl) ?_
     refine AStep.storeAt (k := 3) (cs' := List.flatMap gV (L1.set level (⟨(L1[level]'hlv).l ++ [i], some ⟨b94, 0, none⟩, cp94, [⟨b94, 3, cp94 * 1, List.flatMap cI ((L1[level]'hlv).l ++ [i])⟩]⟩ : LvO))) rfl (wants_plain rfl) rfl rfl ot rfl rfl ot rfl rfl Try.sizeOf22 rfl (by show 0 + level * 1 + 1 ≤ (List.flatMap gV L1).length; rw [fm_len gV_len]; omega) (by rw [Nat.zero_add]; exact fm_set gV_len L1 (⟨(L1[level]'hlv).l ++ [i], some ⟨b94, 0, none⟩, cp94, [⟨b94, 3, cp94 * 1, List.flatMap cI ((L1[level]'hlv).l ++ [i])⟩]⟩ : LvO) hlv) (by intro b hb; simp [bks, St.put] at hb ⊢; try first | exact hb | simp [hb] | (rcases hb with hb | hb <;> simp [hb]) | (rcases hb with hb | hb | hb <;> simp [hb])) ?_
     refine AD.wk (y := ⟨148, [(0, _), (2, _), (3, _), (4, _), (13, _)], (⟨b13, 44, 5, [_, _, _, _, _]⟩ :: ⟨b, 75, 4, [_, _, _, _]⟩ :: _ :: ([⟨bv, 22, cap1 * 1, List.flatMap gV (L1.set level (⟨(L1[level]'hlv).l ++ [i], some ⟨b94, 0, none⟩, cp94, [⟨b94, 3, cp94 * 1, List.flatMap cI ((L1[level]'hlv).l ++ [i])⟩]⟩ : LvO))⟩] ++ ([⟨b94, 3, cp94 * 1, List.flatMap cI ((L1[level]'hlv).l ++ [i])⟩] ++ ((L1.eraseIdx level).flatMap LvO.s))))⟩) (Wk.as_ rfl rfl ⟨lk, lk, lk, lk, lk, trivial⟩) rfl ?_
     refine AD.done (by kernel_rfl) ?_
     exact ⟨rfl, (⟨(L1[level]'hlv).l ++ [i], some ⟨b94, 0, none⟩, cp94, [⟨b94, 3, cp94 * 1, List.flatMap cI ((L1[level]'hlv).l ++ [i])⟩]⟩ : LvO), ownL_row h194 h294, rfl, by rw [List.length_set]; exact Wk.perm (List.Perm.cons _ (List.Perm.cons _ (List.Perm.cons _ ((perm_put LvO.s hlv (⟨(L1[level]'hlv).l ++ [i], some ⟨b94, 0, none⟩, cp94, [⟨b94, 3, cp94 * 1, List.flatMap cI ((L1[level]'hlv).l ++ [i])⟩]⟩ : LvO)).symm.append_left _))))⟩
    ·skip
     refine AStep.bldS (pl := numD 0 [_]) (zvs := [.int .i64 0]) (ds := [_]) rfl (wants_plain rfl) rfl rfl Try.zeroValue3 Try.runUnderlying22 Try.sizeOf3 rfl rfl (by kernel_rfl) ⟨rfl, ot, trivial⟩ (by exact rfl) (fill_full (by exact rfl) (by exact rfl) (by exact rfl)) (fun b93 => ?_)
     refine AD.give (k := 0) (t := 93) (sz := 1) (m := 1) rfl lk rfl rfl rfl (Nat.le_refl _) (by decide) ?_
     refine AD.one (i := 11) (by kernel_rfl) ?_
     refine at_ rfl (still_r1 (mk := Op.load 22) rfl ot (ld_row0 (k := 3) (d := .v (.slice (L1[level]'hlv).ad (L1[level]'hlv).l.length (L1[level]'hlv).cp)) (i := level) gV_len rfl rfl rfl Try.isAgg22 hlv rfl)) ?_
     refine AD.one (i := 14) (by kernel_rfl) ?_
     refine AStep.appendG (ls := (L1[level]'hlv).l) (new := [i]) (Sq := (L1[level]'hlv).s) cI_len cI_one rfl (wants_plain rfl) rfl rfl Try.underlying22 info3_Tw9 rfl (by decide) ot hox (perm_r23 (A := [_, _, _]) (S1 := [⟨bv, 22, cap1 * 1, List.flatMap gV L1⟩])) ot (by simp) (by simp only [maxLen, List.length_cons, List.length_nil] at *; omega) (by simp only [List.length_cons, List.length_nil] at *; omega) (fun b94 cp94 h194 h294 => ?_)
     refine AD.perm (perm_q23 (S2 := [⟨b94, 3, cp94 * 1, List.flatMap cI ((L1[level]'hlv).l ++ [i])⟩]) (A := [_, _, _])) ?_
     refine a1_ 15 rfl (ix_ 1) ?_
     refine AD.one (i := 16) (by kernel_rfl) ?_
     refine AStep.storeAt (k := 3) (cs' := List.flatMap gV (L1.set level (⟨(L1[level]'hlv).l ++ [i], some ⟨b94, 0, none⟩, cp94, [⟨b94, 3, cp94 * 1, List.flatMap cI ((L1[level]'hlv).l ++ [i])⟩]⟩ : LvO))) rfl (wants_plain rfl) rfl rfl ot rfl rfl ot rfl rfl Try.sizeOf22 rfl (by show 0 + level * 1 + 1 ≤ (List.flatMap gV L1).length; rw [fm_len gV_len]; omega) (by rw [Nat.zero_add]; exact fm_set gV_len L1 (⟨(L1[level]'hlv).l ++ [i], some ⟨b94, 0, none⟩, cp94, [⟨b94, 3, cp94 * 1, List.flatMap cI ((L1[level]'hlv).l ++ [i])⟩]⟩ : LvO) hlv) (by intro b hb; simp [bks, St.put] at hb ⊢; try first | exact hb | simp [hb] | (rcases hb with hb | hb <;> simp [hb]) | (rcases hb with hb | hb | hb <;> simp [hb])) ?_
     refine AD.wk (y := ⟨148, [(0, _), (2, _), (3, _), (4, _), (13, _)], (⟨b13, 44, 5, [_, _, _, _, _]⟩ :: ⟨b, 75, 4, [_, _, _, _]⟩ :: _ :: ([⟨bv, 22, cap1 * 1, List.flatMap gV (L1.set level (⟨(L1[level]'hlv).l ++ [i], some ⟨b94, 0, none⟩, cp94, [⟨b94, 3, cp94 * 1, List.flatMap cI ((L1[level]'hlv).l ++ [i])⟩]⟩ : LvO))⟩] ++ ([⟨b94, 3, cp94 * 1, List.flatMap cI ((L1[level]'hlv).l ++ [i])⟩] ++ ((L1.eraseIdx level).flatMap LvO.s))))⟩) (Wk.as_ rfl rfl ⟨lk, lk, lk, lk, lk, trivial⟩) rfl ?_
     refine AD.done (by kernel_rfl) ?_
     exact ⟨rfl, (⟨(L1[level]'hlv).l ++ [i], some ⟨b94, 0, none⟩, cp94, [⟨b94, 3, cp94 * 1, List.flatMap cI ((L1[level]'hlv).l ++ [i])⟩]⟩ : LvO), ownL_row h194 h294, rfl, by rw [List.length_set]; exact Wk.perm (List.Perm.cons _ (List.Perm.cons _ (List.Perm.cons _ ((perm_put LvO.s hlv (⟨(L1[level]'hlv).l ++ [i], some ⟨b94, 0, none⟩, cp94, [⟨b94, 3, cp94 * 1, List.flatMap cI ((L1[level]'hlv).l ++ [i])⟩]⟩ : LvO)).symm.append_left _))))⟩
   ·skip
    rintro _ _ ⟨rfl, o2, ho2, hol2, hwk__⟩
    refine CD.wk hwk__ ?_
    refine CD.seq ?_
    refine sr_ ?_
    refine os_ (fa_ 0) ?_
    refine os_ (lb_ 0) ?_
    refine nm_ [0, 2, 3, 4, 13, 97] ?_
    refine CD.cond ot (fun hc3 => ?_) (fun hc3 => ?_)
    ·have hc3' := hc3
     (try simp only [V.cnd, ne_eq] at hc3')
     refine sr_ ?_
     refine os_ mv_ ?_
     refine os_ mv_ ?_
     refine nm_ [10] ?_
     refine CD.ret ?_
     refine ⟨.inr rfl, _, (SW t b bm (m ++ [i]) (L1.set level o2) (some ⟨bv, 0, none⟩) cap1 _), (List.Sublist.cons _ (List.Sublist.refl _)), ret_one Try.results34 (res_tmp (Nat.le_of_ble_eq_true rfl) lk), ?_⟩
     rw [wlk_leaf hni hgood (by rw [hpg]; exact hc3)]; exact ⟨rfl, _, _, _, _, ownL_row (by rw [List.length_set]; exact hlle) hlcap, set_okV hok1 ho2, add_map hmap hlv hol2, rfl⟩
    ·have hc3' := hc3
     (try simp only [V.cnd, ne_eq] at hc3')
     have hlf : (t.pg i).leaf = false := by rw [hpg]; exact hc3
     have hmet2 : MetOk t (m ++ [i], (L1.set level o2).map LvO.l) := by rw [add_map hmap hlv hol2]; exact hmet.add hr hni hlm
     have hkr0 := kid_range po (by rw [← hpg]; exact hlf)
     have hnode := (po.node (by rw [← hpg]; exact hlf)).1
     have hfew4 := po.few
     have hhigh : (t.pages[i.toNat]'hlt).high = high := by rw [← hpg]; exact Classical.byContradiction fun h => hgood (.inl h)
     refine CD.skip ?_
     refine sr_ ?_
     refine os_ mv_ ?_
     refine nm_ [0, 2, 3, 4, 13, 14] ?_
     refine CD.seq ?_
     refine sr_ ?_
     refine os_ (fa_ 2) ?_
     refine os_ (lb_ 0) ?_
     refine os_ ln_ ?_
     refine os_ mv_ ?_
     refine nm_ [0, 2, 3, 4, 13, 14, 100, 101, 102] ?_
     refine CD.block ?_
     refine CD.wk (Wk.asS (n := 148) (l' := [(0, .v (.pointer (some ⟨b, 0, none⟩))), (2, .list 1 (low.flatMap cB) low.length), (3, .list 1 (high.flatMap cB) high.length), (4, .v (.int .i64 (level : Nat))), (13, .v (.pointer (some ⟨b13, 0, none⟩))), (14, .v (.int .i64 (deepI none))), (100, .list 1 ((t.pages[i.toNat]'hlt).kids.flatMap cI) (t.pages[i.toNat]'hlt).kids.length), (101, .v (.int .i64 ((t.pages[i.toNat]'hlt).kids.length : Nat))), (102, .v (.int .i64 ((0) : Nat)))]) (S' := (⟨b13, 44, 5, cP (t.pages[i.toNat]'hlt)⟩ :: ⟨b, 75, 4, [.list 5 (t.pages.flatMap cP) t.pages.length, .v (.int .i64 t.root), .v (.map (some bm)), .v (.slice ((some ⟨bv, 0, none⟩)) ((L1.set level o2)).length cap1)]⟩ :: setB bm ((m ++ [i])) :: (([⟨bv, 22, cap1 * 1, List.flatMap gV (L1.set level o2)⟩]) ++ ((L1.set level o2)).flatMap LvO.s))) rfl (by repeat (first | exact List.Sublist.refl _ | apply List.Sublist.cons_cons | apply List.Sublist.cons)) ⟨lq_, lq_, lq_, lq_, lq_, lq_, lq_, lq_, lq_, trivial⟩) (CD.loop (fun (gh__ : Nat × Option Nat × List Int × List LvO × Option Addr × Nat × List Blk) y__ => match gh__ with | (k, deep, m2, L2, ad2, cap2, Sx2) => (k ≤ (t.pages[i.toNat]'hlt).kids.length) ∧ (kidsF (fun c lo hi s => wlkF t f c lo hi (level + 1) s) low (t.pages[i.toNat]'hlt) ((t.pages[i.toNat]'hlt).kids.drop k) k deep (m2, (L2.map LvO.l)) = (wlkF t (f + 1) i low high level (m, (L.map LvO.l)))) ∧ (OwnV L2 ad2 cap2 Sx2) ∧ (∀ o ∈ L2, okV o) ∧ (MetOk t (m2, (L2.map LvO.l))) ∧ (level + 1 ≤ m2.length) ∧ (t.pages.length + 1 ≤ f + m2.length) ∧ ((k = 0 ∨ deep ≠ none)) ∧ y__ = (⟨148, [(0, .v (.pointer (some ⟨b, 0, none⟩))), (2, .list 1 (low.flatMap cB) low.length), (3, .list 1 (high.flatMap cB) high.length), (4, .v (.int .i64 (level : Nat))), (13, .v (.pointer (some ⟨b13, 0, none⟩))), (14, .v (.int .i64 (deepI deep))), (100, .list 1 ((t.pages[i.toNat]'hlt).kids.flatMap cI) (t.pages[i.toNat]'hlt).kids.length), (101, .v (.int .i64 ((t.pages[i.toNat]'hlt).kids.length : Nat))), (102, .v (.int .i64 (k : Nat)))], (⟨b13, 44, 5, cP (t.pages[i.toNat]'hlt)⟩ :: ⟨b, 75, 4, [.list 5 (t.pages.flatMap cP) t.pages.length, .v (.int .i64 t.root), .v (.map (some bm)), .v (.slice ad2 L2.length cap2)]⟩ :: setB bm m2 :: (Sx2 ++ L2.flatMap LvO.s))⟩ : St)) (fun (gh__ : Nat × Option Nat × List Int × List LvO × Option Addr × Nat × List Blk) => match gh__ with | (k, deep, m2, L2, ad2, cap2, Sx2) => (t.pages[i.toNat]'hlt).kids.length - k) (0, none, (m ++ [i]), (L1.set level o2), (some ⟨bv, 0, none⟩), cap1, [⟨bv, 22, cap1 * 1, List.flatMap gV (L1.set level o2)⟩]) ⟨(Nat.zero_le _), (by rw [wlk_node hni hgood hlf, add_map hmap hlv hol2, hpg]; rfl), (ownL_row (by rw [List.length_set]; exact hlle) hlcap), (set_okV hok1 ho2), hmet2, (by rw [List.length_append]; simp; omega), (by rw [List.length_append]; simp; omega), (.inl rfl), rfl⟩ ?_)
     rintro ⟨k, deep, m2, L2, ad2, cap2, Sx2⟩ _ ⟨hk, hkf, hov2, hok2, hmet2, hlm2, hfu2, hdp, rfl⟩
     refine sr_ ?_
     refine os_ bn_ ?_
     refine nm_ [0, 2, 3, 4, 13, 14, 100, 101, 102, 103] ?_
     refine CD.seq ?_
     refine CD.cond ot (fun hc4 => ?_) (fun hc4 => ?_)
     ·have hc4' := hc4
      (try simp only [V.cnd, ne_eq] at hc4')
      have hkl : k < (t.pages[i.toNat]'hlt).kids.length := by omega
      have hkr := hkr0 _ (List.getElem_mem hkl)
      have hhk : (hiK (t.pages[i.toNat]'hlt) k).length ≤ 100 := by unfold hiK; rw [List.getD_eq_getElem?_getD]; rcases Nat.lt_or_ge k (t.pages[i.toNat]'hlt).keys.length with q | q; (rw [List.getElem?_eq_getElem q]; exact (po.klen _ (List.getElem_mem q)).2); (rw [List.getElem?_eq_none q]; exact po.hlen)
      refine CD.skip ?_
      refine CD.seq ?_
      refine CD.block ?_
      refine sr_ ?_
      refine os_ mv_ ?_
      refine os_ (ix_ 1) ?_
      refine os_ ld_ ?_
      refine os_ mv_ ?_
      refine os_ mv_ ?_
      refine nm_ [0, 2, 3, 4, 13, 14, 15, 16, 100, 101, 102] ?_
      refine sr_ ?_
      refine os_ mv_ ?_
      refine os_ mv_ ?_
      refine os_ mv_ ?_
      refine os_ mv_ ?_
      refine nm_ [0, 2, 3, 4, 13, 14, 15, 16, 17, 18, 100, 101, 102] ?_
      refine CD.cut (fun y__ => y__ = (⟨148, [(0, .v (.pointer (some ⟨b, 0, none⟩))), (2, .list 1 (low.flatMap cB) low.length), (3, .list 1 (high.flatMap cB) high.length), (4, .v (.int .i64 (level : Nat))), (13, .v (.pointer (some ⟨b13, 0, none⟩))), (14, .v (.int .i64 (deepI deep))), (15, .v (.int .i64 (k : Nat))), (16, .v (.int .i64 ((t.pages[i.toNat]'hlt).kids[k]'hkl))), (17, .list 1 ((loK low (t.pages[i.toNat]'hlt) k).flatMap cB) (loK low (t.pages[i.toNat]'hlt) k).length), (18, .list 1 (high.flatMap cB) high.length), (100, .list 1 ((t.pages[i.toNat]'hlt).kids.flatMap cI) (t.pages[i.toNat]'hlt).kids.length), (101, .v (.int .i64 ((t.pages[i.toNat]'hlt).kids.length : Nat))), (102, .v (.int .i64 (k : Nat)))], (⟨b13, 44, 5, cP (t.pages[i.toNat]'hlt)⟩ :: ⟨b, 75, 4, [.list 5 (t.pages.flatMap cP) t.pages.length, .v (.int .i64 t.root), .v (.map (some bm)), .v (.slice ad2 L2.length cap2)]⟩ :: setB bm m2 :: (Sx2 ++ L2.flatMap LvO.s))⟩ : St)) ?_ ?_
      ·skip
       refine sr_ ?_
       refine os_ mv_ ?_
       refine os_ bn_ ?_
       refine nm_ [0, 2, 3, 4, 13, 14, 15, 16, 17, 18, 100, 101, 102, 110] ?_
       refine CD.cond ot (fun hc5 => ?_) (fun hc5 => ?_)
       ·have hc5' := hc5
        (try simp only [V.cnd, ne_eq] at hc5')
        have hlo : loK low (t.pages[i.toNat]'hlt) k = (t.pages[i.toNat]'hlt).keys[k - 1]'(by omega) := by unfold loK; rw [if_neg (by omega), List.getD_eq_getElem?_getD, List.getElem?_eq_getElem (by omega)]; rfl
        refine CD.region ?_
        refine os_ (fa_ 1) ?_
        refine os_ (lb_ 0) ?_
        refine os_ mv_ ?_
        refine os_ bn_ ?_
        refine os_ (ix_ 1 (h := by first | exact .l (j := k - 1) (by omega) (by omega) | exact .r (j := k - 1) (by omega) (by omega))) ?_
        refine os_ ld_ ?_
        refine os_ mv_ ?_
        refine nm_ [0, 2, 3, 4, 13, 14, 15, 16, 17, 18, 100, 101, 102] ?_
        refine ⟨(⟨148, [(0, .v (.pointer (some ⟨b, 0, none⟩))), (2, .list 1 (low.flatMap cB) low.length), (3, .list 1 (high.flatMap cB) high.length), (4, .v (.int .i64 (level : Nat))), (13, .v (.pointer (some ⟨b13, 0, none⟩))), (14, .v (.int .i64 (deepI deep))), (15, .v (.int .i64 (k : Nat))), (16, .v (.int .i64 ((t.pages[i.toNat]'hlt).kids[k]'hkl))), (17, .list 1 ((loK low (t.pages[i.toNat]'hlt) k).flatMap cB) (loK low (t.pages[i.toNat]'hlt) k).length), (18, .list 1 (high.flatMap cB) high.length), (100, .list 1 ((t.pages[i.toNat]'hlt).kids.flatMap cI) (t.pages[i.toNat]'hlt).kids.length), (101, .v (.int .i64 ((t.pages[i.toNat]'hlt).kids.length : Nat))), (102, .v (.int .i64 (k : Nat)))], (⟨b13, 44, 5, cP (t.pages[i.toNat]'hlt)⟩ :: ⟨b, 75, 4, [.list 5 (t.pages.flatMap cP) t.pages.length, .v (.int .i64 t.root), .v (.map (some bm)), .v (.slice ad2 L2.length cap2)]⟩ :: setB bm m2 :: (Sx2 ++ L2.flatMap LvO.s))⟩ : St), Wk.asS (n := 148) rfl (by repeat (first | exact List.Sublist.refl _ | apply List.Sublist.cons_cons | apply List.Sublist.cons)) ⟨(by (repeat (first | exact look_hit | (apply look_at; focus (first | rfl | (rw [hlo]; done) | (simp; done))) | (apply look_miss; focus rfl))); done), (by (repeat (first | exact look_hit | (apply look_at; focus (first | rfl | (rw [hlo]; done) | (simp; done))) | (apply look_miss; focus rfl))); done), (by (repeat (first | exact look_hit | (apply look_at; focus (first | rfl | (rw [hlo]; done) | (simp; done))) | (apply look_miss; focus rfl))); done), (by (repeat (first | exact look_hit | (apply look_at; focus (first | rfl | (rw [hlo]; done) | (simp; done))) | (apply look_miss; focus rfl))); done), (by (repeat (first | exact look_hit | (apply look_at; focus (first | rfl | (rw [hlo]; done) | (simp; done))) | (apply look_miss; focus rfl))); done), (by (repeat (first | exact look_hit | (apply look_at; focus (first | rfl | (rw [hlo]; done) | (simp; done))) | (apply look_miss; focus rfl))); done), (by (repeat (first | exact look_hit | (apply look_at; focus (first | rfl | (rw [hlo]; done) | (simp; done))) | (apply look_miss; focus rfl))); done), (by (repeat (first | exact look_hit | (apply look_at; focus (first | rfl | (rw [hlo]; done) | (simp; done))) | (apply look_miss; focus rfl))); done), (by (repeat (first | exact look_hit | (apply look_at; focus (first | rfl | (rw [hlo]; done) | (simp; done))) | (apply look_miss; focus rfl))); done), (by (repeat (first | exact look_hit | (apply look_at; focus (first | rfl | (rw [hlo]; done) | (simp; done))) | (apply look_miss; focus rfl))); done), (by (repeat (first | exact look_hit | (apply look_at; focus (first | rfl | (rw [hlo]; done) | (simp; done))) | (apply look_miss; focus rfl))); done), (by (repeat (first | exact look_hit | (apply look_at; focus (first | rfl | (rw [hlo]; done) | (simp; done))) | (apply look_miss; focus rfl))); done), (by (repeat (first | exact look_hit | (apply look_at; focus (first | rfl | (rw [hlo]; done) | (simp; done))) | (apply look_miss; focus rfl))); done), trivial⟩, rfl⟩
       ·have hc5' := hc5
        (try simp only [V.cnd, ne_eq] at hc5')
        have hlo : loK low (t.pages[i.toNat]'hlt) k = low := by unfold loK; rw [if_pos (by omega)]
        refine CD.skip ?_
        refine ⟨(⟨148, [(0, .v (.pointer (some ⟨b, 0, none⟩))), (2, .list 1 (low.flatMap cB) low.length), (3, .list 1 (high.flatMap cB) high.length), (4, .v (.int .i64 (level : Nat))), (13, .v (.pointer (some ⟨b13, 0, none⟩))), (14, .v (.int .i64 (deepI deep))), (15, .v (.int .i64 (k : Nat))), (16, .v (.int .i64 ((t.pages[i.toNat]'hlt).kids[k]'hkl))), (17, .list 1 ((loK low (t.pages[i.toNat]'hlt) k).flatMap cB) (loK low (t.pages[i.toNat]'hlt) k).length), (18, .list 1 (high.flatMap cB) high.length), (100, .list 1 ((t.pages[i.toNat]'hlt).kids.flatMap cI) (t.pages[i.toNat]'hlt).kids.length), (101, .v (.int .i64 ((t.pages[i.toNat]'hlt).kids.length : Nat))), (102, .v (.int .i64 (k : Nat)))], (⟨b13, 44, 5, cP (t.pages[i.toNat]'hlt)⟩ :: ⟨b, 75, 4, [.list 5 (t.pages.flatMap cP) t.pages.length, .v (.int .i64 t.root), .v (.map (some bm)), .v (.slice ad2 L2.length cap2)]⟩ :: setB bm m2 :: (Sx2 ++ L2.flatMap LvO.s))⟩ : St), Wk.asS (n := 148) rfl (by repeat (first | exact List.Sublist.refl _ | apply List.Sublist.cons_cons | apply List.Sublist.cons)) ⟨(by (repeat (first | exact look_hit | (apply look_at; focus (first | rfl | (rw [hlo]; done) | (simp; done))) | (apply look_miss; focus rfl))); done), (by (repeat (first | exact look_hit | (apply look_at; focus (first | rfl | (rw [hlo]; done) | (simp; done))) | (apply look_miss; focus rfl))); done), (by (repeat (first | exact look_hit | (apply look_at; focus (first | rfl | (rw [hlo]; done) | (simp; done))) | (apply look_miss; focus rfl))); done), (by (repeat (first | exact look_hit | (apply look_at; focus (first | rfl | (rw [hlo]; done) | (simp; done))) | (apply look_miss; focus rfl))); done), (by (repeat (first | exact look_hit | (apply look_at; focus (first | rfl | (rw [hlo]; done) | (simp; done))) | (apply look_miss; focus rfl))); done), (by (repeat (first | exact look_hit | (apply look_at; focus (first | rfl | (rw [hlo]; done) | (simp; done))) | (apply look_miss; focus rfl))); done), (by (repeat (first | exact look_hit | (apply look_at; focus (first | rfl | (rw [hlo]; done) | (simp; done))) | (apply look_miss; focus rfl))); done), (by (repeat (first | exact look_hit | (apply look_at; focus (first | rfl | (rw [hlo]; done) | (simp; done))) | (apply look_miss; focus rfl))); done), (by (repeat (first | exact look_hit | (apply look_at; focus (first | rfl | (rw [hlo]; done) | (simp; done))) | (apply look_miss; focus rfl))); done), (by (repeat (first | exact look_hit | (apply look_at; focus (first | rfl | (rw [hlo]; done) | (simp; done))) | (apply look_miss; focus rfl))); done), (by (repeat (first | exact look_hit | (apply look_at; focus (first | rfl | (rw [hlo]; done) | (simp; done))) | (apply look_miss; focus rfl))); done), (by (repeat (first | exact look_hit | (apply look_at; focus (first | rfl | (rw [hlo]; done) | (simp; done))) | (apply look_miss; focus rfl))); done), (by (repeat (first | exact look_hit | (apply look_at; focus (first | rfl | (rw [hlo]; done) | (simp; done))) | (apply look_miss; focus rfl))); done), trivial⟩, rfl⟩
      rintro _ ⟨rfl⟩
      refine CD.cut (fun y__ => y__ = (⟨148, [(0, .v (.pointer (some ⟨b, 0, none⟩))), (2, .list 1 (low.flatMap cB) low.length), (3, .list 1 (high.flatMap cB) high.length), (4, .v (.int .i64 (level : Nat))), (13, .v (.pointer (some ⟨b13, 0, none⟩))), (14, .v (.int .i64 (deepI deep))), (16, .v (.int .i64 ((t.pages[i.toNat]'hlt).kids[k]'hkl))), (17, .list 1 ((loK low (t.pages[i.toNat]'hlt) k).flatMap cB) (loK low (t.pages[i.toNat]'hlt) k).length), (18, .list 1 ((hiK (t.pages[i.toNat]'hlt) k).flatMap cB) (hiK (t.pages[i.toNat]'hlt) k).length), (100, .list 1 ((t.pages[i.toNat]'hlt).kids.flatMap cI) (t.pages[i.toNat]'hlt).kids.length), (101, .v (.int .i64 ((t.pages[i.toNat]'hlt).kids.length : Nat))), (102, .v (.int .i64 (k : Nat)))], (⟨b13, 44, 5, cP (t.pages[i.toNat]'hlt)⟩ :: ⟨b, 75, 4, [.list 5 (t.pages.flatMap cP) t.pages.length, .v (.int .i64 t.root), .v (.map (some bm)), .v (.slice ad2 L2.length cap2)]⟩ :: setB bm m2 :: (Sx2 ++ L2.flatMap LvO.s))⟩ : St)) ?_ ?_
      ·skip
       refine sr_ ?_
       refine os_ mv_ ?_
       refine os_ (fa_ 1) ?_
       refine os_ (lb_ 0) ?_
       refine os_ ln_ ?_
       refine os_ bn_ ?_
       refine nm_ [0, 2, 3, 4, 13, 14, 15, 16, 17, 18, 100, 101, 102, 121] ?_
       refine CD.cond ot (fun hc6 => ?_) (fun hc6 => ?_)
       ·have hc6' := hc6
        (try simp only [V.cnd, ne_eq] at hc6')
        have hhi : hiK (t.pages[i.toNat]'hlt) k = (t.pages[i.toNat]'hlt).keys[k]'(by omega) := by unfold hiK; rw [List.getD_eq_getElem?_getD, List.getElem?_eq_getElem (by omega)]; rfl
        refine CD.region ?_
        refine os_ (fa_ 1) ?_
        refine os_ (lb_ 0) ?_
        refine os_ mv_ ?_
        refine os_ (ix_ 1) ?_
        refine os_ ld_ ?_
        refine os_ mv_ ?_
        refine nm_ [0, 2, 3, 4, 13, 14, 16, 17, 18, 100, 101, 102] ?_
        refine ⟨(⟨148, [(0, .v (.pointer (some ⟨b, 0, none⟩))), (2, .list 1 (low.flatMap cB) low.length), (3, .list 1 (high.flatMap cB) high.length), (4, .v (.int .i64 (level : Nat))), (13, .v (.pointer (some ⟨b13, 0, none⟩))), (14, .v (.int .i64 (deepI deep))), (16, .v (.int .i64 ((t.pages[i.toNat]'hlt).kids[k]'hkl))), (17, .list 1 ((loK low (t.pages[i.toNat]'hlt) k).flatMap cB) (loK low (t.pages[i.toNat]'hlt) k).length), (18, .list 1 ((hiK (t.pages[i.toNat]'hlt) k).flatMap cB) (hiK (t.pages[i.toNat]'hlt) k).length), (100, .list 1 ((t.pages[i.toNat]'hlt).kids.flatMap cI) (t.pages[i.toNat]'hlt).kids.length), (101, .v (.int .i64 ((t.pages[i.toNat]'hlt).kids.length : Nat))), (102, .v (.int .i64 (k : Nat)))], (⟨b13, 44, 5, cP (t.pages[i.toNat]'hlt)⟩ :: ⟨b, 75, 4, [.list 5 (t.pages.flatMap cP) t.pages.length, .v (.int .i64 t.root), .v (.map (some bm)), .v (.slice ad2 L2.length cap2)]⟩ :: setB bm m2 :: (Sx2 ++ L2.flatMap LvO.s))⟩ : St), Wk.asS (n := 148) rfl (by repeat (first | exact List.Sublist.refl _ | apply List.Sublist.cons_cons | apply List.Sublist.cons)) ⟨(by (repeat (first | exact look_hit | (apply look_at; focus (first | rfl | (rw [hhi]; done) | (simp; done))) | (apply look_miss; focus rfl))); done), (by (repeat (first | exact look_hit | (apply look_at; focus (first | rfl | (rw [hhi]; done) | (simp; done))) | (apply look_miss; focus rfl))); done), (by (repeat (first | exact look_hit | (apply look_at; focus (first | rfl | (rw [hhi]; done) | (simp; done))) | (apply look_miss; focus rfl))); done), (by (repeat (first | exact look_hit | (apply look_at; focus (first | rfl | (rw [hhi]; done) | (simp; done))) | (apply look_miss; focus rfl))); done), (by (repeat (first | exact look_hit | (apply look_at; focus (first | rfl | (rw [hhi]; done) | (simp; done))) | (apply look_miss; focus rfl))); done), (by (repeat (first | exact look_hit | (apply look_at; focus (first | rfl | (rw [hhi]; done) | (simp; done))) | (apply look_miss; focus rfl))); done), (by (repeat (first | exact look_hit | (apply look_at; focus (first | rfl | (rw [hhi]; done) | (simp; done))) | (apply look_miss; focus rfl))); done), (by (repeat (first | exact look_hit | (apply look_at; focus (first | rfl | (rw [hhi]; done) | (simp; done))) | (apply look_miss; focus rfl))); done), (by (repeat (first | exact look_hit | (apply look_at; focus (first | rfl | (rw [hhi]; done) | (simp; done))) | (apply look_miss; focus rfl))); done), (by (repeat (first | exact look_hit | (apply look_at; focus (first | rfl | (rw [hhi]; done) | (simp; done))) | (apply look_miss; focus rfl))); done), (by (repeat (first | exact look_hit | (apply look_at; focus (first | rfl | (rw [hhi]; done) | (simp; done))) | (apply look_miss; focus rfl))); done), (by (repeat (first | exact look_hit | (apply look_at; focus (first | rfl | (rw [hhi]; done) | (simp; done))) | (apply look_miss; focus rfl))); done), trivial⟩, rfl⟩
       ·have hc6' := hc6
        (try simp only [V.cnd, ne_eq] at hc6')
        have hhi : hiK (t.pages[i.toNat]'hlt) k = high := by unfold hiK; rw [List.getD_eq_getElem?_getD, List.getElem?_eq_none (by omega)]; exact hhigh
        refine CD.skip ?_
        refine ⟨(⟨148, [(0, .v (.pointer (some ⟨b, 0, none⟩))), (2, .list 1 (low.flatMap cB) low.length), (3, .list 1 (high.flatMap cB) high.length), (4, .v (.int .i64 (level : Nat))), (13, .v (.pointer (some ⟨b13, 0, none⟩))), (14, .v (.int .i64 (deepI deep))), (16, .v (.int .i64 ((t.pages[i.toNat]'hlt).kids[k]'hkl))), (17, .list 1 ((loK low (t.pages[i.toNat]'hlt) k).flatMap cB) (loK low (t.pages[i.toNat]'hlt) k).length), (18, .list 1 ((hiK (t.pages[i.toNat]'hlt) k).flatMap cB) (hiK (t.pages[i.toNat]'hlt) k).length), (100, .list 1 ((t.pages[i.toNat]'hlt).kids.flatMap cI) (t.pages[i.toNat]'hlt).kids.length), (101, .v (.int .i64 ((t.pages[i.toNat]'hlt).kids.length : Nat))), (102, .v (.int .i64 (k : Nat)))], (⟨b13, 44, 5, cP (t.pages[i.toNat]'hlt)⟩ :: ⟨b, 75, 4, [.list 5 (t.pages.flatMap cP) t.pages.length, .v (.int .i64 t.root), .v (.map (some bm)), .v (.slice ad2 L2.length cap2)]⟩ :: setB bm m2 :: (Sx2 ++ L2.flatMap LvO.s))⟩ : St), Wk.asS (n := 148) rfl (by repeat (first | exact List.Sublist.refl _ | apply List.Sublist.cons_cons | apply List.Sublist.cons)) ⟨(by (repeat (first | exact look_hit | (apply look_at; focus (first | rfl | (rw [hhi]; done) | (simp; done))) | (apply look_miss; focus rfl))); done), (by (repeat (first | exact look_hit | (apply look_at; focus (first | rfl | (rw [hhi]; done) | (simp; done))) | (apply look_miss; focus rfl))); done), (by (repeat (first | exact look_hit | (apply look_at; focus (first | rfl | (rw [hhi]; done) | (simp; done))) | (apply look_miss; focus rfl))); done), (by (repeat (first | exact look_hit | (apply look_at; focus (first | rfl | (rw [hhi]; done) | (simp; done))) | (apply look_miss; focus rfl))); done), (by (repeat (first | exact look_hit | (apply look_at; focus (first | rfl | (rw [hhi]; done) | (simp; done))) | (apply look_miss; focus rfl))); done), (by (repeat (first | exact look_hit | (apply look_at; focus (first | rfl | (rw [hhi]; done) | (simp; done))) | (apply look_miss; focus rfl))); done), (by (repeat (first | exact look_hit | (apply look_at; focus (first | rfl | (rw [hhi]; done) | (simp; done))) | (apply look_miss; focus rfl))); done), (by (repeat (first | exact look_hit | (apply look_at; focus (first | rfl | (rw [hhi]; done) | (simp; done))) | (apply look_miss; focus rfl))); done), (by (repeat (first | exact look_hit | (apply look_at; focus (first | rfl | (rw [hhi]; done) | (simp; done))) | (apply look_miss; focus rfl))); done), (by (repeat (first | exact look_hit | (apply look_at; focus (first | rfl | (rw [hhi]; done) | (simp; done))) | (apply look_miss; focus rfl))); done), (by (repeat (first | exact look_hit | (apply look_at; focus (first | rfl | (rw [hhi]; done) | (simp; done))) | (apply look_miss; focus rfl))); done), (by (repeat (first | exact look_hit | (apply look_at; focus (first | rfl | (rw [hhi]; done) | (simp; done))) | (apply look_miss; focus rfl))); done), trivial⟩, rfl⟩
      rintro _ ⟨rfl⟩
      refine sr_ ?_
      refine os_ mv_ ?_
      refine os_ mv_ ?_
      refine os_ mv_ ?_
      refine os_ mv_ ?_
      refine os_ mv_ ?_
      refine OD.still (wants_plain rfl) rfl (still_bin (r := .int .i64 ((level + 1 : Nat) : Int)) rfl ot opd_const (bin_add (by rw [show ((level : Nat) : Int) + 1 = ((level + 1 : Nat) : Int) from rfl]; exact wrap_i64 (by omega) (by omega)))) ?_
      refine OD.call (wants_plain rfl) rfl rfl rfl Try.call34 (ih ((t.pages[i.toNat]'hlt).kids[k]'hkl) (loK low (t.pages[i.toNat]'hlt) k) (hiK (t.pages[i.toNat]'hlt) k) (level + 1) m2 L2 ad2 cap2 Sx2 hkr hmet2 hlm2 hfu2 hhk hov2 hok2) ⟨ot, ot, ot, ot, ot, trivial⟩ (List.perm_append_singleton _ _).symm ?_
      rintro r19 S19 hret
      rcases hwk : wlkF t f ((t.pages[i.toNat]'hlt).kids[k]'hkl) (loK low (t.pages[i.toNat]'hlt) k) (hiK (t.pages[i.toNat]'hlt) k) (level + 1) (m2, (L2.map LvO.l)) with _ | ⟨d, m3, lv3⟩
      ·rw [hwk] at hret
       obtain ⟨rfl, rfl⟩ := hret
       have hnone := hkf.symm.trans (kids_none hkl hwk)
       refine os_ mv_ ?_
       refine OD.wk (Wk.as_ (n := 148) (l' := [(0, _), (2, _), (3, _), (4, _), (13, _), (14, _), (19, _), (100, _), (101, _), (102, _)]) (S' := [⟨b13, 44, 5, [_, _, _, _, _]⟩]) rfl rfl ⟨lk, lk, lk, lk, lk, lk, lk, lk, lk, lk, trivial⟩) ?_
       refine OD.nil ?_
       refine CD.seq ?_
       refine sr_ ?_
       refine os_ mv_ ?_
       refine os_ bn_ ?_
       refine os_ mv_ ?_
       refine OD.split (t := 136) lk (fun hg136 => ?_) (fun hg136 => ?_)
       ·have hg136' := hg136; (try simp only [V.cnd, ne_eq] at hg136')
        refine sk_ ?_
        refine sk_ ?_
        refine sk_ ?_
        refine sj_ ?_
        refine sj_ ?_
        refine sj_ ?_
        refine sk_ ?_
        refine os_ pkT_ ?_
        refine nm_ [0, 2, 3, 4, 13, 19, 100, 101, 102, 144] ?_
        refine CD.condT ot (by first | rfl | assumption) ?_
        refine sr_ ?_
        refine os_ mv_ ?_
        refine nm_ [10] ?_
        refine CD.ret ?_
        refine ⟨.inr rfl, _, [], List.nil_sublist _, ret_one Try.results34 (res_tmp (Nat.le_of_ble_eq_true rfl) lk), ?_⟩
        rw [hnone]; exact ⟨rfl, rfl⟩
       ·exact absurd hg136 (by decide)
      ·rw [hwk] at hret
       obtain ⟨rfl, L3, ad3, cap3, Sx3, hov3, hok3, rfl, rfl⟩ := hret
       obtain ⟨hmet3, hmono⟩ := wlk_met hp _ _ _ _ _ _ _ _ hkr hmet2 hlm2 hwk
       have hmono : m2.length ≤ m3.length := hmono
       refine OD.perm (S' := (⟨b13, 44, 5, cP (t.pages[i.toNat]'hlt)⟩ :: ⟨b, 75, 4, [.list 5 (t.pages.flatMap cP) t.pages.length, .v (.int .i64 t.root), .v (.map (some bm)), .v (.slice ad3 L3.length cap3)]⟩ :: setB bm m3 :: (Sx3 ++ L3.flatMap LvO.s))) (List.perm_append_singleton _ _) ?_
       refine os_ mv_ ?_
       refine OD.wk (Wk.as_ (n := 148) (l' := [(0, _), (2, _), (3, _), (4, _), (13, _), (14, _), (19, _), (100, _), (101, _), (102, _)]) (S' := (⟨b13, 44, 5, [_, _, _, _, _]⟩ :: ⟨b, 75, 4, [_, _, _, _]⟩ :: _ :: (Sx3 ++ (L3.flatMap LvO.s)))) rfl rfl ⟨lk, lk, lk, lk, lk, lk, lk, lk, lk, lk, trivial⟩) ?_
       refine OD.nil ?_
       refine CD.seq ?_
       refine sr_ ?_
       refine os_ mv_ ?_
       refine os_ bn_ ?_
       refine os_ mv_ ?_
       refine OD.split (t := 136) lk (fun hg136 => ?_) (fun hg136 => ?_)
       ·exact absurd hg136 (by intro e; have e := of_decide_eq_true e; omega)
       ·have hg136' := hg136; (try simp only [V.cnd, ne_eq] at hg136')
        refine os_ mv_ ?_
        refine os_ bn_ ?_
        refine os_ mv_ ?_
        refine OD.split (t := 139) lk (fun hg139 => ?_) (fun hg139 => ?_)
        ·have hg139' := hg139; (try simp only [V.cnd, ne_eq] at hg139')
         refine os_ mv_ ?_
         refine os_ mv_ ?_
         refine os_ bn_ ?_
         refine os_ pkT_ ?_
         refine os_ pkF_ ?_
         refine nm_ [0, 2, 3, 4, 13, 19, 100, 101, 102, 144] ?_
         refine CD.cond ot (fun hc7 => ?_) (fun hc7 => ?_)
         ·have hc7' := hc7
          (try simp only [V.cnd, ne_eq] at hc7')
          refine sr_ ?_
          refine os_ mv_ ?_
          refine nm_ [10] ?_
          refine CD.ret ?_
          refine ⟨.inr rfl, _, [], List.nil_sublist _, ret_one Try.results34 (res_tmp (Nat.le_of_ble_eq_true rfl) lk), ?_⟩
          rw [hkf.symm.trans (kids_not hkl hwk (deepI_no (by simpa using hg139) (by simpa using hc7)))]; exact ⟨rfl, rfl⟩
         ·have hc7' := hc7
          (try simp only [V.cnd, ne_eq] at hc7')
          refine CD.skip ?_
          refine CD.region ?_
          refine os_ mv_ ?_
          refine os_ mv_ ?_
          refine nm_ [0, 2, 3, 4, 13, 14, 100, 101, 102] ?_
          refine CD.region ?_
          refine os_ bn_ ?_
          refine os_ mv_ ?_
          refine nm_ [0, 2, 3, 4, 13, 14, 100, 101, 102] ?_
          refine ⟨((k + 1), (some d), m3, L3, ad3, cap3, Sx3), ⟨148, [(0, .v (.pointer (some ⟨b, 0, none⟩))), (2, .list 1 (low.flatMap cB) low.length), (3, .list 1 (high.flatMap cB) high.length), (4, .v (.int .i64 (level : Nat))), (13, .v (.pointer (some ⟨b13, 0, none⟩))), (14, .v (.int .i64 (deepI ((some d))))), (100, .list 1 ((t.pages[i.toNat]'hlt).kids.flatMap cI) (t.pages[i.toNat]'hlt).kids.length), (101, .v (.int .i64 ((t.pages[i.toNat]'hlt).kids.length : Nat))), (102, .v (.int .i64 (((k + 1)) : Nat)))], (⟨b13, 44, 5, cP (t.pages[i.toNat]'hlt)⟩ :: ⟨b, 75, 4, [.list 5 (t.pages.flatMap cP) t.pages.length, .v (.int .i64 t.root), .v (.map (some bm)), .v (.slice ad3 L3.length cap3)]⟩ :: setB bm m3 :: (Sx3 ++ L3.flatMap LvO.s))⟩, ?_, Wk.asS (n := 148) rfl (by repeat (first | exact List.Sublist.refl _ | apply List.Sublist.cons_cons | apply List.Sublist.cons)) ⟨lq_, lq_, lq_, lq_, lq_, lq_, lq_, lq_, lq_, trivial⟩, (by omega), ((kids_some hkl hwk (by first | exact .inl (deepI_nil (by simpa using hg139)) | exact .inr (deepI_ne (by simpa using hg139) (by simpa using hc7)))).symm.trans hkf), hov3, hok3, hmet3, (by omega), (by omega), (.inr (fun e => by cases e)), rfl⟩
          first | omega | (simp only []; omega)
        ·have hg139' := hg139; (try simp only [V.cnd, ne_eq] at hg139')
         refine sk_ ?_
         refine sk_ ?_
         refine sk_ ?_
         refine os_ pkF_ ?_
         refine os_ pkF_ ?_
         refine nm_ [0, 2, 3, 4, 13, 19, 100, 101, 102, 144] ?_
         refine CD.condF ot (by first | rfl | assumption) ?_
         refine CD.skip ?_
         refine CD.region ?_
         refine os_ mv_ ?_
         refine os_ mv_ ?_
         refine nm_ [0, 2, 3, 4, 13, 14, 100, 101, 102] ?_
         refine CD.region ?_
         refine os_ bn_ ?_
         refine os_ mv_ ?_
         refine nm_ [0, 2, 3, 4, 13, 14, 100, 101, 102] ?_
         refine ⟨((k + 1), (some d), m3, L3, ad3, cap3, Sx3), ⟨148, [(0, .v (.pointer (some ⟨b, 0, none⟩))), (2, .list 1 (low.flatMap cB) low.length), (3, .list 1 (high.flatMap cB) high.length), (4, .v (.int .i64 (level : Nat))), (13, .v (.pointer (some ⟨b13, 0, none⟩))), (14, .v (.int .i64 (deepI ((some d))))), (100, .list 1 ((t.pages[i.toNat]'hlt).kids.flatMap cI) (t.pages[i.toNat]'hlt).kids.length), (101, .v (.int .i64 ((t.pages[i.toNat]'hlt).kids.length : Nat))), (102, .v (.int .i64 (((k + 1)) : Nat)))], (⟨b13, 44, 5, cP (t.pages[i.toNat]'hlt)⟩ :: ⟨b, 75, 4, [.list 5 (t.pages.flatMap cP) t.pages.length, .v (.int .i64 t.root), .v (.map (some bm)), .v (.slice ad3 L3.length cap3)]⟩ :: setB bm m3 :: (Sx3 ++ L3.flatMap LvO.s))⟩, ?_, Wk.asS (n := 148) rfl (by repeat (first | exact List.Sublist.refl _ | apply List.Sublist.cons_cons | apply List.Sublist.cons)) ⟨lq_, lq_, lq_, lq_, lq_, lq_, lq_, lq_, lq_, trivial⟩, (by omega), ((kids_some hkl hwk (by first | exact .inl (deepI_nil (by simpa using hg139)) | exact .inr (deepI_ne (by simpa using hg139) (by simpa using hc7)))).symm.trans hkf), hov3, hok3, hmet3, (by omega), (by omega), (.inr (fun e => by cases e)), rfl⟩
         first | omega | (simp only []; omega)
     ·have hc4' := hc4
      (try simp only [V.cnd, ne_eq] at hc4')
      obtain rfl : k = (t.pages[i.toNat]'hlt).kids.length := by omega
      obtain ⟨d, rfl⟩ : ∃ d, deep = some d := by rcases hdp with h | h; omega; exact Option.ne_none_iff_exists'.1 h
      refine CD.exit ?_
      refine sr_ ?_
      refine os_ mv_ ?_
      refine os_ mv_ ?_
      refine nm_ [10] ?_
      refine CD.ret ?_
      refine ⟨.inr rfl, _, (SW t b bm m2 L2 ad2 cap2 Sx2), (List.Sublist.cons _ (List.Sublist.refl _)), ret_one Try.results34 (res_tmp (Nat.le_of_ble_eq_true rfl) lk), ?_⟩
      rw [← hkf, kids_end (Nat.le_refl _)]; exact ⟨rfl, L2, ad2, cap2, Sx2, hov2, hok2, rfl, rfl⟩

end Go.Proofs.Ythnobhekodiciaa.Tw

namespace Go.Proofs.Ythnobhekodiciaa.Tw
open Go.RowKit V Go.Proofs.Ythnobhekodiciaa.Tr Pk
set_option linter.unusedVariables false
set_option linter.unusedSimpArgs false

theorem walk_vc {G : List (Nat × List Value)} (t : TreeL) (hp : PagesOk t) (hmax : t.pages.length ≤ 4000) (b bm : Nat) : ∀ f, WalkC G t b bm f
 | 0 => fun i low high level m L ad cap Sx hr hmet hlm hfu _ _ _ => by have h : m.length ≤ t.pages.length := hmet.most; exfalso; omega
 | f + 1 => fun i low high level m L ad cap Sx hr hmet hlm hfu hhg hov hok => walk_step t hp hmax b bm f (walk_vc t hp hmax b bm f) i low high level m L ad cap Sx hr hmet hlm hfu hhg hov hok
theorem met_nil (t : TreeL) : MetOk t ([], []) := ⟨List.nodup_nil, (fun x h => by cases h), Nat.le_refl _, (fun l h => by cases h), (fun l h => by cases h)⟩
theorem seg_iff {t : TreeL} {e : Int} : ∀ {l : List Int}, Seg t l e ↔ ∀ k (h : k < l.length), (t.pg l[k]).next = l.getD (k + 1) e
  | [] => ⟨(fun _ k h => by cases h), fun _ => trivial⟩
  | [i] => ⟨fun h k hk => by obtain rfl : k = 0 := by (simp at hk; exact hk)
                             exact h, fun h => h 0 (by simp)⟩
  | i :: j :: r => by
    show (t.pg i).next = j ∧ Seg t (j :: r) e ↔ _
    rw [seg_iff (l := j :: r)]
    constructor
    · rintro ⟨h1, h2⟩ k hk
      cases k with
      | zero => exact h1
      | succ k => exact h2 k (by simpa using hk)
    · intro h
      exact ⟨h 0 (by simp), fun k hk => h (k + 1) (by simpa using hk)⟩
theorem pageQ_iff {p : PgL} {n : Int} : pageQ p n = true ↔ PageOk p n := by unfold pageQ; simp
section
variable {t : TreeL}
theorem check_range (h : t.pages.length < 1 ∨ t.pages.length > 4000 ∨ t.root < 0 ∨ t.root ≥ t.pages.length) : checkF t = 11 := by unfold checkF; rw [if_pos h]
theorem check_page (h : ¬ PagesOk t) : checkF t = 11 := by
 unfold checkF; split
 ·rfl
 ·first | rfl | rw [if_pos h]
variable {d : Nat} {m : List Int} {lv : List (List Int)}
theorem check_none (hw : wlkF t (t.pages.length + 1) t.root [] [] 0 ([], []) = none) : checkF t = 11 := by
 unfold checkF; split
 ·rfl
 ·split
  ·rfl
  ·rw [hw]
theorem check_cnt (hw : wlkF t (t.pages.length + 1) t.root [] [] 0 ([], []) = some (d, m, lv)) (h : m.length ≠ t.pages.length) : checkF t = 11 := by
 unfold checkF; split
 ·rfl
 ·split
  ·rfl
  ·rw [hw]; exact if_pos h
open Classical in
theorem check_seg (hw : wlkF t (t.pages.length + 1) t.root [] [] 0 ([], []) = some (d, m, lv)) (h : ¬ ∀ l ∈ lv, Seg t l (-1)) : checkF t = 11 := by
 unfold checkF; split
 ·rfl
 ·split
  ·rfl
  ·rw [hw]
   show (if m.length ≠ t.pages.length then (11 : Int) else if ∀ l ∈ lv, Seg t l (-1) then 0 else 11) = 11
   split
   ·rfl
   ·first | rfl | rw [if_neg h]
open Classical in
theorem check_yes (h1 : ¬ (t.pages.length < 1 ∨ t.pages.length > 4000 ∨ t.root < 0 ∨ t.root ≥ t.pages.length)) (h2 : PagesOk t) (hw : wlkF t (t.pages.length + 1) t.root [] [] 0 ([], []) = some (d, m, lv)) (h3 : m.length = t.pages.length) (h : ∀ l ∈ lv, Seg t l (-1)) : checkF t = 0 := by
 unfold checkF
 rw [if_neg h1, if_neg (fun hn => hn h2), hw]
 show (if m.length ≠ t.pages.length then (11 : Int) else if ∀ l ∈ lv, Seg t l (-1) then 0 else 11) = 0
 rw [if_neg (fun hn => hn h3), if_pos h]
end
/-- A level, read. -/
def cLv (l : List Int) : List D := [.list 1 (l.flatMap cI) l.length]
theorem cLv_len (l : List Int) : (cLv l).length = 1 := rfl
theorem views_V {S : List Blk} : ∀ {L : List LvO}, (∀ o ∈ L, okV o) → (∀ B ∈ L.flatMap LvO.s, B ∈ S) → Views S (L.flatMap gV) ((L.map LvO.l).flatMap cLv)
 | [], _, _ => trivial
 | o :: L, h, hs => by
  rw [List.map_cons, List.flatMap_cons, List.flatMap_cons]
  refine Views.append ⟨view_own (h o List.mem_cons_self) (fm_len cI_len _) (fun B hB => hs B ?_), trivial⟩ (views_V (fun o ho => h o (List.mem_cons_of_mem _ ho)) fun B hB => hs B ?_)
  ·rw [List.flatMap_cons]; exact List.mem_append_left _ hB
  ·rw [List.flatMap_cons]; exact List.mem_append_right _ hB
theorem view_V {Sx : List Blk} {L : List LvO} {ad : Option Addr} {cap : Nat} {lv : List (List Int)} (ho : OwnV L ad cap Sx) (h : ∀ o ∈ L, okV o) (hm : L.map LvO.l = lv) : View (Sx ++ L.flatMap LvO.s) (.v (.slice ad L.length cap)) (.list 1 (lv.flatMap cLv) lv.length) := by
 subst hm
 have := view_ownV ho (views_V (S := Sx ++ L.flatMap LvO.s) h fun B hB => List.mem_append_right _ hB) (fm_len cLv_len _ |>.trans (by simp)) (fun B hB => List.mem_append_left _ hB)
 rw [List.length_map]
 exact this
variable {G : List (Nat × List Value)}

theorem places75_Twa : ∀ w, ((#[{ name := "t", type := 26, offset := 0, embedded := false, tag := "", pkgPath := "padlock/tree", byteOffset := 0 }, { name := "met", type := 72, offset := 2, embedded := false, tag := "", pkgPath := "padlock/tree", byteOffset := 32 }, { name := "levels", type := 73, offset := 3, embedded := false, tag := "", pkgPath := "padlock/tree", byteOffset := 40 }] : Array Field).mapM fun f => do pure (f.offset, ← sizeOf f.type) : Sem (Array (Nat × Nat))).run Try.prog w = .ok #[(0, 2), (2, 1), (3, 1)] w := fun w => by simp [Try.sizeOf26, Try.sizeOf72, Try.sizeOf73]

set_option maxHeartbeats 4000000 in
set_option maxRecDepth 100000 in
theorem check_vp (t : TreeL) (hb : ∀ p ∈ t.pages, p.keys.length ≤ maxLen ∧ p.kids.length ≤ maxLen) : VP Try.prog G 19 [.agg (cT t)] (.v (.int .i64 (checkF t))) := by
 refine VC.body Try.func19 rfl Try.ntmps19 (Nat.le_of_ble_eq_true rfl) fun X0 w0 S00 => ?_
 unfold cT
 have hmx : maxLen = 9223372036854775807 := rfl
 refine sr_ ?_
 refine OD.box (ds := [_, _]) (wants_plain rfl) rfl rfl ot rfl rfl (fun b1 => ?_)
 refine os_ mv_ ?_
 refine OD.wk (Wk.as_ (n := 104) (l' := [(1, _)]) (S' := [⟨b1, 26, 2, [_, _]⟩]) rfl rfl ⟨lk, trivial⟩) ?_
 refine OD.nil ?_
 refine CD.seq ?_
 refine sr_ ?_
 refine os_ (fa_ 0) ?_
 refine os_ (lb_ 0) ?_
 refine os_ ln_ ?_
 refine os_ bn_ ?_
 refine os_ mv_ ?_
 refine OD.split (t := 15) lk (fun hg15 => ?_) (fun hg15 => ?_)
 ·have hg15' := hg15; (try simp only [V.cnd, ne_eq] at hg15')
  refine sk_ ?_
  refine sk_ ?_
  refine sk_ ?_
  refine sk_ ?_
  refine os_ pkT_ ?_
  refine os_ mv_ ?_
  refine sk_ ?_
  refine sk_ ?_
  refine sk_ ?_
  refine os_ pkT_ ?_
  refine os_ mv_ ?_
  refine sk_ ?_
  refine sk_ ?_
  refine sk_ ?_
  refine sk_ ?_
  refine sk_ ?_
  refine sk_ ?_
  refine os_ pkT_ ?_
  refine nm_ [1, 33] ?_
  refine CD.condT ot (by first | rfl | assumption) ?_
  refine sr_ ?_
  refine os_ mv_ ?_
  refine nm_ [2] ?_
  refine CD.ret ?_
  refine r1_ ?_
  exact ⟨vi (check_range (by omega)).symm, rfl⟩
 ·have hg15' := hg15; (try simp only [V.cnd, ne_eq] at hg15')
  refine os_ (fa_ 0) ?_
  refine os_ (lb_ 0) ?_
  refine os_ ln_ ?_
  refine os_ bn_ ?_
  refine os_ pkF_ ?_
  refine os_ mv_ ?_
  refine OD.split (t := 21) lk (fun hg21 => ?_) (fun hg21 => ?_)
  ·have hg21' := hg21; (try simp only [V.cnd, ne_eq] at hg21')
   refine sk_ ?_
   refine sk_ ?_
   refine sk_ ?_
   refine os_ pkT_ ?_
   refine os_ mv_ ?_
   refine sk_ ?_
   refine sk_ ?_
   refine sk_ ?_
   refine sk_ ?_
   refine sk_ ?_
   refine sk_ ?_
   refine os_ pkT_ ?_
   refine nm_ [1, 33] ?_
   refine CD.condT ot (by first | rfl | assumption) ?_
   refine sr_ ?_
   refine os_ mv_ ?_
   refine nm_ [2] ?_
   refine CD.ret ?_
   refine r1_ ?_
   exact ⟨vi (check_range (by omega)).symm, rfl⟩
  ·have hg21' := hg21; (try simp only [V.cnd, ne_eq] at hg21')
   refine os_ (fa_ 1) ?_
   refine os_ (lb_ 0) ?_
   refine os_ bn_ ?_
   refine os_ pkF_ ?_
   refine os_ mv_ ?_
   refine OD.split (t := 26) lk (fun hg26 => ?_) (fun hg26 => ?_)
   ·have hg26' := hg26; (try simp only [V.cnd, ne_eq] at hg26')
    refine sk_ ?_
    refine sk_ ?_
    refine sk_ ?_
    refine sk_ ?_
    refine sk_ ?_
    refine sk_ ?_
    refine os_ pkT_ ?_
    refine nm_ [1, 33] ?_
    refine CD.condT ot (by first | rfl | assumption) ?_
    refine sr_ ?_
    refine os_ mv_ ?_
    refine nm_ [2] ?_
    refine CD.ret ?_
    refine r1_ ?_
    exact ⟨vi (check_range (by omega)).symm, rfl⟩
   ·have hg26' := hg26; (try simp only [V.cnd, ne_eq] at hg26')
    refine os_ (fa_ 1) ?_
    refine os_ (lb_ 0) ?_
    refine os_ (fa_ 0) ?_
    refine os_ (lb_ 0) ?_
    refine os_ ln_ ?_
    refine os_ bn_ ?_
    refine os_ pkF_ ?_
    refine nm_ [1, 33] ?_
    refine CD.cond ot (fun hc0 => ?_) (fun hc0 => ?_)
    ·have hc0' := hc0
     (try simp only [V.cnd, ne_eq] at hc0')
     refine sr_ ?_
     refine os_ mv_ ?_
     refine nm_ [2] ?_
     refine CD.ret ?_
     refine r1_ ?_
     exact ⟨vi (check_range (by omega)).symm, rfl⟩
    ·have hc0' := hc0
     (try simp only [V.cnd, ne_eq] at hc0')
     refine CD.skip ?_
     refine CD.seq ?_
     refine sr_ ?_
     refine os_ (fa_ 0) ?_
     refine os_ (lb_ 0) ?_
     refine os_ ln_ ?_
     refine os_ mv_ ?_
     refine nm_ [1, 35, 36, 37] ?_
     refine CD.block ?_
     refine CD.wk (Wk.asS (n := 104) (l' := [(1, .v (.pointer (some ⟨b1, 0, none⟩))), (35, .list 5 (t.pages.flatMap cP) t.pages.length), (36, .v (.int .i64 (t.pages.length : Nat))), (37, .v (.int .i64 ((0) : Nat)))]) (S' := [⟨b1, 26, 2, [.list 5 (t.pages.flatMap cP) t.pages.length, .v (.int .i64 t.root)]⟩]) rfl (by repeat (first | exact List.Sublist.refl _ | apply List.Sublist.cons_cons | apply List.Sublist.cons)) ⟨lq_, lq_, lq_, lq_, trivial⟩) (CD.loop (fun (i : Nat) y__ => (i ≤ t.pages.length) ∧ (∀ j (h : j < t.pages.length), j < i → PageOk t.pages[j] t.pages.length) ∧ y__ = (⟨104, [(1, .v (.pointer (some ⟨b1, 0, none⟩))), (35, .list 5 (t.pages.flatMap cP) t.pages.length), (36, .v (.int .i64 (t.pages.length : Nat))), (37, .v (.int .i64 (i : Nat)))], [⟨b1, 26, 2, [.list 5 (t.pages.flatMap cP) t.pages.length, .v (.int .i64 t.root)]⟩]⟩ : St)) (fun (i : Nat) => t.pages.length - i) 0 ⟨(Nat.zero_le _), (fun j h h0 => by omega), rfl⟩ ?_)
     rintro i _ ⟨hi, hpg, rfl⟩
     refine sr_ ?_
     refine os_ bn_ ?_
     refine nm_ [1, 35, 36, 37, 38] ?_
     refine CD.seq ?_
     refine CD.cond ot (fun hc1 => ?_) (fun hc1 => ?_)
     ·have hc1' := hc1
      (try simp only [V.cnd, ne_eq] at hc1')
      have hlt : i < t.pages.length := by omega
      obtain ⟨hkl, hil⟩ := hb (t.pages[i]'hlt) (List.getElem_mem hlt)
      refine CD.skip ?_
      refine CD.seq ?_
      refine CD.block ?_
      refine sr_ ?_
      refine os_ (ix_ 5) ?_
      refine os_ (la_ [_, _, _, _, _]) ?_
      refine OD.alloc (ds := [_, _, _, _, _]) (wants_plain rfl) rfl rfl Try.zeroValue44 rfl (fun b4 => ?_)
      refine OD.store (k := 0) (cs' := [_, _, _, _, _]) (wants_plain rfl) rfl rfl ot rfl rfl ot rfl rfl Try.sizeOf44 rfl rfl rfl ?_
      refine OD.wk (Wk.as_ (n := 104) (l' := [(1, _), (4, _), (35, _), (36, _), (37, _)]) (S' := [⟨b4, 44, 5, [_, _, _, _, _]⟩, ⟨b1, 26, 2, [_, _]⟩]) rfl rfl ⟨lk, lk, lk, lk, lk, trivial⟩) ?_
      refine OD.nil ?_
      refine sr_ ?_
      refine os_ (lab_ 0 [_, _, _, _, _]) ?_
      refine os_ (fa_ 0) ?_
      refine os_ (lb_ 1) ?_
      refine os_ ln_ ?_
      refine OD.callP (wants_plain rfl) rfl rfl rfl Try.call33 (page_vp (t.pages[i]'hlt) (t.pages.length : Nat) hkl hil) ⟨ot, ot, trivial⟩ ?_
      refine os_ un_ ?_
      refine OD.wk (Wk.as_ (n := 104) (l' := [(1, _), (35, _), (36, _), (37, _), (46, _)]) (S' := [⟨b4, 44, 5, [_, _, _, _, _]⟩, ⟨b1, 26, 2, [_, _]⟩]) rfl rfl ⟨lk, lk, lk, lk, lk, trivial⟩) ?_
      refine OD.nil ?_
      refine CD.cond ot (fun hc2 => ?_) (fun hc2 => ?_)
      ·have hc2' := hc2
       (try simp only [V.cnd, ne_eq] at hc2')
       have hbad : ¬ PagesOk t := fun h => by have := pageQ_iff.2 (h (t.pages[i]'hlt) (List.getElem_mem hlt)); rw [this] at hc2; cases hc2
       refine sr_ ?_
       refine os_ mv_ ?_
       refine nm_ [2] ?_
       refine CD.ret ?_
       refine r1_ ?_
       exact ⟨vi (check_page hbad).symm, rfl⟩
      ·have hc2' := hc2
       (try simp only [V.cnd, ne_eq] at hc2')
       have hok0 : PageOk (t.pages[i]'hlt) t.pages.length := pageQ_iff.1 (by simpa using hc2)
       refine CD.skip ?_
       refine CD.region ?_
       refine os_ bn_ ?_
       refine os_ mv_ ?_
       refine nm_ [1, 35, 36, 37] ?_
       refine ⟨(i + 1), ⟨104, [(1, .v (.pointer (some ⟨b1, 0, none⟩))), (35, .list 5 (t.pages.flatMap cP) t.pages.length), (36, .v (.int .i64 (t.pages.length : Nat))), (37, .v (.int .i64 (((i + 1)) : Nat)))], [⟨b1, 26, 2, [.list 5 (t.pages.flatMap cP) t.pages.length, .v (.int .i64 t.root)]⟩]⟩, ?_, Wk.asS (n := 104) rfl (by repeat (first | exact List.Sublist.refl _ | apply List.Sublist.cons_cons | apply List.Sublist.cons)) ⟨lq_, lq_, lq_, lq_, trivial⟩, (by omega), (fun j h h0 => by rcases Nat.lt_or_ge j i with q | q; exact hpg j h q; obtain rfl : j = i := (by omega); exact hok0), rfl⟩
       first | omega | (simp only []; omega)
     ·have hc1' := hc1
      (try simp only [V.cnd, ne_eq] at hc1')
      have hall : PagesOk t := fun p h => by obtain ⟨j, hj, rfl⟩ := List.mem_iff_getElem.1 h; exact hpg j hj (by omega)
      have h4 : t.pages.length ≤ 4000 := by omega
      have hroot : 0 ≤ t.root ∧ t.root < t.pages.length := by omega
      refine CD.exit ?_
      refine sr_ ?_
      refine os_ (lab_ 0 [_, _]) ?_
      refine OD.makeSet (wants_plain rfl) rfl rfl (fun b49 => ?_)
      refine OD.still (wants_plain rfl) rfl (still_bld (pl := [(0, _), (1, _)]) (ds := [_, _, _, _]) rfl Try.zeroValue75 Try.runUnderlying75 places75_Twa ⟨rfl, ot, rfl, ot, trivial⟩ rfl rfl) ?_
      refine OD.box (ds := [_, _, _, _]) (wants_plain rfl) rfl rfl ot rfl rfl (fun b51 => ?_)
      refine os_ mv_ ?_
      refine OD.wk (Wk.as_ (n := 104) (l' := [(1, _), (5, _)]) (S' := [⟨b51, 75, 4, [_, _, _, _]⟩, _, ⟨b1, 26, 2, [_, _]⟩]) rfl rfl ⟨lk, lk, trivial⟩) ?_
      refine OD.nil ?_
      refine CD.seq ?_
      refine CD.seq ?_
      rcases hwk : wlkF t (t.pages.length + 1) t.root [] [] 0 ([], []) with _ | ⟨d, m, lv⟩
      ·skip
       refine CD.draw (bks (List.drop 2 _)) (by kernel_rfl) (fun _ h => (List.Sublist.map _ (List.drop_sublist _ _)).subset h) ?_
       refine a0_ 0 rfl mv_ ?_
       refine a0_ 1 rfl (fa_ 1) ?_
       refine a0_ 2 rfl (lb_ 2) ?_
       refine AD0.later rfl ?_
       refine AD.one (i := 3) (by kernel_rfl) ?_
       refine AStep.call rfl (wants_plain rfl) rfl rfl rfl Try.call34 (VC.to (args' := [.v (.pointer (some ⟨b51, 0, none⟩)), .v (.int .i64 t.root), .v (.slice none 0 0), .v (.slice none 0 0), .v (.int .i64 0)]) (walk_vc t hall h4 b51 b49 (t.pages.length + 1) t.root [] [] 0 [] [] none 0 [] hroot (met_nil t) (Nat.le_refl _) (Nat.le_refl _) (by decide) ownL_nil (fun o h => by cases h)) ⟨.inl rfl, .inl rfl, .inr ⟨1, rfl, rfl⟩, .inr ⟨1, rfl, rfl⟩, .inl rfl, trivial⟩) ⟨ot, ot, opd_const, opd_const, opd_const, trivial⟩ (List.Perm.refl _) (by intro b hb; simp [bks, St.put] at hb ⊢; try first | exact hb | simp [hb] | (rcases hb with hb | hb <;> simp [hb]) | (rcases hb with hb | hb | hb <;> simp [hb])) ?_
       rintro r55 S55 hret
       rw [show List.map LvO.l [] = [] from rfl, hwk] at hret
       obtain ⟨rfl, rfl⟩ := hret
       refine a1_ 4 rfl bn_ ?_
       refine a1_ 5 rfl mv_ ?_
       refine AD.split (t := 57) lk (fun hg57 => ?_) (fun hg57 => ?_)
       ·have hg57' := hg57; (try simp only [V.cnd, ne_eq] at hg57')
        refine s1_ 6 rfl ?_
        refine s1_ 7 rfl ?_
        refine s1_ 11 rfl ?_
        refine s1_ 12 rfl ?_
        refine s1_ 13 rfl ?_
        refine AD.one (i := 8) (by kernel_rfl) ?_
        refine AStep.skip rfl (wants_F rfl rfl rfl lk (by first | rfl | assumption)) rfl ?_
        refine AD.one (i := 9) (by kernel_rfl) ?_
        refine AStep.skip rfl (wants_F rfl rfl rfl lk (by first | rfl | assumption)) rfl ?_
        refine AD.one (i := 10) (by kernel_rfl) ?_
        refine AStep.skip rfl (wants_F rfl rfl rfl lk (by first | rfl | assumption)) rfl ?_
        refine s1_ 14 rfl ?_
        refine a1_ 15 rfl pkT_ ?_
        refine AD.wk (y := ⟨104, [(1, _), (5, _), (67, _)], [⟨b1, 26, 2, [_, _]⟩]⟩) (Wk.as_ rfl rfl ⟨lk, lk, lk, trivial⟩) rfl ?_
        refine AD.done (by kernel_rfl) ?_
        refine CD.condT ot (by first | rfl | assumption) ?_
        try have hcnt : m.length ≠ t.pages.length := by intro e; rw [e] at hc3; simp at hc3
        refine sr_ ?_
        refine os_ mv_ ?_
        refine nm_ [2] ?_
        refine CD.ret ?_
        refine r1_ ?_
        exact ⟨vi (check_none hwk).symm, rfl⟩
       ·exact absurd hg57 (by decide)
      ·skip
       refine CD.draw (bks (List.drop 2 _)) (by kernel_rfl) (fun _ h => (List.Sublist.map _ (List.drop_sublist _ _)).subset h) ?_
       refine a0_ 0 rfl mv_ ?_
       refine a0_ 1 rfl (fa_ 1) ?_
       refine a0_ 2 rfl (lb_ 2) ?_
       refine AD0.later rfl ?_
       refine AD.one (i := 3) (by kernel_rfl) ?_
       refine AStep.call rfl (wants_plain rfl) rfl rfl rfl Try.call34 (VC.to (args' := [.v (.pointer (some ⟨b51, 0, none⟩)), .v (.int .i64 t.root), .v (.slice none 0 0), .v (.slice none 0 0), .v (.int .i64 0)]) (walk_vc t hall h4 b51 b49 (t.pages.length + 1) t.root [] [] 0 [] [] none 0 [] hroot (met_nil t) (Nat.le_refl _) (Nat.le_refl _) (by decide) ownL_nil (fun o h => by cases h)) ⟨.inl rfl, .inl rfl, .inr ⟨1, rfl, rfl⟩, .inr ⟨1, rfl, rfl⟩, .inl rfl, trivial⟩) ⟨ot, ot, opd_const, opd_const, opd_const, trivial⟩ (List.Perm.refl _) (by intro b hb; simp [bks, St.put] at hb ⊢; try first | exact hb | simp [hb] | (rcases hb with hb | hb <;> simp [hb]) | (rcases hb with hb | hb | hb <;> simp [hb])) ?_
       rintro r55 S55 hret
       rw [show List.map LvO.l [] = [] from rfl, hwk] at hret
       obtain ⟨rfl, L, ad, cap, Sx, hov, hok, hmap, rfl⟩ := hret
       refine AD.perm (S' := ⟨b51, 75, 4, [.list 5 (t.pages.flatMap cP) t.pages.length, .v (.int .i64 t.root), .v (.map (some b49)), .v (.slice ad L.length cap)]⟩ :: setB b49 m :: ⟨b1, 26, 2, [.list 5 (t.pages.flatMap cP) t.pages.length, .v (.int .i64 t.root)]⟩ :: (Sx ++ L.flatMap LvO.s)) (List.Perm.cons _ (List.Perm.cons _ (List.perm_append_singleton _ _))) ?_
       refine a1_ 4 rfl bn_ ?_
       refine a1_ 5 rfl mv_ ?_
       refine AD.split (t := 57) lk (fun hg57 => ?_) (fun hg57 => ?_)
       ·exact absurd hg57 (by intro e; have e := of_decide_eq_true e; omega)
       ·have hg57' := hg57; (try simp only [V.cnd, ne_eq] at hg57')
        refine a1_ 6 rfl mv_ ?_
        refine a1_ 7 rfl nc_ ?_
        refine a1_ 11 rfl (fa_ 0) ?_
        refine a1_ 12 rfl (lb_ 2) ?_
        refine a1_ 13 rfl ln_ ?_
        refine AD.one (i := 8) (by kernel_rfl) ?_
        refine at_ rfl (fa_ 2) ?_
        refine AD.one (i := 9) (by kernel_rfl) ?_
        refine at_ rfl (lb_ 0) ?_
        refine AD.one (i := 10) (by kernel_rfl) ?_
        refine at_ rfl (still_mlen (i := 1) rfl rfl ot rfl Try.underlying72) ?_
        refine a1_ 14 rfl bn_ ?_
        refine a1_ 15 rfl pkF_ ?_
        refine AD.wk (y := ⟨104, [(1, _), (5, _), (67, _)], (⟨b51, 75, 4, [_, _, _, _]⟩ :: _ :: ⟨b1, 26, 2, [_, _]⟩ :: (Sx ++ (L.flatMap LvO.s)))⟩) (Wk.as_ rfl rfl ⟨lk, lk, lk, trivial⟩) rfl ?_
        refine AD.done (by kernel_rfl) ?_
        refine CD.cond ot (fun hc3 => ?_) (fun hc3 => ?_)
        ·have hc3' := hc3
         (try simp only [V.cnd, ne_eq] at hc3')
         try have hcnt : m.length ≠ t.pages.length := by intro e; rw [e] at hc3; simp at hc3
         refine sr_ ?_
         refine os_ mv_ ?_
         refine nm_ [2] ?_
         refine CD.ret ?_
         refine r1_ ?_
         exact ⟨vi (check_cnt hwk hcnt).symm, rfl⟩
        ·have hc3' := hc3
         (try simp only [V.cnd, ne_eq] at hc3')
         have hcnt : m.length = t.pages.length := by have := hc3; simp at this; omega
         refine CD.wk (Wk.cover (A := ⟨b51, 75, 4, [.list 5 (t.pages.flatMap cP) t.pages.length, .v (.int .i64 t.root), .v (.map (some b49)), .v (.slice ad L.length cap)]⟩) (R := [setB b49 m, ⟨b1, 26, 2, [.list 5 (t.pages.flatMap cP) t.pages.length, .v (.int .i64 t.root)]⟩]) (Sd := Sx ++ L.flatMap LvO.s) (cs' := [.list 5 (t.pages.flatMap cP) t.pages.length, .v (.int .i64 t.root), .v (.map (some b49)), .list 1 (lv.flatMap cLv) lv.length]) (List.Perm.refl _) ⟨view_same, view_same, view_same, view_V hov hok hmap, trivial⟩) ?_
         obtain ⟨hmet, _⟩ := wlk_met hall _ _ _ _ _ _ _ _ hroot (met_nil t) (Nat.le_refl _) hwk
         refine CD.skip ?_
         refine CD.seq ?_
         refine sr_ ?_
         refine os_ mv_ ?_
         refine os_ nc_ ?_
         refine os_ (fa_ 3) ?_
         refine os_ (lb_ 0) ?_
         refine os_ ln_ ?_
         refine os_ mv_ ?_
         refine nm_ [1, 71, 72, 73] ?_
         refine CD.block ?_
         refine CD.wk (Wk.asS (n := 104) (l' := [(1, .v (.pointer (some ⟨b1, 0, none⟩))), (71, .list 1 (lv.flatMap cLv) lv.length), (72, .v (.int .i64 (lv.length : Nat))), (73, .v (.int .i64 ((0) : Nat)))]) (S' := [⟨b1, 26, 2, [.list 5 (t.pages.flatMap cP) t.pages.length, .v (.int .i64 t.root)]⟩]) rfl (by repeat (first | exact List.Sublist.refl _ | apply List.Sublist.cons_cons | apply List.Sublist.cons)) ⟨lq_, lq_, lq_, lq_, trivial⟩) (CD.loop (fun (i : Nat) y__ => (i ≤ lv.length) ∧ (∀ j (_ : j < i) (h : j < lv.length), Seg t lv[j] (-1)) ∧ y__ = (⟨104, [(1, .v (.pointer (some ⟨b1, 0, none⟩))), (71, .list 1 (lv.flatMap cLv) lv.length), (72, .v (.int .i64 (lv.length : Nat))), (73, .v (.int .i64 (i : Nat)))], [⟨b1, 26, 2, [.list 5 (t.pages.flatMap cP) t.pages.length, .v (.int .i64 t.root)]⟩]⟩ : St)) (fun (i : Nat) => lv.length - i) 0 ⟨(Nat.zero_le _), (fun j h _ => by omega), rfl⟩ ?_)
         rintro i _ ⟨hi1, hs1, rfl⟩
         refine sr_ ?_
         refine os_ bn_ ?_
         refine nm_ [1, 71, 72, 73, 74] ?_
         refine CD.seq ?_
         refine CD.cond ot (fun hc4 => ?_) (fun hc4 => ?_)
         ·have hc4' := hc4
          (try simp only [V.cnd, ne_eq] at hc4')
          have hil : i < lv.length := by omega
          have hel : ∀ x ∈ (lv[i]'hil), 0 ≤ x ∧ x < t.pages.length := hmet.el _ (List.getElem_mem hil)
          have hll : (lv[i]'hil).length ≤ m.length := hmet.each _ (List.getElem_mem hil)
          have hfw : lv.length ≤ m.length := hmet.few
          refine CD.skip ?_
          refine CD.seq ?_
          refine CD.block ?_
          refine sr_ ?_
          refine os_ (ix_ 1) ?_
          refine os_ ld_ ?_
          refine os_ mv_ ?_
          refine nm_ [1, 7, 71, 72, 73] ?_
          refine sr_ ?_
          refine os_ mv_ ?_
          refine os_ ln_ ?_
          refine os_ mv_ ?_
          refine nm_ [1, 7, 71, 72, 73, 77, 78, 79] ?_
          refine CD.block ?_
          refine CD.wk (Wk.asS (n := 104) (l' := [(1, .v (.pointer (some ⟨b1, 0, none⟩))), (7, .list 1 ((lv[i]'hil).flatMap cI) (lv[i]'hil).length), (71, .list 1 (lv.flatMap cLv) lv.length), (72, .v (.int .i64 (lv.length : Nat))), (73, .v (.int .i64 (i : Nat))), (77, .list 1 ((lv[i]'hil).flatMap cI) (lv[i]'hil).length), (78, .v (.int .i64 ((lv[i]'hil).length : Nat))), (79, .v (.int .i64 ((0) : Nat)))]) (S' := [⟨b1, 26, 2, [.list 5 (t.pages.flatMap cP) t.pages.length, .v (.int .i64 t.root)]⟩]) rfl (by repeat (first | exact List.Sublist.refl _ | apply List.Sublist.cons_cons | apply List.Sublist.cons)) ⟨lq_, lq_, lq_, lq_, lq_, lq_, lq_, lq_, trivial⟩) (CD.loop (fun (k : Nat) y__ => (k ≤ (lv[i]'hil).length) ∧ (∀ j (_ : j < k) (h : j < (lv[i]'hil).length), (t.pg (lv[i]'hil)[j]).next = (lv[i]'hil).getD (j + 1) (-1)) ∧ y__ = (⟨104, [(1, .v (.pointer (some ⟨b1, 0, none⟩))), (7, .list 1 ((lv[i]'hil).flatMap cI) (lv[i]'hil).length), (71, .list 1 (lv.flatMap cLv) lv.length), (72, .v (.int .i64 (lv.length : Nat))), (73, .v (.int .i64 (i : Nat))), (77, .list 1 ((lv[i]'hil).flatMap cI) (lv[i]'hil).length), (78, .v (.int .i64 ((lv[i]'hil).length : Nat))), (79, .v (.int .i64 (k : Nat)))], [⟨b1, 26, 2, [.list 5 (t.pages.flatMap cP) t.pages.length, .v (.int .i64 t.root)]⟩]⟩ : St)) (fun (k : Nat) => (lv[i]'hil).length - k) 0 ⟨(Nat.zero_le _), (fun j h _ => by omega), rfl⟩ ?_)
          rintro k _ ⟨hk, hn, rfl⟩
          refine sr_ ?_
          refine os_ bn_ ?_
          refine nm_ [1, 7, 71, 72, 73, 77, 78, 79, 80] ?_
          refine CD.seq ?_
          refine CD.cond ot (fun hc5 => ?_) (fun hc5 => ?_)
          ·have hc5' := hc5
           (try simp only [V.cnd, ne_eq] at hc5')
           have hkl : k < (lv[i]'hil).length := by omega
           have hxr := hel _ (List.getElem_mem hkl)
           have hxl : ((lv[i]'hil)[k]'hkl).toNat < t.pages.length := by omega
           have hpx : t.pg ((lv[i]'hil)[k]'hkl) = t.pages[((lv[i]'hil)[k]'hkl).toNat]'hxl := pg_at hxr
           refine CD.skip ?_
           refine CD.seq ?_
           refine CD.block ?_
           refine sr_ ?_
           refine os_ mv_ ?_
           refine os_ (ix_ 1) ?_
           refine os_ ld_ ?_
           refine os_ mv_ ?_
           refine os_ mv_ ?_
           refine nm_ [1, 7, 8, 9, 71, 72, 73, 77, 78, 79] ?_
           refine sr_ ?_
           refine os_ mv_ ?_
           refine nm_ [1, 7, 8, 9, 10, 71, 72, 73, 77, 78, 79] ?_
           refine CD.cut (fun y__ => y__ = (⟨104, [(1, .v (.pointer (some ⟨b1, 0, none⟩))), (7, .list 1 ((lv[i]'hil).flatMap cI) (lv[i]'hil).length), (9, .v (.int .i64 ((lv[i]'hil)[k]'hkl))), (10, .v (.int .i64 ((lv[i]'hil).getD (k + 1) (-1)))), (71, .list 1 (lv.flatMap cLv) lv.length), (72, .v (.int .i64 (lv.length : Nat))), (73, .v (.int .i64 (i : Nat))), (77, .list 1 ((lv[i]'hil).flatMap cI) (lv[i]'hil).length), (78, .v (.int .i64 ((lv[i]'hil).length : Nat))), (79, .v (.int .i64 (k : Nat)))], [⟨b1, 26, 2, [.list 5 (t.pages.flatMap cP) t.pages.length, .v (.int .i64 t.root)]⟩]⟩ : St)) ?_ ?_
           ·skip
            refine sr_ ?_
            refine os_ mv_ ?_
            refine os_ bn_ ?_
            refine os_ mv_ ?_
            refine os_ ln_ ?_
            refine os_ bn_ ?_
            refine nm_ [1, 7, 8, 9, 10, 71, 72, 73, 77, 78, 79, 88] ?_
            refine CD.cond ot (fun hc6 => ?_) (fun hc6 => ?_)
            ·have hc6' := hc6
             (try simp only [V.cnd, ne_eq] at hc6')
             have hgd : (lv[i]'hil).getD (k + 1) (-1) = (lv[i]'hil)[k + 1]'(by omega) := by rw [List.getD_eq_getElem?_getD, List.getElem?_eq_getElem (by omega)]; rfl
             refine CD.region ?_
             refine os_ mv_ ?_
             refine os_ mv_ ?_
             refine os_ bn_ ?_
             refine os_ (ix_ 1 (h := by first | exact .l (j := k + 1) (by omega) (by omega) | exact .r (j := k + 1) (by omega) (by omega))) ?_
             refine os_ ld_ ?_
             refine os_ mv_ ?_
             refine nm_ [1, 7, 9, 10, 71, 72, 73, 77, 78, 79] ?_
             refine ⟨(⟨104, [(1, .v (.pointer (some ⟨b1, 0, none⟩))), (7, .list 1 ((lv[i]'hil).flatMap cI) (lv[i]'hil).length), (9, .v (.int .i64 ((lv[i]'hil)[k]'hkl))), (10, .v (.int .i64 ((lv[i]'hil).getD (k + 1) (-1)))), (71, .list 1 (lv.flatMap cLv) lv.length), (72, .v (.int .i64 (lv.length : Nat))), (73, .v (.int .i64 (i : Nat))), (77, .list 1 ((lv[i]'hil).flatMap cI) (lv[i]'hil).length), (78, .v (.int .i64 ((lv[i]'hil).length : Nat))), (79, .v (.int .i64 (k : Nat)))], [⟨b1, 26, 2, [.list 5 (t.pages.flatMap cP) t.pages.length, .v (.int .i64 t.root)]⟩]⟩ : St), Wk.asS (n := 104) rfl (by repeat (first | exact List.Sublist.refl _ | apply List.Sublist.cons_cons | apply List.Sublist.cons)) ⟨(by (repeat (first | exact look_hit | (apply look_at; focus (first | rfl | (rw [hgd]; done) | (simp; done))) | (apply look_miss; focus rfl))); done), (by (repeat (first | exact look_hit | (apply look_at; focus (first | rfl | (rw [hgd]; done) | (simp; done))) | (apply look_miss; focus rfl))); done), (by (repeat (first | exact look_hit | (apply look_at; focus (first | rfl | (rw [hgd]; done) | (simp; done))) | (apply look_miss; focus rfl))); done), (by (repeat (first | exact look_hit | (apply look_at; focus (first | rfl | (rw [hgd]; done) | (simp; done))) | (apply look_miss; focus rfl))); done), (by (repeat (first | exact look_hit | (apply look_at; focus (first | rfl | (rw [hgd]; done) | (simp; done))) | (apply look_miss; focus rfl))); done), (by (repeat (first | exact look_hit | (apply look_at; focus (first | rfl | (rw [hgd]; done) | (simp; done))) | (apply look_miss; focus rfl))); done), (by (repeat (first | exact look_hit | (apply look_at; focus (first | rfl | (rw [hgd]; done) | (simp; done))) | (apply look_miss; focus rfl))); done), (by (repeat (first | exact look_hit | (apply look_at; focus (first | rfl | (rw [hgd]; done) | (simp; done))) | (apply look_miss; focus rfl))); done), (by (repeat (first | exact look_hit | (apply look_at; focus (first | rfl | (rw [hgd]; done) | (simp; done))) | (apply look_miss; focus rfl))); done), (by (repeat (first | exact look_hit | (apply look_at; focus (first | rfl | (rw [hgd]; done) | (simp; done))) | (apply look_miss; focus rfl))); done), trivial⟩, rfl⟩
            ·have hc6' := hc6
             (try simp only [V.cnd, ne_eq] at hc6')
             have hgd : (lv[i]'hil).getD (k + 1) (-1) = -1 := by rw [List.getD_eq_getElem?_getD, List.getElem?_eq_none (by omega)]; rfl
             refine CD.skip ?_
             refine ⟨(⟨104, [(1, .v (.pointer (some ⟨b1, 0, none⟩))), (7, .list 1 ((lv[i]'hil).flatMap cI) (lv[i]'hil).length), (9, .v (.int .i64 ((lv[i]'hil)[k]'hkl))), (10, .v (.int .i64 ((lv[i]'hil).getD (k + 1) (-1)))), (71, .list 1 (lv.flatMap cLv) lv.length), (72, .v (.int .i64 (lv.length : Nat))), (73, .v (.int .i64 (i : Nat))), (77, .list 1 ((lv[i]'hil).flatMap cI) (lv[i]'hil).length), (78, .v (.int .i64 ((lv[i]'hil).length : Nat))), (79, .v (.int .i64 (k : Nat)))], [⟨b1, 26, 2, [.list 5 (t.pages.flatMap cP) t.pages.length, .v (.int .i64 t.root)]⟩]⟩ : St), Wk.asS (n := 104) rfl (by repeat (first | exact List.Sublist.refl _ | apply List.Sublist.cons_cons | apply List.Sublist.cons)) ⟨(by (repeat (first | exact look_hit | (apply look_at; focus (first | rfl | (rw [hgd]; done) | (simp; done))) | (apply look_miss; focus rfl))); done), (by (repeat (first | exact look_hit | (apply look_at; focus (first | rfl | (rw [hgd]; done) | (simp; done))) | (apply look_miss; focus rfl))); done), (by (repeat (first | exact look_hit | (apply look_at; focus (first | rfl | (rw [hgd]; done) | (simp; done))) | (apply look_miss; focus rfl))); done), (by (repeat (first | exact look_hit | (apply look_at; focus (first | rfl | (rw [hgd]; done) | (simp; done))) | (apply look_miss; focus rfl))); done), (by (repeat (first | exact look_hit | (apply look_at; focus (first | rfl | (rw [hgd]; done) | (simp; done))) | (apply look_miss; focus rfl))); done), (by (repeat (first | exact look_hit | (apply look_at; focus (first | rfl | (rw [hgd]; done) | (simp; done))) | (apply look_miss; focus rfl))); done), (by (repeat (first | exact look_hit | (apply look_at; focus (first | rfl | (rw [hgd]; done) | (simp; done))) | (apply look_miss; focus rfl))); done), (by (repeat (first | exact look_hit | (apply look_at; focus (first | rfl | (rw [hgd]; done) | (simp; done))) | (apply look_miss; focus rfl))); done), (by (repeat (first | exact look_hit | (apply look_at; focus (first | rfl | (rw [hgd]; done) | (simp; done))) | (apply look_miss; focus rfl))); done), (by (repeat (first | exact look_hit | (apply look_at; focus (first | rfl | (rw [hgd]; done) | (simp; done))) | (apply look_miss; focus rfl))); done), trivial⟩, rfl⟩
           rintro _ ⟨rfl⟩
           refine sr_ ?_
           refine os_ (fa_ 0) ?_
           refine os_ (lb_ 0) ?_
           refine os_ mv_ ?_
           refine os_ (ix_ 5 (h := by first | exact .l (j := ((lv[i]'hil)[k]'hkl).toNat) (Int.toNat_of_nonneg hxr.1).symm hxl | exact .r (j := ((lv[i]'hil)[k]'hkl).toNat) (Int.toNat_of_nonneg hxr.1).symm hxl)) ?_
           refine os_ (fa_ 4) ?_
           refine os_ ld_ ?_
           refine os_ mv_ ?_
           refine os_ bn_ ?_
           refine nm_ [1, 7, 71, 72, 73, 77, 78, 79, 101] ?_
           refine CD.cond ot (fun hc7 => ?_) (fun hc7 => ?_)
           ·have hc7' := hc7
            (try simp only [V.cnd, ne_eq] at hc7')
            have hbad : ¬ ∀ l ∈ lv, Seg t l (-1) := fun h => by have := seg_iff.1 (h (lv[i]'hil) (List.getElem_mem hil)) k hkl; rw [hpx] at this; simp [this] at hc7
            refine sr_ ?_
            refine os_ mv_ ?_
            refine nm_ [2] ?_
            refine CD.ret ?_
            refine r1_ ?_
            exact ⟨vi (check_seg hwk hbad).symm, rfl⟩
           ·have hc7' := hc7
            (try simp only [V.cnd, ne_eq] at hc7')
            have hnx : (t.pg ((lv[i]'hil)[k]'hkl)).next = (lv[i]'hil).getD (k + 1) (-1) := by rw [hpx]; simpa using hc7
            refine CD.skip ?_
            refine CD.region ?_
            refine os_ bn_ ?_
            refine os_ mv_ ?_
            refine nm_ [1, 7, 71, 72, 73, 77, 78, 79] ?_
            refine ⟨(k + 1), ⟨104, [(1, .v (.pointer (some ⟨b1, 0, none⟩))), (7, .list 1 ((lv[i]'hil).flatMap cI) (lv[i]'hil).length), (71, .list 1 (lv.flatMap cLv) lv.length), (72, .v (.int .i64 (lv.length : Nat))), (73, .v (.int .i64 (i : Nat))), (77, .list 1 ((lv[i]'hil).flatMap cI) (lv[i]'hil).length), (78, .v (.int .i64 ((lv[i]'hil).length : Nat))), (79, .v (.int .i64 (((k + 1)) : Nat)))], [⟨b1, 26, 2, [.list 5 (t.pages.flatMap cP) t.pages.length, .v (.int .i64 t.root)]⟩]⟩, ?_, Wk.asS (n := 104) rfl (by repeat (first | exact List.Sublist.refl _ | apply List.Sublist.cons_cons | apply List.Sublist.cons)) ⟨lq_, lq_, lq_, lq_, lq_, lq_, lq_, lq_, trivial⟩, (by omega), (fun j h0 h => by rcases Nat.lt_or_ge j k with q | q; exact hn j q h; obtain rfl : j = k := (by omega); exact hnx), rfl⟩
            first | omega | (simp only []; omega)
          ·have hc5' := hc5
           (try simp only [V.cnd, ne_eq] at hc5')
           have hseg : Seg t (lv[i]'hil) (-1) := seg_iff.2 fun j hj => hn j (by omega) hj
           refine CD.exit ?_
           refine CD.region ?_
           refine os_ bn_ ?_
           refine os_ mv_ ?_
           refine nm_ [1, 71, 72, 73] ?_
           refine ⟨(i + 1), ⟨104, [(1, .v (.pointer (some ⟨b1, 0, none⟩))), (71, .list 1 (lv.flatMap cLv) lv.length), (72, .v (.int .i64 (lv.length : Nat))), (73, .v (.int .i64 (((i + 1)) : Nat)))], [⟨b1, 26, 2, [.list 5 (t.pages.flatMap cP) t.pages.length, .v (.int .i64 t.root)]⟩]⟩, ?_, Wk.asS (n := 104) rfl (by repeat (first | exact List.Sublist.refl _ | apply List.Sublist.cons_cons | apply List.Sublist.cons)) ⟨lq_, lq_, lq_, lq_, trivial⟩, (by omega), (fun j h0 h => by rcases Nat.lt_or_ge j i with q | q; exact hs1 j q h; obtain rfl : j = i := (by omega); exact hseg), rfl⟩
           first | omega | (simp only []; omega)
         ·have hc4' := hc4
          (try simp only [V.cnd, ne_eq] at hc4')
          have hfin : i = lv.length := by omega
          refine CD.exit ?_
          refine sr_ ?_
          refine os_ mv_ ?_
          refine nm_ [2] ?_
          refine CD.ret ?_
          refine r1_ ?_
          exact ⟨vi (check_yes (by omega) hall hwk hcnt fun l hl => by obtain ⟨j, hj, rfl⟩ := List.mem_iff_getElem.1 hl; exact hs1 j (by omega) hj).symm, rfl⟩

end Go.Proofs.Ythnobhekodiciaa.Tw

namespace Go.Proofs.Ythnobhekodiciaa.Tw
open Go.RowKit V Go.Proofs.Ythnobhekodiciaa.Tr Pk
set_option linter.unusedVariables false
set_option linter.unusedSimpArgs false

/-- What a tree and a key are refused for. -/
noncomputable def refF (t : TreeL) (k : K) : Int := if checkF t = 0 then (if keyQ k = true then 0 else 1) else checkF t
theorem refF_bad {t : TreeL} {k : K} (h : ¬ checkF t = 0) : refF t k = checkF t := by unfold refF; rw [if_neg h]
theorem refF_size {t : TreeL} {k : K} (h : checkF t = 0) (hk : keyQ k = false) : refF t k = 1 := by unfold refF; rw [if_pos h, hk]; rfl
theorem refF_ok {t : TreeL} {k : K} (h : checkF t = 0) (hk : keyQ k = true) : refF t k = 0 := by unfold refF; rw [if_pos h, hk]; rfl
/-- The row that stands at a key's place. -/
def rowF (t : TreeL) (k : K) (h : Nat) : Int := (t.pg (leafF t k h t.root)).kids.getD (placeF (t.pg (leafF t k h t.root)) k) 0
noncomputable def findF (t : TreeL) (k : K) (h : Nat) : Int × Int := if refF t k = 0 then (if thereB t k h = true then (rowF t k h, 0) else (0, 8)) else (0, refF t k)
theorem valid_hb {t : TreeL} {h : Nat} (v : Valid t h) : ∀ p ∈ t.pages, p.keys.length ≤ maxLen ∧ p.kids.length ≤ maxLen := fun p hp => by
 have po := v.page p hp
 have hmx : maxLen = 9223372036854775807 := rfl
 have h1 := po.few
 cases hl : p.leaf with
 | true => have := po.leaf hl; omega
 | false => have := (po.node hl).1; omega
theorem valid_path {t : TreeL} {h : Nat} (v : Valid t h) (k : K) : (pathF t k h t.root).length ≤ 1000000 := by
 rw [path_len]; have := v.high; have := v.most; omega
theorem keyQ_len {k : K} (h : keyQ k = true) : 0 < k.length ∧ k.length ≤ 100 := of_decide_eq_true h
variable {G : List (Nat × List Value)}

set_option maxHeartbeats 4000000 in
set_option maxRecDepth 100000 in
theorem checked_vp (t : TreeL) (k : K) (hb : ∀ p ∈ t.pages, p.keys.length ≤ maxLen ∧ p.kids.length ≤ maxLen) : VP Try.prog G 22 [.agg (cT t), .list 1 (k.flatMap cB) k.length] (.v (.int .i64 (refF t k))) := by
 refine VC.body Try.func22 rfl Try.ntmps22 (Nat.le_of_ble_eq_true rfl) fun X0 w0 S00 => ?_
 have hcv := check_vp (G := G) t hb
 unfold cT at hcv
 unfold cT
 refine sr_ ?_
 refine OD.box (ds := [_, _]) (wants_plain rfl) rfl rfl ot rfl rfl (fun b2 => ?_)
 refine os_ mv_ ?_
 refine OD.wk (Wk.as_ (n := 14) (l' := [(1, _), (2, _)]) (S' := [⟨b2, 26, 2, [_, _]⟩]) rfl rfl ⟨lk, lk, trivial⟩) ?_
 refine OD.nil ?_
 refine CD.seq ?_
 refine sr_ ?_
 refine os_ (lab_ 0 [_, _]) ?_
 refine OD.callP (wants_plain rfl) rfl rfl rfl Try.call19 (hcv) ⟨ot, trivial⟩ ?_
 refine os_ mv_ ?_
 refine OD.wk (Wk.as_ (n := 14) (l' := [(1, _), (5, _)]) (S' := [⟨b2, 26, 2, [_, _]⟩]) rfl rfl ⟨lk, lk, trivial⟩) ?_
 refine OD.nil ?_
 refine sr_ ?_
 refine os_ mv_ ?_
 refine os_ bn_ ?_
 refine nm_ [1, 5, 9] ?_
 refine CD.cond ot (fun hc0 => ?_) (fun hc0 => ?_)
 ·have hc0' := hc0
  (try simp only [V.cnd, ne_eq] at hc0')
  have hn : ¬ checkF t = 0 := by simpa using hc0
  refine sr_ ?_
  refine os_ mv_ ?_
  refine os_ mv_ ?_
  refine nm_ [4] ?_
  refine CD.ret ?_
  refine r1_ ?_
  first | exact ⟨vi (refF_bad hn).symm, rfl⟩ | exact ⟨vi (refF_size hz (by simpa using hc1)).symm, rfl⟩ | exact ⟨vi (refF_ok hz (by simpa using hc1)).symm, rfl⟩
 ·have hc0' := hc0
  (try simp only [V.cnd, ne_eq] at hc0')
  have hz : checkF t = 0 := by simpa using hc0
  refine CD.skip ?_
  refine CD.seq ?_
  refine sr_ ?_
  refine os_ mv_ ?_
  refine OD.callP (wants_plain rfl) rfl rfl rfl Try.call38 (key_vp k) ⟨ot, trivial⟩ ?_
  refine os_ un_ ?_
  refine OD.wk (Wk.as_ (n := 14) (l' := [(13, _)]) (S' := [⟨b2, 26, 2, [_, _]⟩]) rfl rfl ⟨lk, trivial⟩) ?_
  refine OD.nil ?_
  refine CD.cond ot (fun hc1 => ?_) (fun hc1 => ?_)
  ·have hc1' := hc1
   (try simp only [V.cnd, ne_eq] at hc1')
   refine sr_ ?_
   refine os_ mv_ ?_
   refine nm_ [4] ?_
   refine CD.ret ?_
   refine r1_ ?_
   first | exact ⟨vi (refF_bad hn).symm, rfl⟩ | exact ⟨vi (refF_size hz (by simpa using hc1)).symm, rfl⟩ | exact ⟨vi (refF_ok hz (by simpa using hc1)).symm, rfl⟩
  ·have hc1' := hc1
   (try simp only [V.cnd, ne_eq] at hc1')
   refine CD.skip ?_
   refine sr_ ?_
   refine os_ mv_ ?_
   refine nm_ [4] ?_
   refine CD.ret ?_
   refine r1_ ?_
   first | exact ⟨vi (refF_bad hn).symm, rfl⟩ | exact ⟨vi (refF_size hz (by simpa using hc1)).symm, rfl⟩ | exact ⟨vi (refF_ok hz (by simpa using hc1)).symm, rfl⟩

set_option maxHeartbeats 4000000 in
set_option maxRecDepth 100000 in
theorem find_x (t : TreeL) (h : Nat) (k : K) (hb : ∀ p ∈ t.pages, p.keys.length ≤ maxLen ∧ p.kids.length ≤ maxLen) (hv : checkF t = 0 → Valid t h) : VP Try.prog G 18 [.agg (cT t), .list 1 (k.flatMap cB) k.length] (.tup [.v (.int .i64 (findF t k h).1), .v (.int .i64 (findF t k h).2)]) := by
 refine VC.body Try.func18 rfl Try.ntmps18 (Nat.le_of_ble_eq_true rfl) fun X0 w0 S00 => ?_
 have hcv := checked_vp (G := G) t k hb
 unfold cT at hcv
 unfold cT
 have hmx : maxLen = 9223372036854775807 := rfl
 refine sr_ ?_
 refine OD.box (ds := [_, _]) (wants_plain rfl) rfl rfl ot rfl rfl (fun b2 => ?_)
 refine os_ mv_ ?_
 refine os_ mv_ ?_
 refine OD.wk (Wk.as_ (n := 34) (l' := [(1, _), (2, _)]) (S' := [⟨b2, 26, 2, [_, _]⟩]) rfl rfl ⟨lk, lk, trivial⟩) ?_
 refine OD.nil ?_
 refine CD.seq ?_
 refine sr_ ?_
 refine os_ (lab_ 0 [_, _]) ?_
 refine os_ mv_ ?_
 refine OD.callP (wants_plain rfl) rfl rfl rfl Try.call22 (hcv) ⟨ot, ot, trivial⟩ ?_
 refine os_ mv_ ?_
 refine OD.wk (Wk.as_ (n := 34) (l' := [(1, _), (2, _), (6, _)]) (S' := [⟨b2, 26, 2, [_, _]⟩]) rfl rfl ⟨lk, lk, lk, trivial⟩) ?_
 refine OD.nil ?_
 refine sr_ ?_
 refine os_ mv_ ?_
 refine os_ bn_ ?_
 refine nm_ [1, 2, 6, 14] ?_
 refine CD.cond ot (fun hc0 => ?_) (fun hc0 => ?_)
 ·have hc0' := hc0
  (try simp only [V.cnd, ne_eq] at hc0')
  have hn : ¬ refF t k = 0 := by simpa using hc0
  refine sr_ ?_
  refine os_ mv_ ?_
  refine os_ mv_ ?_
  refine os_ mv_ ?_
  refine nm_ [4, 5] ?_
  refine CD.ret ?_
  refine r2_ ?_
  exact ⟨by unfold findF; rw [if_neg hn], rfl⟩
 ·have hc0' := hc0
  (try simp only [V.cnd, ne_eq] at hc0')
  have hz : refF t k = 0 := by simpa using hc0
  have hc : checkF t = 0 := Classical.byContradiction fun e => by rw [refF_bad e] at hz; exact e hz
  have hkq : keyQ k = true := by cases hq : keyQ k with | true => rfl | false => rw [refF_size hc hq] at hz; cases hz
  have v := hv hc
  have hkl := keyQ_len hkq
  have hfv := find_vp (G := G) t h v k (by omega) (valid_path v k)
  unfold cT at hfv
  obtain ⟨q1, hleaf⟩ := v.leaf k
  have hlt : (leafF t k h t.root).toNat < t.pages.length := by omega
  have hpg : t.pg (leafF t k h t.root) = (t.pages[(leafF t k h t.root).toNat]'hlt) := pg_at q1
  refine CD.skip ?_
  refine sr_ ?_
  refine os_ (lab_ 0 [_, _]) ?_
  refine os_ mv_ ?_
  refine OD.callP (wants_plain rfl) rfl rfl rfl Try.call23 (hfv) ⟨ot, ot, trivial⟩ ?_
  refine os_ mv_ ?_
  refine os_ ex_ ?_
  refine os_ ex_ ?_
  refine os_ ex_ ?_
  refine os_ mv_ ?_
  refine os_ mv_ ?_
  refine os_ mv_ ?_
  refine OD.wk (Wk.as_ (n := 34) (l' := [(2, _), (7, _), (8, _), (9, _)]) (S' := [⟨b2, 26, 2, [_, _]⟩]) rfl rfl ⟨lk, lk, lk, lk, trivial⟩) ?_
  refine OD.nil ?_
  refine CD.seq ?_
  refine sr_ ?_
  refine os_ mv_ ?_
  refine os_ un_ ?_
  refine nm_ [2, 7, 8, 24] ?_
  refine CD.cond ot (fun hc1 => ?_) (fun hc1 => ?_)
  ·have hc1' := hc1
   (try simp only [V.cnd, ne_eq] at hc1')
   have hth : thereB t k h = false := by simpa using hc1
   refine sr_ ?_
   refine os_ mv_ ?_
   refine os_ mv_ ?_
   refine nm_ [4, 5] ?_
   refine CD.ret ?_
   refine r2_ ?_
   exact ⟨by unfold findF; rw [if_pos hz, if_neg (by rw [hth]; decide)], rfl⟩
  ·have hc1' := hc1
   (try simp only [V.cnd, ne_eq] at hc1')
   have hth : thereB t k h = true := by simpa using hc1
   obtain ⟨ha, hke⟩ := (thereB_iff v k).1 hth
   have po := v.page _ (pg_mem q1)
   have hle := po.leaf hleaf
   have hat0 : placeF (t.pg (leafF t k h t.root)) k < (t.pg (leafF t k h t.root)).kids.length := by omega
   have hat : placeF (t.pages[(leafF t k h t.root).toNat]'hlt) k < (t.pages[(leafF t k h t.root).toNat]'hlt).kids.length := by rw [← hpg]; exact hat0
   rw [hpg]
   refine CD.skip ?_
   refine sr_ ?_
   refine os_ (fa_ 0) ?_
   refine os_ (lb_ 0) ?_
   refine os_ mv_ ?_
   refine os_ (ix_ 5 (h := by first | exact .l (j := (leafF t k h t.root).toNat) (Int.toNat_of_nonneg q1.1).symm hlt | exact .r (j := (leafF t k h t.root).toNat) (Int.toNat_of_nonneg q1.1).symm hlt)) ?_
   refine os_ (fa_ 2) ?_
   refine os_ ld_ ?_
   refine os_ mv_ ?_
   refine os_ (ix_ 1 (h := by first | exact .l (j := placeF (t.pages[(leafF t k h t.root).toNat]'hlt) k) rfl hat | exact .r (j := placeF (t.pages[(leafF t k h t.root).toNat]'hlt) k) rfl hat)) ?_
   refine os_ ld_ ?_
   refine os_ mv_ ?_
   refine os_ mv_ ?_
   refine nm_ [4, 5] ?_
   refine CD.ret ?_
   refine r2_ ?_
   exact ⟨by unfold findF rowF; rw [if_pos hz, if_pos hth, hpg, getD_kid hat], rfl⟩

theorem places26_Twb : ∀ w, ((#[{ name := "Pages", type := 24, offset := 0, embedded := false, tag := "", pkgPath := "", byteOffset := 0 }, { name := "Root", type := 3, offset := 1, embedded := false, tag := "", pkgPath := "", byteOffset := 24 }] : Array Field).mapM fun f => do pure (f.offset, ← sizeOf f.type) : Sem (Array (Nat × Nat))).run Try.prog w = .ok #[(0, 1), (1, 1)] w := fun w => by simp [Try.sizeOf24, Try.sizeOf3]

theorem places44_Twb : ∀ w, ((#[{ name := "Leaf", type := 4, offset := 0, embedded := false, tag := "", pkgPath := "", byteOffset := 0 }, { name := "Keys", type := 42, offset := 1, embedded := false, tag := "", pkgPath := "", byteOffset := 8 }, { name := "Kids", type := 22, offset := 2, embedded := false, tag := "", pkgPath := "", byteOffset := 32 }, { name := "High", type := 31, offset := 3, embedded := false, tag := "", pkgPath := "", byteOffset := 56 }, { name := "Next", type := 3, offset := 4, embedded := false, tag := "", pkgPath := "", byteOffset := 80 }] : Array Field).mapM fun f => do pure (f.offset, ← sizeOf f.type) : Sem (Array (Nat × Nat))).run Try.prog w = .ok #[(0, 1), (1, 1), (2, 1), (3, 1), (4, 1)] w := fun w => by simp [Try.sizeOf22, Try.sizeOf3, Try.sizeOf31, Try.sizeOf4, Try.sizeOf42]

set_option maxHeartbeats 4000000 in
set_option maxRecDepth 100000 in
theorem new_vc (hdummy : True) : VC Try.prog G 13 [] [] (fun r S => ∃ b, r = .agg [.v (.slice (some ⟨b, 0, none⟩) 1 1), .v (.int .i64 0)] ∧ S = [⟨b, 44, 5, [.v (.bool true), .v (.slice none 0 0), .v (.slice none 0 0), .v (.slice none 0 0), .v (.int .i64 (-1))]⟩]) := by
 refine VC.body Try.func13 rfl Try.ntmps13 (Nat.le_of_ble_eq_true rfl) fun X0 w0 S00 => ?_
 refine sr_ ?_
 refine OD.alloc (ds := [_, _]) (wants_plain rfl) rfl rfl Try.zeroValue26 rfl (fun b0 => ?_)
 refine OD.wk (Wk.as_ (n := 4) (l' := [(0, _)]) (S' := [⟨b0, 26, 2, [_, _]⟩]) rfl rfl ⟨lk, trivial⟩) ?_
 refine OD.nil ?_
 refine sr_ ?_
 refine OD.still (wants_plain rfl) rfl (still_bld (pl := [(0, _), (4, _)]) (ds := [_, _, _, _, _]) rfl Try.zeroValue44 Try.runUnderlying44 places44_Twb ⟨rfl, opd_const, rfl, opd_const, trivial⟩ rfl rfl) ?_
 refine OD.bldS (pl := numD 0 [_]) (zvs := [.bool false, .slice none 0 0, .slice none 0 0, .slice none 0 0, .int .i64 0]) (ds := [_, _, _, _, _]) (wants_plain rfl) rfl rfl Try.zeroValue44 Try.runUnderlying24 Try.sizeOf44 rfl rfl (by kernel_rfl) ⟨rfl, ot, trivial⟩ (by exact rfl) (fill_full (by exact rfl) (by exact rfl) (by exact rfl)) (fun b2 => ?_)
 refine OD.still (wants_plain rfl) rfl (still_bld (pl := [(0, _)]) (ds := [_, _]) rfl Try.zeroValue26 Try.runUnderlying26 places26_Twb ⟨rfl, ot, trivial⟩ rfl rfl) ?_
 refine OD.store (k := 1) (cs' := [_, _]) (wants_plain rfl) rfl rfl ot rfl rfl ot rfl rfl Try.sizeOf26 rfl rfl rfl ?_
 refine OD.wk (Wk.as_ (n := 4) (l' := [(0, _)]) (S' := [⟨b2, 44, 5, [_, _, _, _, _]⟩, ⟨b0, 26, 2, [_, _]⟩]) rfl rfl ⟨lk, trivial⟩) ?_
 refine OD.nil ?_
 refine CD.ret ?_
 refine ⟨.inr rfl, _, [_], (List.Sublist.cons_cons _ (List.nil_sublist _)), ret_one Try.results13 (res_cells (k := 1) (ds := [_, _]) (Nat.le_of_ble_eq_true rfl) lk rfl rfl Try.isAgg26 Try.sizeOf26 rfl rfl), ?_⟩
 exact ⟨_, rfl, rfl⟩

end Go.Proofs.Ythnobhekodiciaa.Tw

namespace Go.Proofs.Ythnobhekodiciaa.Tr
open Go.Lib (compareBytes)
set_option linter.unusedVariables false
set_option linter.unusedSimpArgs false
variable {t : TreeL} {k : K} {row : Int}
/-- The page of a key's way, so many levels above its leaf. -/
def nodeF (t : TreeL) (k : K) : Nat → Int → Nat → Int
  | 0, i, _ => i
  | h + 1, i, m => if m = h + 1 then i else nodeF t k h ((t.pg i).kids.getD (placeF (t.pg i) k) 0) m
theorem nodeF_top : ∀ (h : Nat) (i : Int), nodeF t k h i h = i
 | 0, _ => rfl
 | h + 1, i => by rw [nodeF, if_pos rfl]
theorem nodeF_step : ∀ {h : Nat} {i : Int} {m : Nat}, m < h → nodeF t k h i m = (t.pg (nodeF t k h i (m + 1))).kids.getD (placeF (t.pg (nodeF t k h i (m + 1))) k) 0
 | 0, _, _, hm => by omega
 | h + 1, i, m, hm => by
  rw [nodeF, if_neg (by omega), nodeF]
  by_cases e : m = h
  ·subst e; rw [nodeF_top, if_pos rfl]
  ·rw [if_neg (by omega)]; exact nodeF_step (by omega)
theorem path_node : ∀ {h : Nat} {i : Int} {m : Nat}, m ≤ h → (pathF t k h i)[h - m]? = some (nodeF t k h i m)
  | 0, i, m, _ => by obtain rfl : m = 0 := by omega
                     rfl
  | h + 1, i, m, hm => by
    rw [pathF, nodeF]
    by_cases e : m = h + 1
    · subst e; rw [if_pos rfl, Nat.sub_self]; rfl
    · rw [if_neg e, show h + 1 - m = (h - m) + 1 from by omega, List.getElem?_cons_succ]; exact path_node (by omega)
theorem at_level {n : Int} (hp : ∀ p ∈ t.pages, PageOk p n) : ∀ {h : Nat} {i : Int} {low high : K}, OkT t h i low high → (ids t h i).Nodup → inR low high k → (∀ x ∈ ents t h i, x.1 ≠ k) → ∀ m, m ≤ h →
  ∃ lo hi, OkT t m (nodeF t k h i m) lo hi ∧ (ids t m (nodeF t k h i m)).Nodup ∧ inR lo hi k ∧ ∀ x ∈ ents t m (nodeF t k h i m), x.1 ≠ k
 | 0, i, low, high, ok, nd, hk, hn, m, hm => by
  obtain rfl : m = 0 := by omega
  exact ⟨low, high, ok, nd, hk, hn⟩
 | h + 1, i, low, high, ok, nd, hk, hn, m, hm => by
  by_cases e : m = h + 1
  ·subst e; rw [nodeF_top]; exact ⟨low, high, ok, nd, hk, hn⟩
  ·obtain ⟨q1, q2, q3, q4, q5⟩ := id ok
   have po := hp _ (pg_mem q1)
   obtain ⟨d1, d2⟩ := down po q2 q3 hk
   have := at_level hp (q5 _ d1) (apart_ids d1 nd).1 d2 (fun x hx => hn x (by rw [ents]; exact List.mem_flatMap.2 ⟨_, List.getElem_mem d1, hx⟩)) m (by omega)
   rw [← getD_kid d1] at this
   rw [nodeF, if_neg e]; exact this
/-- What is known when a key and what it leads to are to be put into a page. -/
structure PendOk (u : TreeL) (i : Int) (up : K) (kid : Int) : Prop where
  page : ∀ p ∈ u.pages, PageOk p u.pages.length
  rg : 0 ≤ i ∧ i < u.pages.length
  out : up ∉ (u.pg i).keys
  len : 1 ≤ up.length ∧ up.length ≤ 100
  high : (u.pg i).high ≠ [] → klt up (u.pg i).high
  nn : 0 ≤ kid
  nnl : (u.pg i).leaf = false → kid < u.pages.length
/-- What is to be put into the page so many levels above the leaf. -/
def pendF (t : TreeL) (k : K) (row : Int) (h m : Nat) : TreeL × Option (K × Int) := if m = 0 then (t, some (k, row)) else insR t k row (m - 1) (nodeF t k h t.root (m - 1))
theorem pend_top (h : Nat) : pendF t k row h (h + 1) = insR t k row h t.root := by unfold pendF; rw [if_neg (by omega), Nat.add_sub_cancel, nodeF_top]
theorem pend_next {h m : Nat} (hm : m ≤ h) {u : TreeL} {up : K} {kid : Int} (e : pendF t k row h m = (u, some (up, kid))) : pendF t k row h (m + 1) = putT u (nodeF t k h t.root m) up kid := by
 unfold pendF at e ⊢
 rw [if_neg (by omega), Nat.add_sub_cancel]
 cases m with
 | zero => rw [if_pos rfl] at e; injection e with e1 e2; injection e2 with e2; injection e2 with e2 e3; subst e1 e2 e3; rw [insR]
 | succ m => rw [if_neg (by omega), Nat.add_sub_cancel, nodeF_step (by omega)] at e; rw [insR, e]
theorem pend_skip {h m : Nat} (h0 : 0 < m) (hm : m ≤ h) {u : TreeL} (e : pendF t k row h m = (u, none)) : pendF t k row h (m + 1) = (u, none) := by
 unfold pendF at e ⊢
 rw [if_neg (by omega), Nat.add_sub_cancel]
 cases m with
 | zero => omega
 | succ m => rw [if_neg (by omega), Nat.add_sub_cancel, nodeF_step (by omega)] at e; rw [insR, e]
theorem pend_none {h : Nat} {u : TreeL} : ∀ (d m : Nat), m + d = h + 1 → 0 < m → pendF t k row h m = (u, none) → insR t k row h t.root = (u, none)
  | 0, m, hm, _, e => by obtain rfl : m = h + 1 := by omega
                         rw [← pend_top]; exact e
  | d + 1, m, hm, h0, e => pend_none d (m + 1) (by omega) (by omega) (pend_skip h0 (by omega) e)
theorem pend_ins {h : Nat} (v : Valid t h) (hn : ∀ x ∈ allE t h, x.1 ≠ k) (hl : 1 ≤ k.length ∧ k.length ≤ 100) (hr : 0 ≤ row) {m : Nat} (hm : m ≤ h) : ∃ lo hi, OkT t m (nodeF t k h t.root m) lo hi ∧ inR lo hi k ∧ Ins t (insR t k row m (nodeF t k h t.root m)).1 m (nodeF t k h t.root m) lo hi k row (insR t k row m (nodeF t k h t.root m)).2 := by
 obtain ⟨lo, hi, ok, nd, hk, hne⟩ := at_level v.page v.ok v.once (inR_all k) hn m hm
 exact ⟨lo, hi, ok, hk, ins_ok v.page ok nd hk hne hl hr⟩
theorem pend_size {h : Nat} (v : Valid t h) (hn : ∀ x ∈ allE t h, x.1 ≠ k) (hl : 1 ≤ k.length ∧ k.length ≤ 100) (hr : 0 ≤ row) {m : Nat} (hm : m ≤ h + 1) {u : TreeL} {r : Option (K × Int)} (e : pendF t k row h m = (u, r)) : u.root = t.root ∧ u.pages.length ≤ t.pages.length + m ∧ t.pages.length ≤ u.pages.length ∧ ∀ p ∈ u.pages, PageOk p u.pages.length := by
 unfold pendF at e
 cases m with
 | zero => rw [if_pos rfl] at e; injection e with e1 e2; subst e1; exact ⟨rfl, Nat.le_refl _, Nat.le_refl _, v.page⟩
 | succ m =>
  rw [if_neg (by omega), Nat.add_sub_cancel] at e
  obtain ⟨lo, hi, _, _, I⟩ := pend_ins v hn hl hr (m := m) (by omega)
  rw [e] at I
  exact ⟨I.root, I.more, I.le, I.page⟩
theorem pend_up {h : Nat} (v : Valid t h) (hn : ∀ x ∈ allE t h, x.1 ≠ k) (hl : 1 ≤ k.length ∧ k.length ≤ 100) (hr : 0 ≤ row) {m : Nat} (hm : m ≤ h + 1) {u : TreeL} {up : K} {kid : Int} (e : pendF t k row h m = (u, some (up, kid))) : up.length ≤ 100 := by
 unfold pendF at e
 cases m with
 | zero => rw [if_pos rfl] at e; injection e with e1 e2; injection e2 with e2; injection e2 with e2 e3; subst e2; exact hl.2
 | succ m =>
  rw [if_neg (by omega), Nat.add_sub_cancel] at e
  obtain ⟨lo, hi, _, _, I⟩ := pend_ins v hn hl hr (m := m) (by omega)
  rw [e] at I
  exact I.ok.1.2
theorem pend_ok {h : Nat} (v : Valid t h) (hn : ∀ x ∈ allE t h, x.1 ≠ k) (hl : 1 ≤ k.length ∧ k.length ≤ 100) (hr : 0 ≤ row) {m : Nat} (hm : m ≤ h) {u : TreeL} {up : K} {kid : Int} (e : pendF t k row h m = (u, some (up, kid))) : PendOk u (nodeF t k h t.root m) up kid := by
 cases m with
 | zero =>
  unfold pendF at e
  rw [if_pos rfl] at e; injection e with e1 e2; injection e2 with e2; injection e2 with e2 e3; subst e1 e2 e3
  obtain ⟨lo, hi, ⟨q1, q2, q3, q4⟩, nd, hk, hne⟩ := at_level v.page v.ok v.once (inR_all k) hn 0 hm
  refine ⟨v.page, q1, fun hm => ?_, hl, fun hh => ?_, hr, fun h => by rw [q2] at h; cases h⟩
  ·have po := v.page _ (pg_mem q1)
   have hlen := po.leaf q2
   obtain ⟨a, ha, he⟩ := List.mem_iff_getElem.1 hm
   exact hne (k, (t.pg (nodeF t k h t.root 0)).kids[a]'(by omega)) ((pageE_mem hlen).2 ⟨a, ha, by rw [he]⟩) rfl
  ·rw [q3] at hh ⊢; exact hk.2 hh
 | succ m =>
  obtain ⟨s1, s2, s3, s4⟩ := pend_size v hn hl hr (by omega) e
  unfold pendF at e
  rw [if_neg (by omega), Nat.add_sub_cancel] at e
  obtain ⟨lo, hi, ok, nd, hk, hne⟩ := at_level v.page v.ok v.once (inR_all k) hn (m + 1) hm
  obtain ⟨q1, q2, q3, q4, q5⟩ := id ok
  have po := v.page _ (pg_mem q1)
  obtain ⟨d1, d2⟩ := down po q2 q3 hk
  have ih := ins_ok (row := row) v.page (q5 _ d1) (apart_ids d1 nd).1 d2 (fun x hx => hne x (by rw [ents]; exact List.mem_flatMap.2 ⟨_, List.getElem_mem d1, hx⟩)) hl hr
  rw [← getD_kid d1, ← nodeF_step (by omega), e, nodeF_step (by omega)] at ih
  have M : Mid t u m (nodeF t k h t.root (m + 1)) lo hi (placeF (t.pg (nodeF t k h t.root (m + 1))) k) k row (some (up, kid)) := ⟨v.page, ok, nd, d1, d2, ih⟩
  obtain ⟨m1, m2, m3, m4⟩ := M.place
  have es := M.same
  obtain ⟨o1, o2, o3, o4, o5⟩ : (1 ≤ up.length ∧ up.length ≤ 100) ∧ _ ∧ _ ∧ _ ∧ OkT u m kid up _ := ih.ok
  have hki := o5.idx
  refine ⟨s4, ⟨q1.1, by omega⟩, by rw [es]; exact m2, o1, fun hh => ?_, hki.1, fun _ => hki.2⟩
  rw [es, q3] at hh ⊢; exact m3.2 hh
end Go.Proofs.Ythnobhekodiciaa.Tr

namespace Go.Proofs.Ythnobhekodiciaa.Tr
open Go.Lib (compareBytes)
set_option linter.unusedVariables false
set_option linter.unusedSimpArgs false
variable {t : TreeL} {h : Nat} {k : K}

theorem Seg.tail {i : Int} {r : List Int} {e : Int} (h : Seg t (i :: r) e) : Seg t r e := by
 cases r with
 | nil => trivial
 | cons j r => exact h.2
theorem Seg.next {i : Int} {r : List Int} {e : Int} (h : Seg t (i :: r) e) : (t.pg i).next = r.headD e := by
 cases r with
 | nil => exact h
 | cons j r => exact h.1
theorem Seg.drop {e : Int} : ∀ {a b : List Int}, Seg t (a ++ b) e → Seg t b e
 | [], _, h => h
 | i :: a, b, h => Seg.drop (a := a) (Seg.tail h)
/-- LeafL that lead to one another, up to the last one. -/
structure LeafL (t : TreeL) (ls : List Int) : Prop where
  seg : Seg t ls (-1)
  at_ : ∀ l ∈ ls, (0 ≤ l ∧ l < t.pages.length) ∧ (t.pg l).leaf = true
theorem LeafL.tail {i : Int} {r : List Int} (h : LeafL t (i :: r)) : LeafL t r := ⟨Seg.tail h.seg, fun l hl => h.at_ l (List.mem_cons_of_mem _ hl)⟩
end Go.Proofs.Ythnobhekodiciaa.Tr

namespace Go.Proofs.Ythnobhekodiciaa.Tw
end Go.Proofs.Ythnobhekodiciaa.Tw


namespace Go.Proofs.Ythnobhekodiciaa.Tw
end Go.Proofs.Ythnobhekodiciaa.Tw


namespace Go.Proofs.Ythnobhekodiciaa.Tw
end Go.Proofs.Ythnobhekodiciaa.Tw


namespace Go.Proofs.Ythnobhekodiciaa.Tw
open Go.RowKit V Go.Proofs.Ythnobhekodiciaa.Tr Pk
set_option linter.unusedVariables false
set_option linter.unusedSimpArgs false

theorem del_new {α : Type} {g : α → List D} (hg : ∀ a, (g a).length = 1) {q : List α} {i cap : Nat} (hi : i < q.length) (hc : q.length ≤ cap) : ((q.flatMap g).drop (offs cap (i + 1) 1 0)).take ((q.length - (i + 1)) * 1) = (q.drop (i + 1)).flatMap g := by
 unfold offs
 by_cases h : cap = i + 1
 ·have e : q.length = i + 1 := by omega
  have e2 : q.drop (i + 1) = [] := List.drop_of_length_le (by omega)
  rw [if_pos h, show q.length - (i + 1) = 0 from by omega, e2]; simp
 ·rw [if_neg h, Nat.zero_add, fm_drop hg, List.take_of_length_le]
  rw [fm_len hg, List.length_drop]; exact Nat.le_refl _
theorem del_cs {α : Type} {g : α → List D} (hg : ∀ a, (g a).length = 1) {q : List α} {i : Nat} (hi : i < q.length) : setAll (q.flatMap g) (i * 1) ((q.drop (i + 1)).flatMap g) = (q.eraseIdx i).flatMap g ++ (q.flatMap g).drop (i * 1 + ((q.drop (i + 1)).flatMap g).length) := by
 rw [setAll_eq _ _ _ (by rw [fm_len hg, fm_len hg, List.length_drop]; omega), fm_take hg, List.eraseIdx_eq_take_drop_succ, List.flatMap_append]
variable {G : List (Nat × List Value)}

theorem infodeleteK_vc : (Try.prog.info? 31).map (fun i => i.size) = some 1 := by kernel_rfl

set_option maxHeartbeats 4000000 in
set_option maxRecDepth 100000 in
theorem deleteK_vc (q : List K) (i cap b : Nat) (hi : i < q.length) (hc : q.length ≤ cap) (hm : cap ≤ maxLen) (hs : q.length ≤ 1000) : VC Try.prog G 35 [.v (.slice (some ⟨b, 0, none⟩) q.length cap), .v (.int .i64 (i : Nat)), .v (.int .i64 ((i + 1 : Nat) : Int))] [⟨b, 31, cap * 1, q.flatMap cK⟩] (fun r S => r = .v (.slice (some ⟨b, 0, none⟩) (q.length - 1) cap) ∧ S = [⟨b, 31, cap * 1, (q.eraseIdx i).flatMap cK⟩]) := by
 refine VC.body Try.func35 rfl Try.ntmps35 (Nat.le_of_ble_eq_true rfl) fun X0 w0 S00 => ?_
 refine sr_ ?_
 refine os_ mv_ ?_
 refine nm_ [0, 1, 2] ?_
 refine sr_ ?_
 refine os_ mv_ ?_
 refine os_ mv_ ?_
 refine os_ mv_ ?_
 refine os_ mv_ ?_
 refine os_ ln_ ?_
 refine OD.still (wants_plain rfl) rfl (still_rslice3 rfl ot ot ot ot Try.runUnderlying42 Try.sizeOf31 (by omega) (by omega) hc) ?_
 refine OD.wk (Wk.as_ (n := 33) (l' := [(0, _), (1, _), (2, _)]) (S' := [_]) rfl rfl ⟨lk, lk, lk, trivial⟩) ?_
 refine OD.nil ?_
 refine CD.seq ?_
 refine sr_ ?_
 refine os_ mv_ ?_
 refine os_ mv_ ?_
 refine os_ bn_ ?_
 refine nm_ [0, 1, 2, 16] ?_
 refine CD.cond ot (fun hc0 => ?_) (fun hc0 => ?_)
 ·exact absurd hc0 (by simp at hc0; omega)
 ·have hc0' := hc0
  (try simp only [V.cnd, ne_eq] at hc0')
  refine CD.skip ?_
  refine sr_ ?_
  refine os_ mv_ ?_
  refine os_ ln_ ?_
  refine os_ mv_ ?_
  refine nm_ [0, 1, 2, 7] ?_
  refine CD.seq ?_
  refine CD.draw (bks (List.eraseIdx _ 0)) (by kernel_rfl) (fun _ h => (List.Sublist.map _ (List.eraseIdx_sublist _ 0)).subset h) ?_
  refine a0_ 0 rfl mv_ ?_
  refine a0_ 1 rfl mv_ ?_
  refine a0_ 2 rfl (still_rs (l := 0) (h := i) rfl ot trivial ⟨_, ot⟩ (by first | exact sl_head cK_len (fun h => by cases h) Try.runUnderlying42 Try.sizeOf31 (by omega) | exact sl_row (fun h => by cases h) Try.runUnderlying42 Try.sizeOf31 (by omega) | exact sl_rowG (fun _ => rfl) (fun h => by cases h) Try.runUnderlying42 Try.sizeOf31 (by omega) (by omega) | exact sl_list (fun _ => rfl) (fun h => by cases h) Try.runUnderlying42 Try.sizeOf31 (by omega) (by omega))) ?_
  refine a0_ 3 rfl mv_ ?_
  refine a0_ 4 rfl mv_ ?_
  refine a0_ 5 rfl (still_rs (l := i + 1) rfl ot ⟨_, ot⟩ trivial (by first | exact sl_tail rfl cK_len (fun h => by cases h) Try.runUnderlying42 Try.sizeOf31 (by omega) | exact sl_row (fun _ => rfl) Try.runUnderlying42 Try.sizeOf31 (by omega) | exact sl_rowG (fun h => by cases h) (fun _ => rfl) Try.runUnderlying42 Try.sizeOf31 (by omega) (by omega) | exact sl_list (fun h => by cases h) (fun _ => rfl) Try.runUnderlying42 Try.sizeOf31 (by omega) (by omega))) ?_
  refine AD0.later rfl ?_
  refine AD.one (i := 6) (by kernel_rfl) ?_
  refine AStep.appendIn (n := i) (m := q.length - (i + 1)) (k := 0) (new := (q.drop (i + 1)).flatMap cK) (cs' := (q.eraseIdx i).flatMap cK ++ (q.flatMap cK).drop (i * 1 + ((q.drop (i + 1)).flatMap cK).length)) rfl (wants_plain rfl) rfl rfl Try.underlying42 infodeleteK_vc ot rfl rfl ot (del_new cK_len hi hc) (by rw [fm_len cK_len, List.length_drop]) (fm_one cK_one _) (by omega) (by show _ ≤ (q.flatMap cK).length; rw [fm_len cK_len]; omega) (del_cs cK_len hi) (by intro b hb; simp [bks, St.put] at hb ⊢; try first | exact hb | simp [hb] | (rcases hb with hb | hb <;> simp [hb]) | (rcases hb with hb | hb | hb <;> simp [hb])) ?_
  rw [show i + (q.length - (i + 1)) = q.length - 1 from by omega]
  refine a1_ 7 rfl mv_ ?_
  refine AD.wk (y := ⟨33, [(0, _), (7, _)], [_]⟩) (Wk.as_ rfl rfl ⟨lk, lk, trivial⟩) rfl ?_
  refine AD.done (by kernel_rfl) ?_
  refine sr_ ?_
  refine os_ mv_ ?_
  refine os_ mv_ ?_
  refine os_ ln_ ?_
  refine os_ mv_ ?_
  refine OD.still (wants_plain rfl) rfl (still_rs (l := q.length - 1) (h := q.length) rfl ot ⟨_, ot⟩ ⟨_, ot⟩ (by first | exact sl_row (fun h => by cases h) Try.runUnderlying42 Try.sizeOf31 (by omega) | exact sl_rowG (fun h => by cases h) (fun h => by cases h) Try.runUnderlying42 Try.sizeOf31 (by omega) (by omega) | exact sl_list (fun h => by cases h) (fun h => by cases h) Try.runUnderlying42 Try.sizeOf31 (by omega) (by omega))) ?_
  refine OD.shrink (k := 0) (cs' := (q.eraseIdx i).flatMap cK) rfl (List.prefix_append _ _) ?_
  refine OD.clear (k := 0) (sz := 1) (wants_plain rfl) rfl rfl Try.underlying42 Try.zeroValue31 rfl (by kernel_rfl) ot rfl rfl (fun h0 => ?_) ?_
  ·have h3 : offs cap (q.length - 1) 1 0 = (q.length - 1) * 1 := by unfold offs; rw [if_neg (by omega)]; omega
   rw [h3]; refine ⟨?_, ?_⟩
   ·show ((q.eraseIdx i).flatMap cK).length ≤ _; rw [fm_len cK_len, List.length_eraseIdx_of_lt hi]; exact Nat.le_refl _
   ·show _ ≤ cap * 1; omega
  refine OD.wk (Wk.as_ (n := 33) (l' := [(0, _)]) (S' := [_]) rfl rfl ⟨lk, trivial⟩) ?_
  refine OD.nil ?_
  refine sr_ ?_
  refine os_ mv_ ?_
  refine os_ mv_ ?_
  refine nm_ [6] ?_
  refine CD.ret ?_
  refine ⟨.inr rfl, _, [_], (by repeat (first | exact List.Sublist.refl _ | apply List.Sublist.cons)), ret_one Try.results35 (res_tmp (Nat.le_of_ble_eq_true rfl) lk), ?_⟩
  exact ⟨rfl, rfl⟩

theorem infodeleteI_vc : (Try.prog.info? 3).map (fun i => i.size) = some 1 := by kernel_rfl

set_option maxHeartbeats 4000000 in
set_option maxRecDepth 100000 in
theorem deleteI_vc (q : List Int) (i cap b : Nat) (hi : i < q.length) (hc : q.length ≤ cap) (hm : cap ≤ maxLen) (hs : q.length ≤ 1000) : VC Try.prog G 36 [.v (.slice (some ⟨b, 0, none⟩) q.length cap), .v (.int .i64 (i : Nat)), .v (.int .i64 ((i + 1 : Nat) : Int))] [⟨b, 3, cap * 1, q.flatMap cI⟩] (fun r S => r = .v (.slice (some ⟨b, 0, none⟩) (q.length - 1) cap) ∧ S = [⟨b, 3, cap * 1, (q.eraseIdx i).flatMap cI⟩]) := by
 refine VC.body Try.func36 rfl Try.ntmps36 (Nat.le_of_ble_eq_true rfl) fun X0 w0 S00 => ?_
 refine sr_ ?_
 refine os_ mv_ ?_
 refine nm_ [0, 1, 2] ?_
 refine sr_ ?_
 refine os_ mv_ ?_
 refine os_ mv_ ?_
 refine os_ mv_ ?_
 refine os_ mv_ ?_
 refine os_ ln_ ?_
 refine OD.still (wants_plain rfl) rfl (still_rslice3 rfl ot ot ot ot Try.runUnderlying22 Try.sizeOf3 (by omega) (by omega) hc) ?_
 refine OD.wk (Wk.as_ (n := 33) (l' := [(0, _), (1, _), (2, _)]) (S' := [_]) rfl rfl ⟨lk, lk, lk, trivial⟩) ?_
 refine OD.nil ?_
 refine CD.seq ?_
 refine sr_ ?_
 refine os_ mv_ ?_
 refine os_ mv_ ?_
 refine os_ bn_ ?_
 refine nm_ [0, 1, 2, 16] ?_
 refine CD.cond ot (fun hc0 => ?_) (fun hc0 => ?_)
 ·exact absurd hc0 (by simp at hc0; omega)
 ·have hc0' := hc0
  (try simp only [V.cnd, ne_eq] at hc0')
  refine CD.skip ?_
  refine sr_ ?_
  refine os_ mv_ ?_
  refine os_ ln_ ?_
  refine os_ mv_ ?_
  refine nm_ [0, 1, 2, 7] ?_
  refine CD.seq ?_
  refine CD.draw (bks (List.eraseIdx _ 0)) (by kernel_rfl) (fun _ h => (List.Sublist.map _ (List.eraseIdx_sublist _ 0)).subset h) ?_
  refine a0_ 0 rfl mv_ ?_
  refine a0_ 1 rfl mv_ ?_
  refine a0_ 2 rfl (still_rs (l := 0) (h := i) rfl ot trivial ⟨_, ot⟩ (by first | exact sl_head cI_len (fun h => by cases h) Try.runUnderlying22 Try.sizeOf3 (by omega) | exact sl_row (fun h => by cases h) Try.runUnderlying22 Try.sizeOf3 (by omega) | exact sl_rowG (fun _ => rfl) (fun h => by cases h) Try.runUnderlying22 Try.sizeOf3 (by omega) (by omega) | exact sl_list (fun _ => rfl) (fun h => by cases h) Try.runUnderlying22 Try.sizeOf3 (by omega) (by omega))) ?_
  refine a0_ 3 rfl mv_ ?_
  refine a0_ 4 rfl mv_ ?_
  refine a0_ 5 rfl (still_rs (l := i + 1) rfl ot ⟨_, ot⟩ trivial (by first | exact sl_tail rfl cI_len (fun h => by cases h) Try.runUnderlying22 Try.sizeOf3 (by omega) | exact sl_row (fun _ => rfl) Try.runUnderlying22 Try.sizeOf3 (by omega) | exact sl_rowG (fun h => by cases h) (fun _ => rfl) Try.runUnderlying22 Try.sizeOf3 (by omega) (by omega) | exact sl_list (fun h => by cases h) (fun _ => rfl) Try.runUnderlying22 Try.sizeOf3 (by omega) (by omega))) ?_
  refine AD0.later rfl ?_
  refine AD.one (i := 6) (by kernel_rfl) ?_
  refine AStep.appendIn (n := i) (m := q.length - (i + 1)) (k := 0) (new := (q.drop (i + 1)).flatMap cI) (cs' := (q.eraseIdx i).flatMap cI ++ (q.flatMap cI).drop (i * 1 + ((q.drop (i + 1)).flatMap cI).length)) rfl (wants_plain rfl) rfl rfl Try.underlying22 infodeleteI_vc ot rfl rfl ot (del_new cI_len hi hc) (by rw [fm_len cI_len, List.length_drop]) (fm_one cI_one _) (by omega) (by show _ ≤ (q.flatMap cI).length; rw [fm_len cI_len]; omega) (del_cs cI_len hi) (by intro b hb; simp [bks, St.put] at hb ⊢; try first | exact hb | simp [hb] | (rcases hb with hb | hb <;> simp [hb]) | (rcases hb with hb | hb | hb <;> simp [hb])) ?_
  rw [show i + (q.length - (i + 1)) = q.length - 1 from by omega]
  refine a1_ 7 rfl mv_ ?_
  refine AD.wk (y := ⟨33, [(0, _), (7, _)], [_]⟩) (Wk.as_ rfl rfl ⟨lk, lk, trivial⟩) rfl ?_
  refine AD.done (by kernel_rfl) ?_
  refine sr_ ?_
  refine os_ mv_ ?_
  refine os_ mv_ ?_
  refine os_ ln_ ?_
  refine os_ mv_ ?_
  refine OD.still (wants_plain rfl) rfl (still_rs (l := q.length - 1) (h := q.length) rfl ot ⟨_, ot⟩ ⟨_, ot⟩ (by first | exact sl_row (fun h => by cases h) Try.runUnderlying22 Try.sizeOf3 (by omega) | exact sl_rowG (fun h => by cases h) (fun h => by cases h) Try.runUnderlying22 Try.sizeOf3 (by omega) (by omega) | exact sl_list (fun h => by cases h) (fun h => by cases h) Try.runUnderlying22 Try.sizeOf3 (by omega) (by omega))) ?_
  refine OD.shrink (k := 0) (cs' := (q.eraseIdx i).flatMap cI) rfl (List.prefix_append _ _) ?_
  refine OD.clear (k := 0) (sz := 1) (wants_plain rfl) rfl rfl Try.underlying22 Try.zeroValue3 rfl (by kernel_rfl) ot rfl rfl (fun h0 => ?_) ?_
  ·have h3 : offs cap (q.length - 1) 1 0 = (q.length - 1) * 1 := by unfold offs; rw [if_neg (by omega)]; omega
   rw [h3]; refine ⟨?_, ?_⟩
   ·show ((q.eraseIdx i).flatMap cI).length ≤ _; rw [fm_len cI_len, List.length_eraseIdx_of_lt hi]; exact Nat.le_refl _
   ·show _ ≤ cap * 1; omega
  refine OD.wk (Wk.as_ (n := 33) (l' := [(0, _)]) (S' := [_]) rfl rfl ⟨lk, trivial⟩) ?_
  refine OD.nil ?_
  refine sr_ ?_
  refine os_ mv_ ?_
  refine os_ mv_ ?_
  refine nm_ [6] ?_
  refine CD.ret ?_
  refine ⟨.inr rfl, _, [_], (by repeat (first | exact List.Sublist.refl _ | apply List.Sublist.cons)), ret_one Try.results36 (res_tmp (Nat.le_of_ble_eq_true rfl) lk), ?_⟩
  exact ⟨rfl, rfl⟩

end Go.Proofs.Ythnobhekodiciaa.Tw

namespace Go.Proofs.Ythnobhekodiciaa.Tw
open Go.RowKit V Go.Proofs.Ythnobhekodiciaa.Tr Pk
set_option linter.unusedVariables false
set_option linter.unusedSimpArgs false

theorem fm_cellset {α : Type} {g : α → List D} {sz : Nat} (hg : ∀ a, (g a).length = sz) {a' : α} {c : Nat} {d : D} (hc : c < sz) : ∀ {L : List α} {j : Nat} (hj : j < L.length), g a' = (g L[j]).set c d → (L.flatMap g).set (j * sz + c) d = (L.set j a').flatMap g
 | a :: L, 0, _, h => by
  simp only [List.getElem_cons_zero] at h
  rw [List.flatMap_cons, List.set_cons_zero, List.flatMap_cons, h, List.set_append_left _ _ (by rw [hg]; omega), Nat.zero_mul, Nat.zero_add]
 | a :: L, j + 1, hj, h => by
  have ih := fm_cellset hg hc (L := L) (j := j) (by simpa using hj) (by simpa using h)
  have e : (j + 1) * sz + c = sz + (j * sz + c) := by rw [Nat.succ_mul]; omega
  rw [List.flatMap_cons, List.set_cons_succ, List.flatMap_cons, ← ih, List.set_append_right _ _ (by rw [hg]; omega), hg, e, show sz + (j * sz + c) - sz = j * sz + c from by omega]
theorem map_pg {t : TreeL} {L : List PgO} (hL : L.map PgO.p = t.pages) {i : Int} (hi : 0 ≤ i ∧ i < t.pages.length) (hj : i.toNat < L.length) : L[i.toNat].p = t.pg i := by
 rw [pg_at hi]
 have h : (L.map PgO.p)[i.toNat]? = some L[i.toNat].p := by rw [List.getElem?_map, List.getElem?_eq_getElem hj]; rfl
 rw [hL, List.getElem?_eq_getElem (by omega)] at h
 exact (Option.some.inj h).symm
def noT : TreeL := ⟨[], 0⟩
/-- A tree and a word are handed back. -/
def RetE (te : TreeL × Int) (r : D) (S : List Blk) : Prop := ∃ r', r = .tup [r', .v (.int .i64 te.2)] ∧ RetT te.1 r' S
theorem retE_no (e : Int) : RetE (noT, e) (.tup [.agg [.v (.slice none 0 0), .v (.int .i64 0)], .v (.int .i64 e)]) [] := ⟨_, rfl, [], none, 0, [], rfl, ownL_nil, (fun o h => by cases h), rfl, rfl⟩
noncomputable def delF (t : TreeL) (k : K) (h : Nat) : TreeL × Int := if refF t k = 0 then (if thereB t k h = true then (delT t h k, 0) else (noT, 8)) else (noT, refF t k)
theorem refF_zero {t : TreeL} {k : K} (h : refF t k = 0) : checkF t = 0 ∧ keyQ k = true := by
 have hc : checkF t = 0 := Classical.byContradiction fun e => by rw [refF_bad e] at h; exact e h
 refine ⟨hc, ?_⟩
 cases hq : keyQ k with
 | true => rfl
 | false => rw [refF_size hc hq] at h; cases h
variable {G : List (Nat × List Value)}

theorem places26_Twd : ∀ w, ((#[{ name := "Pages", type := 24, offset := 0, embedded := false, tag := "", pkgPath := "", byteOffset := 0 }, { name := "Root", type := 3, offset := 1, embedded := false, tag := "", pkgPath := "", byteOffset := 24 }] : Array Field).mapM fun f => do pure (f.offset, ← sizeOf f.type) : Sem (Array (Nat × Nat))).run Try.prog w = .ok #[(0, 1), (1, 1)] w := fun w => by simp [Try.sizeOf24, Try.sizeOf3]

set_option maxHeartbeats 4000000 in
set_option maxRecDepth 100000 in
theorem delete_vc (t : TreeL) (h : Nat) (k : K) (hb : ∀ p ∈ t.pages, p.keys.length ≤ maxLen ∧ p.kids.length ≤ maxLen) (hv : checkF t = 0 → Valid t h) : VC Try.prog G 20 [.agg [.list 5 (t.pages.flatMap cP) t.pages.length, .v (.int .i64 t.root)], .list 1 (k.flatMap cB) k.length] [] (RetE (delF t k h)) := by
 refine VC.body Try.func20 rfl Try.ntmps20 (Nat.le_of_ble_eq_true rfl) fun X0 w0 S00 => ?_
 have hcv := checked_vp (G := G) t k hb
 unfold cT at hcv
 have hcT : cT t = [.list 5 (t.pages.flatMap cP) t.pages.length, .v (.int .i64 t.root)] := rfl
 have hmx : maxLen = 9223372036854775807 := rfl
 refine sr_ ?_
 refine OD.box (ds := [_, _]) (wants_plain rfl) rfl rfl ot rfl rfl (fun b2 => ?_)
 refine OD.alloc (ds := [_, _]) (wants_plain rfl) rfl rfl Try.zeroValue26 rfl (fun b4 => ?_)
 refine os_ mv_ ?_
 refine OD.wk (Wk.as_ (n := 58) (l' := [(1, _), (2, _), (4, _)]) (S' := [⟨b4, 26, 2, [_, _]⟩, ⟨b2, 26, 2, [_, _]⟩]) rfl rfl ⟨lk, lk, lk, trivial⟩) ?_
 refine OD.nil ?_
 refine CD.seq ?_
 refine sr_ ?_
 refine os_ (lab_ 1 [_, _]) ?_
 refine os_ mv_ ?_
 refine OD.callP (wants_plain rfl) rfl rfl rfl Try.call22 (hcv) ⟨ot, ot, trivial⟩ ?_
 refine os_ mv_ ?_
 refine OD.wk (Wk.as_ (n := 58) (l' := [(1, _), (2, _), (4, _), (6, _)]) (S' := [⟨b4, 26, 2, [_, _]⟩, ⟨b2, 26, 2, [_, _]⟩]) rfl rfl ⟨lk, lk, lk, lk, trivial⟩) ?_
 refine OD.nil ?_
 refine sr_ ?_
 refine os_ mv_ ?_
 refine os_ bn_ ?_
 refine nm_ [1, 2, 4, 6, 16] ?_
 refine CD.cond ot (fun hc0 => ?_) (fun hc0 => ?_)
 ·have hc0' := hc0
  (try simp only [V.cnd, ne_eq] at hc0')
  have hn : ¬ refF t k = 0 := by simpa using hc0
  refine sr_ ?_
  refine OD.still (wants_plain rfl) rfl (still_bld (pl := []) (ds := [_, _]) rfl Try.zeroValue26 Try.runUnderlying26 places26_Twd trivial rfl rfl) ?_
  refine os_ mv_ ?_
  refine OD.store (k := 0) (cs' := [_, _]) (wants_plain rfl) rfl rfl ot rfl rfl ot rfl rfl Try.sizeOf26 rfl rfl rfl ?_
  refine os_ mv_ ?_
  refine OD.wk (Wk.as_ (n := 58) (l' := [(4, _), (5, _)]) (S' := [⟨b4, 26, 2, [_, _]⟩, ⟨b2, 26, 2, [_, _]⟩]) rfl rfl ⟨lk, lk, trivial⟩) ?_
  refine OD.nil ?_
  refine CD.ret ?_
  refine ⟨.inr rfl, _, [], List.nil_sublist _, ret_two Try.results20 (res_cells (k := 0) (ds := [_, _]) (Nat.le_of_ble_eq_true rfl) lk rfl rfl Try.isAgg26 Try.sizeOf26 rfl rfl) (res_tmp (Nat.le_of_ble_eq_true rfl) lk), ?_⟩
  unfold delF; rw [if_neg hn]; exact retE_no _
 ·have hc0' := hc0
  (try simp only [V.cnd, ne_eq] at hc0')
  have hz : refF t k = 0 := by simpa using hc0
  obtain ⟨hc, hkq⟩ := refF_zero hz
  have v := hv hc
  have hkl0 := keyQ_len hkq
  have hfv := find_vp (G := G) t h v k (by omega) (valid_path v k)
  obtain ⟨q1, hleaf⟩ := v.leaf k
  refine CD.skip ?_
  refine sr_ ?_
  refine os_ (lab_ 1 [_, _]) ?_
  refine OD.call (wants_plain rfl) rfl rfl rfl Try.call24 (own_vc t h v) ⟨ot, trivial⟩ (perm_none _) ?_
  rintro _ _ ⟨L, ad, cap, Sx, rfl, hox, hok, hL, rfl⟩
  refine OD.perm (S' := ⟨b4, 26, 2, [.v (.slice none 0 0), .v (.int .i64 0)]⟩ :: ⟨b2, 26, 2, [.list 5 (t.pages.flatMap cP) t.pages.length, .v (.int .i64 t.root)]⟩ :: (Sx ++ L.flatMap bO)) (perm_q11 (A := [_, _])) ?_
  refine OD.alloc (ds := [_, _]) (wants_plain rfl) rfl rfl Try.zeroValue26 rfl (fun b7 => ?_)
  refine OD.store (k := 0) (cs' := [_, _]) (wants_plain rfl) rfl rfl ot rfl rfl ot rfl rfl Try.sizeOf26 rfl rfl rfl ?_
  refine OD.wk (Wk.as_ (n := 58) (l' := [(1, _), (4, _), (7, _)]) (S' := (⟨b7, 26, 2, [_, _]⟩ :: ⟨b4, 26, 2, [_, _]⟩ :: ⟨b2, 26, 2, [_, _]⟩ :: (Sx ++ (L.flatMap bO)))) rfl rfl ⟨lk, lk, lk, trivial⟩) ?_
  refine OD.nil ?_
  refine sr_ ?_
  refine os_ (lab_ 0 [_, _]) ?_
  refine os_ mv_ ?_
  refine OD.look (wants_plain rfl) rfl rfl rfl Try.call23 (hfv) rfl ⟨⟨_, ot, by have := view_T (root := t.root) hox hok (fun B hB => List.mem_cons_of_mem ⟨b7, 26, 2, [.v (.slice ad L.length cap), .v (.int .i64 t.root)]⟩ (List.mem_cons_of_mem ⟨b4, 26, 2, [.v (.slice none 0 0), .v (.int .i64 0)]⟩ (List.mem_cons_of_mem ⟨b2, 26, 2, [.list 5 (t.pages.flatMap cP) t.pages.length, .v (.int .i64 t.root)]⟩ hB))); rw [hL] at this; exact this⟩, ⟨_, ot, view_same⟩, trivial⟩ ?_
  refine os_ mv_ ?_
  refine os_ ex_ ?_
  refine os_ ex_ ?_
  refine os_ ex_ ?_
  refine os_ mv_ ?_
  refine os_ mv_ ?_
  refine os_ mv_ ?_
  refine OD.wk (Wk.as_ (n := 58) (l' := [(4, _), (7, _), (8, _), (9, _), (10, _)]) (S' := (⟨b7, 26, 2, [_, _]⟩ :: ⟨b4, 26, 2, [_, _]⟩ :: ⟨b2, 26, 2, [_, _]⟩ :: (Sx ++ (L.flatMap bO)))) rfl rfl ⟨lk, lk, lk, lk, lk, trivial⟩) ?_
  refine OD.nil ?_
  refine CD.seq ?_
  refine sr_ ?_
  refine os_ mv_ ?_
  refine os_ un_ ?_
  refine nm_ [4, 7, 8, 9, 29] ?_
  refine CD.cond ot (fun hc1 => ?_) (fun hc1 => ?_)
  ·have hc1' := hc1
   (try simp only [V.cnd, ne_eq] at hc1')
   have hth : thereB t k h = false := by simpa using hc1
   refine sr_ ?_
   refine OD.still (wants_plain rfl) rfl (still_bld (pl := []) (ds := [_, _]) rfl Try.zeroValue26 Try.runUnderlying26 places26_Twd trivial rfl rfl) ?_
   refine OD.store (k := 1) (cs' := [_, _]) (wants_plain rfl) rfl rfl ot rfl rfl ot rfl rfl Try.sizeOf26 rfl rfl rfl ?_
   refine os_ mv_ ?_
   refine OD.wk (Wk.as_ (n := 58) (l' := [(4, _), (5, _)]) (S' := (⟨b7, 26, 2, [_, _]⟩ :: ⟨b4, 26, 2, [_, _]⟩ :: ⟨b2, 26, 2, [_, _]⟩ :: (Sx ++ (L.flatMap bO)))) rfl rfl ⟨lk, lk, trivial⟩) ?_
   refine OD.nil ?_
   refine CD.ret ?_
   refine ⟨.inr rfl, _, [], List.nil_sublist _, ret_two Try.results20 (res_cells (k := 1) (ds := [_, _]) (Nat.le_of_ble_eq_true rfl) lk rfl rfl Try.isAgg26 Try.sizeOf26 rfl rfl) (res_tmp (Nat.le_of_ble_eq_true rfl) lk), ?_⟩
   unfold delF; rw [if_pos hz, if_neg (by rw [hth]; decide)]; exact retE_no _
  ·have hc1' := hc1
   (try simp only [V.cnd, ne_eq] at hc1')
   have hth : thereB t k h = true := by simpa using hc1
   obtain ⟨ha, hke⟩ := (thereB_iff v k).1 hth
   have po := v.page _ (pg_mem q1)
   have hle := po.leaf hleaf
   have hfw := po.few
   have hLl : L.length = t.pages.length := by rw [← hL, List.length_map]
   have hj : (leafF t k h t.root).toNat < L.length := by omega
   have hpj := map_pg hL q1 hj
   obtain ⟨bx, rfl, hxl, hxc, rfl⟩ := hox.pos (by omega)
   have hoj := hok _ (List.getElem_mem hj)
   obtain ⟨o, ho⟩ : ∃ o, o = L[(leafF t k h t.root).toNat] := ⟨_, rfl⟩
   rw [← ho] at hoj hpj
   rcases o with ⟨p, ak, ck, sk, ai, ci, si⟩
   have hpe : p = t.pg (leafF t k h t.root) := hpj
   obtain ⟨hk1, hi1⟩ : OwnKs p.keys ak ck sk ∧ OwnI p.kids ai ci si := hoj
   rw [← hpe] at ha hle hfw
   obtain ⟨bk, rfl, hkl, hkc, rfl⟩ := hk1.pos (by omega)
   obtain ⟨bi, rfl, hil, hic, rfl⟩ := hi1.pos (by omega)
   have hperm : (L.flatMap bO).Perm (⟨bk, 31, ck * 1, List.flatMap cK p.keys⟩ :: ⟨bi, 3, ci * 1, List.flatMap cI p.kids⟩ :: ((L.eraseIdx (leafF t k h t.root).toNat).flatMap bO)) := by have := perm_at bO hj; rw [← ho] at this; exact this
   refine CD.perm (S' := ⟨b7, 26, 2, [.v (.slice (some ⟨bx, 0, none⟩) L.length cap), .v (.int .i64 t.root)]⟩ :: ⟨b4, 26, 2, [.v (.slice none 0 0), .v (.int .i64 0)]⟩ :: ⟨b2, 26, 2, [.list 5 (t.pages.flatMap cP) t.pages.length, .v (.int .i64 t.root)]⟩ :: ⟨bx, 44, cap * 5, List.flatMap gO L⟩ :: ⟨bk, 31, ck * 1, List.flatMap cK p.keys⟩ :: ⟨bi, 3, ci * 1, List.flatMap cI p.kids⟩ :: ((L.eraseIdx (leafF t k h t.root).toNat).flatMap bO)) (List.Perm.cons _ (List.Perm.cons _ (List.Perm.cons _ (List.Perm.cons _ hperm)))) ?_
   rw [hpe] at ha
   have ha : (placeF (t.pg (leafF t k h t.root)) k) < p.keys.length := by rw [hpe]; exact ha
   have ha2 : (placeF (t.pg (leafF t k h t.root)) k) < p.kids.length := by omega
   have hid := hkl
   clear hk1 hi1
   refine CD.skip ?_
   refine sr_ ?_
   refine os_ (fa_ 0) ?_
   refine os_ (lb_ 0) ?_
   refine os_ mv_ ?_
   refine os_ (ix_ 5 (h := by first | exact .l (j := (leafF t k h t.root).toNat) (Int.toNat_of_nonneg q1.1).symm hj | exact .r (j := (leafF t k h t.root).toNat) (Int.toNat_of_nonneg q1.1).symm hj)) ?_
   refine os_ mv_ ?_
   refine nm_ [4, 7, 9, 11] ?_
   refine CD.seq ?_
   refine CD.draw (bks (List.take 3 _)) (by kernel_rfl) (fun _ h => (List.Sublist.map _ (List.take_sublist _ _)).subset h) ?_
   refine a0_ 0 rfl mv_ ?_
   refine a0_ 1 rfl mv_ ?_
   refine a0_ 2 rfl mv_ ?_
   refine a0_ 3 rfl nc_ ?_
   refine a0_ 4 rfl (fa_ 1) ?_
   refine a0_ 6 rfl mv_ ?_
   refine a0_ 7 rfl mv_ ?_
   refine a0_ 8 rfl (still_bin (r := .int .i64 (((placeF (t.pg (leafF t k h t.root)) k) + 1 : Nat) : Int)) rfl ot opd_const (bin_add (by rw [show (((placeF (t.pg (leafF t k h t.root)) k) : Nat) : Int) + 1 = (((placeF (t.pg (leafF t k h t.root)) k) + 1 : Nat) : Int) from rfl]; exact wrap_i64 (by omega) (by omega)))) ?_
   refine a0_ 10 rfl mv_ ?_
   refine a0_ 11 rfl nc_ ?_
   refine a0_ 12 rfl (fa_ 2) ?_
   refine a0_ 14 rfl mv_ ?_
   refine a0_ 15 rfl mv_ ?_
   refine a0_ 16 rfl (still_bin (r := .int .i64 (((placeF (t.pg (leafF t k h t.root)) k) + 1 : Nat) : Int)) rfl ot opd_const (bin_add (by rw [show (((placeF (t.pg (leafF t k h t.root)) k) : Nat) : Int) + 1 = (((placeF (t.pg (leafF t k h t.root)) k) + 1 : Nat) : Int) from rfl]; exact wrap_i64 (by omega) (by omega)))) ?_
   refine AD0.later rfl ?_
   refine AD.two (i := 5) (j := 13) (by kernel_rfl) ?_ ?_
   ·skip
    first | refine at_ rfl (still_r1 (mk := Op.load 42) rfl ot (ld_row (k := 3) (j := 1) (d := .v (.slice (some ⟨bk, 0, none⟩) p.keys.length ck)) (ls := L) gO_len rfl rfl rfl Try.isAgg42 hj (by rw [← ho]; rfl))) ?_ | refine at_ rfl (still_r1 (mk := Op.load 42) rfl ot (ld_row (k := 4) (j := 1) (d := .v (.slice (some ⟨bk, 0, none⟩) p.keys.length ck)) (ls := L) gO_len rfl rfl rfl Try.isAgg42 hj (by rw [← ho]; rfl))) ?_
    refine AD.two (i := 9) (j := 13) (by kernel_rfl) ?_ ?_
    ·skip
     refine AStep.call rfl (wants_plain rfl) rfl rfl rfl Try.call35 (deleteK_vc p.keys (placeF (t.pg (leafF t k h t.root)) k) ck bk ha hkl hkc (by omega)) ⟨ot, ot, ot, trivial⟩ (perm_one (k := 4) rfl) (by intro b hb; simp [bks, St.put] at hb ⊢; try first | exact hb | simp [hb] | (rcases hb with hb | hb <;> simp [hb]) | (rcases hb with hb | hb | hb <;> simp [hb])) ?_
     rintro _ _ ⟨rfl, rfl⟩
     refine AD.perm (S' := ⟨b7, 26, 2, [.v (.slice (some ⟨bx, 0, none⟩) L.length cap), .v (.int .i64 t.root)]⟩ :: ⟨b4, 26, 2, [.v (.slice none 0 0), .v (.int .i64 0)]⟩ :: ⟨b2, 26, 2, [.list 5 (t.pages.flatMap cP) t.pages.length, .v (.int .i64 t.root)]⟩ :: ⟨bx, 44, cap * 5, List.flatMap gO L⟩ :: ⟨bk, 31, ck * 1, List.flatMap cK (p.keys.eraseIdx (placeF (t.pg (leafF t k h t.root)) k))⟩ :: ⟨bi, 3, ci * 1, List.flatMap cI p.kids⟩ :: ((L.eraseIdx (leafF t k h t.root).toNat).flatMap bO)) (List.perm_middle (l₁ := [_, _, _, _])).symm ?_
     refine AD.one (i := 13) (by kernel_rfl) ?_
     first | refine at_ rfl (still_r1 (mk := Op.load 22) rfl ot (ld_row (k := 3) (j := 2) (d := .v (.slice (some ⟨bi, 0, none⟩) p.kids.length ci)) (ls := L) gO_len rfl rfl rfl Try.isAgg22 hj (by rw [← ho]; rfl))) ?_ | refine at_ rfl (still_r1 (mk := Op.load 22) rfl ot (ld_row (k := 4) (j := 2) (d := .v (.slice (some ⟨bi, 0, none⟩) p.kids.length ci)) (ls := L) gO_len rfl rfl rfl Try.isAgg22 hj (by rw [← ho]; rfl))) ?_
     refine AD.one (i := 17) (by kernel_rfl) ?_
     refine AStep.call rfl (wants_plain rfl) rfl rfl rfl Try.call36 (deleteI_vc p.kids (placeF (t.pg (leafF t k h t.root)) k) ci bi ha2 hil hic (by omega)) ⟨ot, ot, ot, trivial⟩ (perm_one (k := 5) rfl) (by intro b hb; simp [bks, St.put] at hb ⊢; try first | exact hb | simp [hb] | (rcases hb with hb | hb <;> simp [hb]) | (rcases hb with hb | hb | hb <;> simp [hb])) ?_
     rintro _ _ ⟨rfl, rfl⟩
     refine AD.perm (S' := ⟨b7, 26, 2, [.v (.slice (some ⟨bx, 0, none⟩) L.length cap), .v (.int .i64 t.root)]⟩ :: ⟨b4, 26, 2, [.v (.slice none 0 0), .v (.int .i64 0)]⟩ :: ⟨b2, 26, 2, [.list 5 (t.pages.flatMap cP) t.pages.length, .v (.int .i64 t.root)]⟩ :: ⟨bx, 44, cap * 5, List.flatMap gO L⟩ :: ⟨bk, 31, ck * 1, List.flatMap cK (p.keys.eraseIdx (placeF (t.pg (leafF t k h t.root)) k))⟩ :: ⟨bi, 3, ci * 1, List.flatMap cI (p.kids.eraseIdx (placeF (t.pg (leafF t k h t.root)) k))⟩ :: ((L.eraseIdx (leafF t k h t.root).toNat).flatMap bO)) (List.perm_middle (l₁ := [_, _, _, _, _])).symm ?_
     refine a1_ 18 rfl nc_ ?_
     refine a1_ 19 rfl (fa_ 1) ?_
     refine AD.one (i := 20) (by kernel_rfl) ?_
     refine AStep.storeAt (k := 3) (cs' := List.flatMap gO (L.set (leafF t k h t.root).toNat (⟨{ p with keys := (p.keys.eraseIdx (placeF (t.pg (leafF t k h t.root)) k)) }, some ⟨bk, 0, none⟩, ck, [⟨bk, 31, ck * 1, List.flatMap cK (p.keys.eraseIdx (placeF (t.pg (leafF t k h t.root)) k))⟩], some ⟨bi, 0, none⟩, ci, [⟨bi, 3, ci * 1, List.flatMap cI p.kids⟩]⟩ : PgO))) rfl (wants_plain rfl) rfl rfl ot rfl rfl ot rfl rfl Try.sizeOf42 rfl (by show 0 + (leafF t k h t.root).toNat * 5 + 1 + 1 ≤ (List.flatMap gO L).length; rw [fm_len gO_len]; omega) (by show (L.flatMap gO).set (0 + (leafF t k h t.root).toNat * 5 + 1) _ = _; rw [Nat.zero_add]; exact fm_cellset gO_len (by decide) hj (by rw [← ho]; show gO (⟨{ p with keys := (p.keys.eraseIdx (placeF (t.pg (leafF t k h t.root)) k)) }, some ⟨bk, 0, none⟩, ck, [⟨bk, 31, ck * 1, List.flatMap cK (p.keys.eraseIdx (placeF (t.pg (leafF t k h t.root)) k))⟩], some ⟨bi, 0, none⟩, ci, [⟨bi, 3, ci * 1, List.flatMap cI p.kids⟩]⟩ : PgO) = (gO (⟨p, some ⟨bk, 0, none⟩, ck, [⟨bk, 31, ck * 1, List.flatMap cK p.keys⟩], some ⟨bi, 0, none⟩, ci, [⟨bi, 3, ci * 1, List.flatMap cI p.kids⟩]⟩ : PgO)).set 1 _; unfold gO; rw [List.length_eraseIdx_of_lt ha]; rfl)) (by intro b hb; simp [bks, St.put] at hb ⊢; try first | exact hb | simp [hb] | (rcases hb with hb | hb <;> simp [hb]) | (rcases hb with hb | hb | hb <;> simp [hb])) ?_
     refine a1_ 21 rfl nc_ ?_
     refine a1_ 22 rfl (fa_ 2) ?_
     refine AD.one (i := 23) (by kernel_rfl) ?_
     refine AStep.storeAt (k := 3) (cs' := List.flatMap gO (L.set (leafF t k h t.root).toNat (⟨(cutP p (placeF (t.pg (leafF t k h t.root)) k)), some ⟨bk, 0, none⟩, ck, [⟨bk, 31, ck * 1, List.flatMap cK (p.keys.eraseIdx (placeF (t.pg (leafF t k h t.root)) k))⟩], some ⟨bi, 0, none⟩, ci, [⟨bi, 3, ci * 1, List.flatMap cI (p.kids.eraseIdx (placeF (t.pg (leafF t k h t.root)) k))⟩]⟩ : PgO))) rfl (wants_plain rfl) rfl rfl ot rfl rfl ot rfl rfl Try.sizeOf22 rfl (by show 0 + (leafF t k h t.root).toNat * 5 + 2 + 1 ≤ (List.flatMap gO (L.set (leafF t k h t.root).toNat (⟨{ p with keys := (p.keys.eraseIdx (placeF (t.pg (leafF t k h t.root)) k)) }, some ⟨bk, 0, none⟩, ck, [⟨bk, 31, ck * 1, List.flatMap cK (p.keys.eraseIdx (placeF (t.pg (leafF t k h t.root)) k))⟩], some ⟨bi, 0, none⟩, ci, [⟨bi, 3, ci * 1, List.flatMap cI p.kids⟩]⟩ : PgO))).length; rw [fm_len gO_len, List.length_set]; omega) (by show (List.flatMap gO (L.set (leafF t k h t.root).toNat (⟨{ p with keys := (p.keys.eraseIdx (placeF (t.pg (leafF t k h t.root)) k)) }, some ⟨bk, 0, none⟩, ck, [⟨bk, 31, ck * 1, List.flatMap cK (p.keys.eraseIdx (placeF (t.pg (leafF t k h t.root)) k))⟩], some ⟨bi, 0, none⟩, ci, [⟨bi, 3, ci * 1, List.flatMap cI p.kids⟩]⟩ : PgO))).set (0 + (leafF t k h t.root).toNat * 5 + 2) _ = _; rw [Nat.zero_add, fm_cellset gO_len (a' := (⟨(cutP p (placeF (t.pg (leafF t k h t.root)) k)), some ⟨bk, 0, none⟩, ck, [⟨bk, 31, ck * 1, List.flatMap cK (p.keys.eraseIdx (placeF (t.pg (leafF t k h t.root)) k))⟩], some ⟨bi, 0, none⟩, ci, [⟨bi, 3, ci * 1, List.flatMap cI (p.kids.eraseIdx (placeF (t.pg (leafF t k h t.root)) k))⟩]⟩ : PgO)) (by decide) (by rw [List.length_set]; exact hj) (by rw [List.getElem_set_self]; show gO (⟨(cutP p (placeF (t.pg (leafF t k h t.root)) k)), some ⟨bk, 0, none⟩, ck, [⟨bk, 31, ck * 1, List.flatMap cK (p.keys.eraseIdx (placeF (t.pg (leafF t k h t.root)) k))⟩], some ⟨bi, 0, none⟩, ci, [⟨bi, 3, ci * 1, List.flatMap cI (p.kids.eraseIdx (placeF (t.pg (leafF t k h t.root)) k))⟩]⟩ : PgO) = (gO (⟨{ p with keys := (p.keys.eraseIdx (placeF (t.pg (leafF t k h t.root)) k)) }, some ⟨bk, 0, none⟩, ck, [⟨bk, 31, ck * 1, List.flatMap cK (p.keys.eraseIdx (placeF (t.pg (leafF t k h t.root)) k))⟩], some ⟨bi, 0, none⟩, ci, [⟨bi, 3, ci * 1, List.flatMap cI p.kids⟩]⟩ : PgO)).set 2 _; unfold gO cutP; simp only []; rw [List.length_eraseIdx_of_lt ha2]; rfl), List.set_set]) (by intro b hb; simp [bks, St.put] at hb ⊢; try first | exact hb | simp [hb] | (rcases hb with hb | hb <;> simp [hb]) | (rcases hb with hb | hb | hb <;> simp [hb])) ?_
     have hpm : (⟨bk, 31, ck * 1, List.flatMap cK (p.keys.eraseIdx (placeF (t.pg (leafF t k h t.root)) k))⟩ :: ⟨bi, 3, ci * 1, List.flatMap cI (p.kids.eraseIdx (placeF (t.pg (leafF t k h t.root)) k))⟩ :: ((L.eraseIdx (leafF t k h t.root).toNat).flatMap bO)).Perm ((L.set (leafF t k h t.root).toNat (⟨(cutP p (placeF (t.pg (leafF t k h t.root)) k)), some ⟨bk, 0, none⟩, ck, [⟨bk, 31, ck * 1, List.flatMap cK (p.keys.eraseIdx (placeF (t.pg (leafF t k h t.root)) k))⟩], some ⟨bi, 0, none⟩, ci, [⟨bi, 3, ci * 1, List.flatMap cI (p.kids.eraseIdx (placeF (t.pg (leafF t k h t.root)) k))⟩]⟩ : PgO)).flatMap bO) := (perm_put bO hj (⟨(cutP p (placeF (t.pg (leafF t k h t.root)) k)), some ⟨bk, 0, none⟩, ck, [⟨bk, 31, ck * 1, List.flatMap cK (p.keys.eraseIdx (placeF (t.pg (leafF t k h t.root)) k))⟩], some ⟨bi, 0, none⟩, ci, [⟨bi, 3, ci * 1, List.flatMap cI (p.kids.eraseIdx (placeF (t.pg (leafF t k h t.root)) k))⟩]⟩ : PgO)).symm
     refine AD.perm (S' := ⟨b7, 26, 2, [.v (.slice (some ⟨bx, 0, none⟩) L.length cap), .v (.int .i64 t.root)]⟩ :: ⟨b4, 26, 2, [.v (.slice none 0 0), .v (.int .i64 0)]⟩ :: ⟨b2, 26, 2, [.list 5 (t.pages.flatMap cP) t.pages.length, .v (.int .i64 t.root)]⟩ :: (([⟨bx, 44, cap * 5, List.flatMap gO (L.set (leafF t k h t.root).toNat (⟨(cutP p (placeF (t.pg (leafF t k h t.root)) k)), some ⟨bk, 0, none⟩, ck, [⟨bk, 31, ck * 1, List.flatMap cK (p.keys.eraseIdx (placeF (t.pg (leafF t k h t.root)) k))⟩], some ⟨bi, 0, none⟩, ci, [⟨bi, 3, ci * 1, List.flatMap cI (p.kids.eraseIdx (placeF (t.pg (leafF t k h t.root)) k))⟩]⟩ : PgO))⟩] : List Blk) ++ (L.set (leafF t k h t.root).toNat (⟨(cutP p (placeF (t.pg (leafF t k h t.root)) k)), some ⟨bk, 0, none⟩, ck, [⟨bk, 31, ck * 1, List.flatMap cK (p.keys.eraseIdx (placeF (t.pg (leafF t k h t.root)) k))⟩], some ⟨bi, 0, none⟩, ci, [⟨bi, 3, ci * 1, List.flatMap cI (p.kids.eraseIdx (placeF (t.pg (leafF t k h t.root)) k))⟩]⟩ : PgO)).flatMap bO)) (List.Perm.cons _ (List.Perm.cons _ (List.Perm.cons _ (List.Perm.cons _ hpm)))) ?_
     refine AD.wk (y := ⟨58, [(4, _), (7, _)], (⟨b7, 26, 2, [_, _]⟩ :: ⟨b4, 26, 2, [_, _]⟩ :: ⟨b2, 26, 2, [_, _]⟩ :: ([⟨bx, 44, cap * 5, List.flatMap gO (L.set (leafF t k h t.root).toNat (⟨(cutP p (placeF (t.pg (leafF t k h t.root)) k)), some ⟨bk, 0, none⟩, ck, [⟨bk, 31, ck * 1, List.flatMap cK (p.keys.eraseIdx (placeF (t.pg (leafF t k h t.root)) k))⟩], some ⟨bi, 0, none⟩, ci, [⟨bi, 3, ci * 1, List.flatMap cI (p.kids.eraseIdx (placeF (t.pg (leafF t k h t.root)) k))⟩]⟩ : PgO))⟩] ++ (L.set (leafF t k h t.root).toNat (⟨(cutP p (placeF (t.pg (leafF t k h t.root)) k)), some ⟨bk, 0, none⟩, ck, [⟨bk, 31, ck * 1, List.flatMap cK (p.keys.eraseIdx (placeF (t.pg (leafF t k h t.root)) k))⟩], some ⟨bi, 0, none⟩, ci, [⟨bi, 3, ci * 1, List.flatMap cI (p.kids.eraseIdx (placeF (t.pg (leafF t k h t.root)) k))⟩]⟩ : PgO)).flatMap bO))⟩) (Wk.as_ rfl rfl ⟨lk, lk, trivial⟩) rfl ?_
     refine AD.done (by kernel_rfl) ?_
     refine sr_ ?_
     refine os_ (lab_ 0 [_, _]) ?_
     refine OD.store (k := 1) (cs' := [_, _]) (wants_plain rfl) rfl rfl ot rfl rfl ot rfl rfl Try.sizeOf26 rfl rfl rfl ?_
     refine os_ mv_ ?_
     refine OD.wk (Wk.as_ (n := 58) (l' := [(4, _), (5, _)]) (S' := (⟨b7, 26, 2, [_, _]⟩ :: ⟨b4, 26, 2, [_, _]⟩ :: ⟨b2, 26, 2, [_, _]⟩ :: ([⟨bx, 44, cap * 5, List.flatMap gO (L.set (leafF t k h t.root).toNat (⟨(cutP p (placeF (t.pg (leafF t k h t.root)) k)), some ⟨bk, 0, none⟩, ck, [⟨bk, 31, ck * 1, List.flatMap cK (p.keys.eraseIdx (placeF (t.pg (leafF t k h t.root)) k))⟩], some ⟨bi, 0, none⟩, ci, [⟨bi, 3, ci * 1, List.flatMap cI (p.kids.eraseIdx (placeF (t.pg (leafF t k h t.root)) k))⟩]⟩ : PgO))⟩] ++ (L.set (leafF t k h t.root).toNat (⟨(cutP p (placeF (t.pg (leafF t k h t.root)) k)), some ⟨bk, 0, none⟩, ck, [⟨bk, 31, ck * 1, List.flatMap cK (p.keys.eraseIdx (placeF (t.pg (leafF t k h t.root)) k))⟩], some ⟨bi, 0, none⟩, ci, [⟨bi, 3, ci * 1, List.flatMap cI (p.kids.eraseIdx (placeF (t.pg (leafF t k h t.root)) k))⟩]⟩ : PgO)).flatMap bO))) rfl rfl ⟨lk, lk, trivial⟩) ?_
     refine OD.nil ?_
     refine CD.ret ?_
     refine ⟨.inr rfl, _, ([⟨bx, 44, cap * 5, List.flatMap gO (L.set (leafF t k h t.root).toNat (⟨(cutP p (placeF (t.pg (leafF t k h t.root)) k)), some ⟨bk, 0, none⟩, ck, [⟨bk, 31, ck * 1, List.flatMap cK (p.keys.eraseIdx (placeF (t.pg (leafF t k h t.root)) k))⟩], some ⟨bi, 0, none⟩, ci, [⟨bi, 3, ci * 1, List.flatMap cI (p.kids.eraseIdx (placeF (t.pg (leafF t k h t.root)) k))⟩]⟩ : PgO))⟩] ++ (L.set (leafF t k h t.root).toNat (⟨(cutP p (placeF (t.pg (leafF t k h t.root)) k)), some ⟨bk, 0, none⟩, ck, [⟨bk, 31, ck * 1, List.flatMap cK (p.keys.eraseIdx (placeF (t.pg (leafF t k h t.root)) k))⟩], some ⟨bi, 0, none⟩, ci, [⟨bi, 3, ci * 1, List.flatMap cI (p.kids.eraseIdx (placeF (t.pg (leafF t k h t.root)) k))⟩]⟩ : PgO)).flatMap bO), (by repeat (first | exact List.Sublist.refl _ | apply List.Sublist.cons)), ret_two Try.results20 (res_cells (k := 1) (ds := [_, _]) (Nat.le_of_ble_eq_true rfl) lk rfl rfl Try.isAgg26 Try.sizeOf26 rfl rfl) (res_tmp (Nat.le_of_ble_eq_true rfl) lk), ?_⟩
     unfold delF; rw [if_pos hz, if_pos hth]
     refine ⟨_, rfl, L.set (leafF t k h t.root).toNat (⟨(cutP p (placeF (t.pg (leafF t k h t.root)) k)), some ⟨bk, 0, none⟩, ck, [⟨bk, 31, ck * 1, List.flatMap cK (p.keys.eraseIdx (placeF (t.pg (leafF t k h t.root)) k))⟩], some ⟨bi, 0, none⟩, ci, [⟨bi, 3, ci * 1, List.flatMap cI (p.kids.eraseIdx (placeF (t.pg (leafF t k h t.root)) k))⟩]⟩ : PgO), some ⟨bx, 0, none⟩, cap, _, by rw [List.length_set]; rfl, ownL_row (by rw [List.length_set]; exact hxl) hxc, fun x hx => ?_, ?_, rfl⟩
     ·rcases List.mem_or_eq_of_mem_set hx with hx | rfl
      ·exact hok x hx
      ·exact ⟨ownL_row (by show (p.keys.eraseIdx (placeF (t.pg (leafF t k h t.root)) k)).length ≤ ck; rw [List.length_eraseIdx_of_lt ha]; omega) hkc, ownL_row (by show (p.kids.eraseIdx (placeF (t.pg (leafF t k h t.root)) k)).length ≤ ci; rw [List.length_eraseIdx_of_lt ha2]; omega) hic⟩
     ·rw [List.map_set, hL]; show _ = t.pages.set (leafF t k h t.root).toNat (cutP (t.pg (leafF t k h t.root)) (placeF (t.pg (leafF t k h t.root)) k)); rw [← hpe]
    ·skip
     first | refine at_ rfl (still_r1 (mk := Op.load 22) rfl ot (ld_row (k := 3) (j := 2) (d := .v (.slice (some ⟨bi, 0, none⟩) p.kids.length ci)) (ls := L) gO_len rfl rfl rfl Try.isAgg22 hj (by rw [← ho]; rfl))) ?_ | refine at_ rfl (still_r1 (mk := Op.load 22) rfl ot (ld_row (k := 4) (j := 2) (d := .v (.slice (some ⟨bi, 0, none⟩) p.kids.length ci)) (ls := L) gO_len rfl rfl rfl Try.isAgg22 hj (by rw [← ho]; rfl))) ?_
     refine AD.one (i := 9) (by kernel_rfl) ?_
     refine AStep.call rfl (wants_plain rfl) rfl rfl rfl Try.call35 (deleteK_vc p.keys (placeF (t.pg (leafF t k h t.root)) k) ck bk ha hkl hkc (by omega)) ⟨ot, ot, ot, trivial⟩ (perm_one (k := 4) rfl) (by intro b hb; simp [bks, St.put] at hb ⊢; try first | exact hb | simp [hb] | (rcases hb with hb | hb <;> simp [hb]) | (rcases hb with hb | hb | hb <;> simp [hb])) ?_
     rintro _ _ ⟨rfl, rfl⟩
     refine AD.perm (S' := ⟨b7, 26, 2, [.v (.slice (some ⟨bx, 0, none⟩) L.length cap), .v (.int .i64 t.root)]⟩ :: ⟨b4, 26, 2, [.v (.slice none 0 0), .v (.int .i64 0)]⟩ :: ⟨b2, 26, 2, [.list 5 (t.pages.flatMap cP) t.pages.length, .v (.int .i64 t.root)]⟩ :: ⟨bx, 44, cap * 5, List.flatMap gO L⟩ :: ⟨bk, 31, ck * 1, List.flatMap cK (p.keys.eraseIdx (placeF (t.pg (leafF t k h t.root)) k))⟩ :: ⟨bi, 3, ci * 1, List.flatMap cI p.kids⟩ :: ((L.eraseIdx (leafF t k h t.root).toNat).flatMap bO)) (List.perm_middle (l₁ := [_, _, _, _])).symm ?_
     refine AD.one (i := 17) (by kernel_rfl) ?_
     refine AStep.call rfl (wants_plain rfl) rfl rfl rfl Try.call36 (deleteI_vc p.kids (placeF (t.pg (leafF t k h t.root)) k) ci bi ha2 hil hic (by omega)) ⟨ot, ot, ot, trivial⟩ (perm_one (k := 5) rfl) (by intro b hb; simp [bks, St.put] at hb ⊢; try first | exact hb | simp [hb] | (rcases hb with hb | hb <;> simp [hb]) | (rcases hb with hb | hb | hb <;> simp [hb])) ?_
     rintro _ _ ⟨rfl, rfl⟩
     refine AD.perm (S' := ⟨b7, 26, 2, [.v (.slice (some ⟨bx, 0, none⟩) L.length cap), .v (.int .i64 t.root)]⟩ :: ⟨b4, 26, 2, [.v (.slice none 0 0), .v (.int .i64 0)]⟩ :: ⟨b2, 26, 2, [.list 5 (t.pages.flatMap cP) t.pages.length, .v (.int .i64 t.root)]⟩ :: ⟨bx, 44, cap * 5, List.flatMap gO L⟩ :: ⟨bk, 31, ck * 1, List.flatMap cK (p.keys.eraseIdx (placeF (t.pg (leafF t k h t.root)) k))⟩ :: ⟨bi, 3, ci * 1, List.flatMap cI (p.kids.eraseIdx (placeF (t.pg (leafF t k h t.root)) k))⟩ :: ((L.eraseIdx (leafF t k h t.root).toNat).flatMap bO)) (List.perm_middle (l₁ := [_, _, _, _, _])).symm ?_
     refine a1_ 18 rfl nc_ ?_
     refine a1_ 19 rfl (fa_ 1) ?_
     refine AD.one (i := 20) (by kernel_rfl) ?_
     refine AStep.storeAt (k := 3) (cs' := List.flatMap gO (L.set (leafF t k h t.root).toNat (⟨{ p with keys := (p.keys.eraseIdx (placeF (t.pg (leafF t k h t.root)) k)) }, some ⟨bk, 0, none⟩, ck, [⟨bk, 31, ck * 1, List.flatMap cK (p.keys.eraseIdx (placeF (t.pg (leafF t k h t.root)) k))⟩], some ⟨bi, 0, none⟩, ci, [⟨bi, 3, ci * 1, List.flatMap cI p.kids⟩]⟩ : PgO))) rfl (wants_plain rfl) rfl rfl ot rfl rfl ot rfl rfl Try.sizeOf42 rfl (by show 0 + (leafF t k h t.root).toNat * 5 + 1 + 1 ≤ (List.flatMap gO L).length; rw [fm_len gO_len]; omega) (by show (L.flatMap gO).set (0 + (leafF t k h t.root).toNat * 5 + 1) _ = _; rw [Nat.zero_add]; exact fm_cellset gO_len (by decide) hj (by rw [← ho]; show gO (⟨{ p with keys := (p.keys.eraseIdx (placeF (t.pg (leafF t k h t.root)) k)) }, some ⟨bk, 0, none⟩, ck, [⟨bk, 31, ck * 1, List.flatMap cK (p.keys.eraseIdx (placeF (t.pg (leafF t k h t.root)) k))⟩], some ⟨bi, 0, none⟩, ci, [⟨bi, 3, ci * 1, List.flatMap cI p.kids⟩]⟩ : PgO) = (gO (⟨p, some ⟨bk, 0, none⟩, ck, [⟨bk, 31, ck * 1, List.flatMap cK p.keys⟩], some ⟨bi, 0, none⟩, ci, [⟨bi, 3, ci * 1, List.flatMap cI p.kids⟩]⟩ : PgO)).set 1 _; unfold gO; rw [List.length_eraseIdx_of_lt ha]; rfl)) (by intro b hb; simp [bks, St.put] at hb ⊢; try first | exact hb | simp [hb] | (rcases hb with hb | hb <;> simp [hb]) | (rcases hb with hb | hb | hb <;> simp [hb])) ?_
     refine a1_ 21 rfl nc_ ?_
     refine a1_ 22 rfl (fa_ 2) ?_
     refine AD.one (i := 23) (by kernel_rfl) ?_
     refine AStep.storeAt (k := 3) (cs' := List.flatMap gO (L.set (leafF t k h t.root).toNat (⟨(cutP p (placeF (t.pg (leafF t k h t.root)) k)), some ⟨bk, 0, none⟩, ck, [⟨bk, 31, ck * 1, List.flatMap cK (p.keys.eraseIdx (placeF (t.pg (leafF t k h t.root)) k))⟩], some ⟨bi, 0, none⟩, ci, [⟨bi, 3, ci * 1, List.flatMap cI (p.kids.eraseIdx (placeF (t.pg (leafF t k h t.root)) k))⟩]⟩ : PgO))) rfl (wants_plain rfl) rfl rfl ot rfl rfl ot rfl rfl Try.sizeOf22 rfl (by show 0 + (leafF t k h t.root).toNat * 5 + 2 + 1 ≤ (List.flatMap gO (L.set (leafF t k h t.root).toNat (⟨{ p with keys := (p.keys.eraseIdx (placeF (t.pg (leafF t k h t.root)) k)) }, some ⟨bk, 0, none⟩, ck, [⟨bk, 31, ck * 1, List.flatMap cK (p.keys.eraseIdx (placeF (t.pg (leafF t k h t.root)) k))⟩], some ⟨bi, 0, none⟩, ci, [⟨bi, 3, ci * 1, List.flatMap cI p.kids⟩]⟩ : PgO))).length; rw [fm_len gO_len, List.length_set]; omega) (by show (List.flatMap gO (L.set (leafF t k h t.root).toNat (⟨{ p with keys := (p.keys.eraseIdx (placeF (t.pg (leafF t k h t.root)) k)) }, some ⟨bk, 0, none⟩, ck, [⟨bk, 31, ck * 1, List.flatMap cK (p.keys.eraseIdx (placeF (t.pg (leafF t k h t.root)) k))⟩], some ⟨bi, 0, none⟩, ci, [⟨bi, 3, ci * 1, List.flatMap cI p.kids⟩]⟩ : PgO))).set (0 + (leafF t k h t.root).toNat * 5 + 2) _ = _; rw [Nat.zero_add, fm_cellset gO_len (a' := (⟨(cutP p (placeF (t.pg (leafF t k h t.root)) k)), some ⟨bk, 0, none⟩, ck, [⟨bk, 31, ck * 1, List.flatMap cK (p.keys.eraseIdx (placeF (t.pg (leafF t k h t.root)) k))⟩], some ⟨bi, 0, none⟩, ci, [⟨bi, 3, ci * 1, List.flatMap cI (p.kids.eraseIdx (placeF (t.pg (leafF t k h t.root)) k))⟩]⟩ : PgO)) (by decide) (by rw [List.length_set]; exact hj) (by rw [List.getElem_set_self]; show gO (⟨(cutP p (placeF (t.pg (leafF t k h t.root)) k)), some ⟨bk, 0, none⟩, ck, [⟨bk, 31, ck * 1, List.flatMap cK (p.keys.eraseIdx (placeF (t.pg (leafF t k h t.root)) k))⟩], some ⟨bi, 0, none⟩, ci, [⟨bi, 3, ci * 1, List.flatMap cI (p.kids.eraseIdx (placeF (t.pg (leafF t k h t.root)) k))⟩]⟩ : PgO) = (gO (⟨{ p with keys := (p.keys.eraseIdx (placeF (t.pg (leafF t k h t.root)) k)) }, some ⟨bk, 0, none⟩, ck, [⟨bk, 31, ck * 1, List.flatMap cK (p.keys.eraseIdx (placeF (t.pg (leafF t k h t.root)) k))⟩], some ⟨bi, 0, none⟩, ci, [⟨bi, 3, ci * 1, List.flatMap cI p.kids⟩]⟩ : PgO)).set 2 _; unfold gO cutP; simp only []; rw [List.length_eraseIdx_of_lt ha2]; rfl), List.set_set]) (by intro b hb; simp [bks, St.put] at hb ⊢; try first | exact hb | simp [hb] | (rcases hb with hb | hb <;> simp [hb]) | (rcases hb with hb | hb | hb <;> simp [hb])) ?_
     have hpm : (⟨bk, 31, ck * 1, List.flatMap cK (p.keys.eraseIdx (placeF (t.pg (leafF t k h t.root)) k))⟩ :: ⟨bi, 3, ci * 1, List.flatMap cI (p.kids.eraseIdx (placeF (t.pg (leafF t k h t.root)) k))⟩ :: ((L.eraseIdx (leafF t k h t.root).toNat).flatMap bO)).Perm ((L.set (leafF t k h t.root).toNat (⟨(cutP p (placeF (t.pg (leafF t k h t.root)) k)), some ⟨bk, 0, none⟩, ck, [⟨bk, 31, ck * 1, List.flatMap cK (p.keys.eraseIdx (placeF (t.pg (leafF t k h t.root)) k))⟩], some ⟨bi, 0, none⟩, ci, [⟨bi, 3, ci * 1, List.flatMap cI (p.kids.eraseIdx (placeF (t.pg (leafF t k h t.root)) k))⟩]⟩ : PgO)).flatMap bO) := (perm_put bO hj (⟨(cutP p (placeF (t.pg (leafF t k h t.root)) k)), some ⟨bk, 0, none⟩, ck, [⟨bk, 31, ck * 1, List.flatMap cK (p.keys.eraseIdx (placeF (t.pg (leafF t k h t.root)) k))⟩], some ⟨bi, 0, none⟩, ci, [⟨bi, 3, ci * 1, List.flatMap cI (p.kids.eraseIdx (placeF (t.pg (leafF t k h t.root)) k))⟩]⟩ : PgO)).symm
     refine AD.perm (S' := ⟨b7, 26, 2, [.v (.slice (some ⟨bx, 0, none⟩) L.length cap), .v (.int .i64 t.root)]⟩ :: ⟨b4, 26, 2, [.v (.slice none 0 0), .v (.int .i64 0)]⟩ :: ⟨b2, 26, 2, [.list 5 (t.pages.flatMap cP) t.pages.length, .v (.int .i64 t.root)]⟩ :: (([⟨bx, 44, cap * 5, List.flatMap gO (L.set (leafF t k h t.root).toNat (⟨(cutP p (placeF (t.pg (leafF t k h t.root)) k)), some ⟨bk, 0, none⟩, ck, [⟨bk, 31, ck * 1, List.flatMap cK (p.keys.eraseIdx (placeF (t.pg (leafF t k h t.root)) k))⟩], some ⟨bi, 0, none⟩, ci, [⟨bi, 3, ci * 1, List.flatMap cI (p.kids.eraseIdx (placeF (t.pg (leafF t k h t.root)) k))⟩]⟩ : PgO))⟩] : List Blk) ++ (L.set (leafF t k h t.root).toNat (⟨(cutP p (placeF (t.pg (leafF t k h t.root)) k)), some ⟨bk, 0, none⟩, ck, [⟨bk, 31, ck * 1, List.flatMap cK (p.keys.eraseIdx (placeF (t.pg (leafF t k h t.root)) k))⟩], some ⟨bi, 0, none⟩, ci, [⟨bi, 3, ci * 1, List.flatMap cI (p.kids.eraseIdx (placeF (t.pg (leafF t k h t.root)) k))⟩]⟩ : PgO)).flatMap bO)) (List.Perm.cons _ (List.Perm.cons _ (List.Perm.cons _ (List.Perm.cons _ hpm)))) ?_
     refine AD.wk (y := ⟨58, [(4, _), (7, _)], (⟨b7, 26, 2, [_, _]⟩ :: ⟨b4, 26, 2, [_, _]⟩ :: ⟨b2, 26, 2, [_, _]⟩ :: ([⟨bx, 44, cap * 5, List.flatMap gO (L.set (leafF t k h t.root).toNat (⟨(cutP p (placeF (t.pg (leafF t k h t.root)) k)), some ⟨bk, 0, none⟩, ck, [⟨bk, 31, ck * 1, List.flatMap cK (p.keys.eraseIdx (placeF (t.pg (leafF t k h t.root)) k))⟩], some ⟨bi, 0, none⟩, ci, [⟨bi, 3, ci * 1, List.flatMap cI (p.kids.eraseIdx (placeF (t.pg (leafF t k h t.root)) k))⟩]⟩ : PgO))⟩] ++ (L.set (leafF t k h t.root).toNat (⟨(cutP p (placeF (t.pg (leafF t k h t.root)) k)), some ⟨bk, 0, none⟩, ck, [⟨bk, 31, ck * 1, List.flatMap cK (p.keys.eraseIdx (placeF (t.pg (leafF t k h t.root)) k))⟩], some ⟨bi, 0, none⟩, ci, [⟨bi, 3, ci * 1, List.flatMap cI (p.kids.eraseIdx (placeF (t.pg (leafF t k h t.root)) k))⟩]⟩ : PgO)).flatMap bO))⟩) (Wk.as_ rfl rfl ⟨lk, lk, trivial⟩) rfl ?_
     refine AD.done (by kernel_rfl) ?_
     refine sr_ ?_
     refine os_ (lab_ 0 [_, _]) ?_
     refine OD.store (k := 1) (cs' := [_, _]) (wants_plain rfl) rfl rfl ot rfl rfl ot rfl rfl Try.sizeOf26 rfl rfl rfl ?_
     refine os_ mv_ ?_
     refine OD.wk (Wk.as_ (n := 58) (l' := [(4, _), (5, _)]) (S' := (⟨b7, 26, 2, [_, _]⟩ :: ⟨b4, 26, 2, [_, _]⟩ :: ⟨b2, 26, 2, [_, _]⟩ :: ([⟨bx, 44, cap * 5, List.flatMap gO (L.set (leafF t k h t.root).toNat (⟨(cutP p (placeF (t.pg (leafF t k h t.root)) k)), some ⟨bk, 0, none⟩, ck, [⟨bk, 31, ck * 1, List.flatMap cK (p.keys.eraseIdx (placeF (t.pg (leafF t k h t.root)) k))⟩], some ⟨bi, 0, none⟩, ci, [⟨bi, 3, ci * 1, List.flatMap cI (p.kids.eraseIdx (placeF (t.pg (leafF t k h t.root)) k))⟩]⟩ : PgO))⟩] ++ (L.set (leafF t k h t.root).toNat (⟨(cutP p (placeF (t.pg (leafF t k h t.root)) k)), some ⟨bk, 0, none⟩, ck, [⟨bk, 31, ck * 1, List.flatMap cK (p.keys.eraseIdx (placeF (t.pg (leafF t k h t.root)) k))⟩], some ⟨bi, 0, none⟩, ci, [⟨bi, 3, ci * 1, List.flatMap cI (p.kids.eraseIdx (placeF (t.pg (leafF t k h t.root)) k))⟩]⟩ : PgO)).flatMap bO))) rfl rfl ⟨lk, lk, trivial⟩) ?_
     refine OD.nil ?_
     refine CD.ret ?_
     refine ⟨.inr rfl, _, ([⟨bx, 44, cap * 5, List.flatMap gO (L.set (leafF t k h t.root).toNat (⟨(cutP p (placeF (t.pg (leafF t k h t.root)) k)), some ⟨bk, 0, none⟩, ck, [⟨bk, 31, ck * 1, List.flatMap cK (p.keys.eraseIdx (placeF (t.pg (leafF t k h t.root)) k))⟩], some ⟨bi, 0, none⟩, ci, [⟨bi, 3, ci * 1, List.flatMap cI (p.kids.eraseIdx (placeF (t.pg (leafF t k h t.root)) k))⟩]⟩ : PgO))⟩] ++ (L.set (leafF t k h t.root).toNat (⟨(cutP p (placeF (t.pg (leafF t k h t.root)) k)), some ⟨bk, 0, none⟩, ck, [⟨bk, 31, ck * 1, List.flatMap cK (p.keys.eraseIdx (placeF (t.pg (leafF t k h t.root)) k))⟩], some ⟨bi, 0, none⟩, ci, [⟨bi, 3, ci * 1, List.flatMap cI (p.kids.eraseIdx (placeF (t.pg (leafF t k h t.root)) k))⟩]⟩ : PgO)).flatMap bO), (by repeat (first | exact List.Sublist.refl _ | apply List.Sublist.cons)), ret_two Try.results20 (res_cells (k := 1) (ds := [_, _]) (Nat.le_of_ble_eq_true rfl) lk rfl rfl Try.isAgg26 Try.sizeOf26 rfl rfl) (res_tmp (Nat.le_of_ble_eq_true rfl) lk), ?_⟩
     unfold delF; rw [if_pos hz, if_pos hth]
     refine ⟨_, rfl, L.set (leafF t k h t.root).toNat (⟨(cutP p (placeF (t.pg (leafF t k h t.root)) k)), some ⟨bk, 0, none⟩, ck, [⟨bk, 31, ck * 1, List.flatMap cK (p.keys.eraseIdx (placeF (t.pg (leafF t k h t.root)) k))⟩], some ⟨bi, 0, none⟩, ci, [⟨bi, 3, ci * 1, List.flatMap cI (p.kids.eraseIdx (placeF (t.pg (leafF t k h t.root)) k))⟩]⟩ : PgO), some ⟨bx, 0, none⟩, cap, _, by rw [List.length_set]; rfl, ownL_row (by rw [List.length_set]; exact hxl) hxc, fun x hx => ?_, ?_, rfl⟩
     ·rcases List.mem_or_eq_of_mem_set hx with hx | rfl
      ·exact hok x hx
      ·exact ⟨ownL_row (by show (p.keys.eraseIdx (placeF (t.pg (leafF t k h t.root)) k)).length ≤ ck; rw [List.length_eraseIdx_of_lt ha]; omega) hkc, ownL_row (by show (p.kids.eraseIdx (placeF (t.pg (leafF t k h t.root)) k)).length ≤ ci; rw [List.length_eraseIdx_of_lt ha2]; omega) hic⟩
     ·rw [List.map_set, hL]; show _ = t.pages.set (leafF t k h t.root).toNat (cutP (t.pg (leafF t k h t.root)) (placeF (t.pg (leafF t k h t.root)) k)); rw [← hpe]
   ·skip
    first | refine at_ rfl (still_r1 (mk := Op.load 22) rfl ot (ld_row (k := 3) (j := 2) (d := .v (.slice (some ⟨bi, 0, none⟩) p.kids.length ci)) (ls := L) gO_len rfl rfl rfl Try.isAgg22 hj (by rw [← ho]; rfl))) ?_ | refine at_ rfl (still_r1 (mk := Op.load 22) rfl ot (ld_row (k := 4) (j := 2) (d := .v (.slice (some ⟨bi, 0, none⟩) p.kids.length ci)) (ls := L) gO_len rfl rfl rfl Try.isAgg22 hj (by rw [← ho]; rfl))) ?_
    refine AD.one (i := 5) (by kernel_rfl) ?_
    first | refine at_ rfl (still_r1 (mk := Op.load 42) rfl ot (ld_row (k := 3) (j := 1) (d := .v (.slice (some ⟨bk, 0, none⟩) p.keys.length ck)) (ls := L) gO_len rfl rfl rfl Try.isAgg42 hj (by rw [← ho]; rfl))) ?_ | refine at_ rfl (still_r1 (mk := Op.load 42) rfl ot (ld_row (k := 4) (j := 1) (d := .v (.slice (some ⟨bk, 0, none⟩) p.keys.length ck)) (ls := L) gO_len rfl rfl rfl Try.isAgg42 hj (by rw [← ho]; rfl))) ?_
    refine AD.one (i := 9) (by kernel_rfl) ?_
    refine AStep.call rfl (wants_plain rfl) rfl rfl rfl Try.call35 (deleteK_vc p.keys (placeF (t.pg (leafF t k h t.root)) k) ck bk ha hkl hkc (by omega)) ⟨ot, ot, ot, trivial⟩ (perm_one (k := 4) rfl) (by intro b hb; simp [bks, St.put] at hb ⊢; try first | exact hb | simp [hb] | (rcases hb with hb | hb <;> simp [hb]) | (rcases hb with hb | hb | hb <;> simp [hb])) ?_
    rintro _ _ ⟨rfl, rfl⟩
    refine AD.perm (S' := ⟨b7, 26, 2, [.v (.slice (some ⟨bx, 0, none⟩) L.length cap), .v (.int .i64 t.root)]⟩ :: ⟨b4, 26, 2, [.v (.slice none 0 0), .v (.int .i64 0)]⟩ :: ⟨b2, 26, 2, [.list 5 (t.pages.flatMap cP) t.pages.length, .v (.int .i64 t.root)]⟩ :: ⟨bx, 44, cap * 5, List.flatMap gO L⟩ :: ⟨bk, 31, ck * 1, List.flatMap cK (p.keys.eraseIdx (placeF (t.pg (leafF t k h t.root)) k))⟩ :: ⟨bi, 3, ci * 1, List.flatMap cI p.kids⟩ :: ((L.eraseIdx (leafF t k h t.root).toNat).flatMap bO)) (List.perm_middle (l₁ := [_, _, _, _])).symm ?_
    refine AD.one (i := 17) (by kernel_rfl) ?_
    refine AStep.call rfl (wants_plain rfl) rfl rfl rfl Try.call36 (deleteI_vc p.kids (placeF (t.pg (leafF t k h t.root)) k) ci bi ha2 hil hic (by omega)) ⟨ot, ot, ot, trivial⟩ (perm_one (k := 5) rfl) (by intro b hb; simp [bks, St.put] at hb ⊢; try first | exact hb | simp [hb] | (rcases hb with hb | hb <;> simp [hb]) | (rcases hb with hb | hb | hb <;> simp [hb])) ?_
    rintro _ _ ⟨rfl, rfl⟩
    refine AD.perm (S' := ⟨b7, 26, 2, [.v (.slice (some ⟨bx, 0, none⟩) L.length cap), .v (.int .i64 t.root)]⟩ :: ⟨b4, 26, 2, [.v (.slice none 0 0), .v (.int .i64 0)]⟩ :: ⟨b2, 26, 2, [.list 5 (t.pages.flatMap cP) t.pages.length, .v (.int .i64 t.root)]⟩ :: ⟨bx, 44, cap * 5, List.flatMap gO L⟩ :: ⟨bk, 31, ck * 1, List.flatMap cK (p.keys.eraseIdx (placeF (t.pg (leafF t k h t.root)) k))⟩ :: ⟨bi, 3, ci * 1, List.flatMap cI (p.kids.eraseIdx (placeF (t.pg (leafF t k h t.root)) k))⟩ :: ((L.eraseIdx (leafF t k h t.root).toNat).flatMap bO)) (List.perm_middle (l₁ := [_, _, _, _, _])).symm ?_
    refine a1_ 18 rfl nc_ ?_
    refine a1_ 19 rfl (fa_ 1) ?_
    refine AD.one (i := 20) (by kernel_rfl) ?_
    refine AStep.storeAt (k := 3) (cs' := List.flatMap gO (L.set (leafF t k h t.root).toNat (⟨{ p with keys := (p.keys.eraseIdx (placeF (t.pg (leafF t k h t.root)) k)) }, some ⟨bk, 0, none⟩, ck, [⟨bk, 31, ck * 1, List.flatMap cK (p.keys.eraseIdx (placeF (t.pg (leafF t k h t.root)) k))⟩], some ⟨bi, 0, none⟩, ci, [⟨bi, 3, ci * 1, List.flatMap cI p.kids⟩]⟩ : PgO))) rfl (wants_plain rfl) rfl rfl ot rfl rfl ot rfl rfl Try.sizeOf42 rfl (by show 0 + (leafF t k h t.root).toNat * 5 + 1 + 1 ≤ (List.flatMap gO L).length; rw [fm_len gO_len]; omega) (by show (L.flatMap gO).set (0 + (leafF t k h t.root).toNat * 5 + 1) _ = _; rw [Nat.zero_add]; exact fm_cellset gO_len (by decide) hj (by rw [← ho]; show gO (⟨{ p with keys := (p.keys.eraseIdx (placeF (t.pg (leafF t k h t.root)) k)) }, some ⟨bk, 0, none⟩, ck, [⟨bk, 31, ck * 1, List.flatMap cK (p.keys.eraseIdx (placeF (t.pg (leafF t k h t.root)) k))⟩], some ⟨bi, 0, none⟩, ci, [⟨bi, 3, ci * 1, List.flatMap cI p.kids⟩]⟩ : PgO) = (gO (⟨p, some ⟨bk, 0, none⟩, ck, [⟨bk, 31, ck * 1, List.flatMap cK p.keys⟩], some ⟨bi, 0, none⟩, ci, [⟨bi, 3, ci * 1, List.flatMap cI p.kids⟩]⟩ : PgO)).set 1 _; unfold gO; rw [List.length_eraseIdx_of_lt ha]; rfl)) (by intro b hb; simp [bks, St.put] at hb ⊢; try first | exact hb | simp [hb] | (rcases hb with hb | hb <;> simp [hb]) | (rcases hb with hb | hb | hb <;> simp [hb])) ?_
    refine a1_ 21 rfl nc_ ?_
    refine a1_ 22 rfl (fa_ 2) ?_
    refine AD.one (i := 23) (by kernel_rfl) ?_
    refine AStep.storeAt (k := 3) (cs' := List.flatMap gO (L.set (leafF t k h t.root).toNat (⟨(cutP p (placeF (t.pg (leafF t k h t.root)) k)), some ⟨bk, 0, none⟩, ck, [⟨bk, 31, ck * 1, List.flatMap cK (p.keys.eraseIdx (placeF (t.pg (leafF t k h t.root)) k))⟩], some ⟨bi, 0, none⟩, ci, [⟨bi, 3, ci * 1, List.flatMap cI (p.kids.eraseIdx (placeF (t.pg (leafF t k h t.root)) k))⟩]⟩ : PgO))) rfl (wants_plain rfl) rfl rfl ot rfl rfl ot rfl rfl Try.sizeOf22 rfl (by show 0 + (leafF t k h t.root).toNat * 5 + 2 + 1 ≤ (List.flatMap gO (L.set (leafF t k h t.root).toNat (⟨{ p with keys := (p.keys.eraseIdx (placeF (t.pg (leafF t k h t.root)) k)) }, some ⟨bk, 0, none⟩, ck, [⟨bk, 31, ck * 1, List.flatMap cK (p.keys.eraseIdx (placeF (t.pg (leafF t k h t.root)) k))⟩], some ⟨bi, 0, none⟩, ci, [⟨bi, 3, ci * 1, List.flatMap cI p.kids⟩]⟩ : PgO))).length; rw [fm_len gO_len, List.length_set]; omega) (by show (List.flatMap gO (L.set (leafF t k h t.root).toNat (⟨{ p with keys := (p.keys.eraseIdx (placeF (t.pg (leafF t k h t.root)) k)) }, some ⟨bk, 0, none⟩, ck, [⟨bk, 31, ck * 1, List.flatMap cK (p.keys.eraseIdx (placeF (t.pg (leafF t k h t.root)) k))⟩], some ⟨bi, 0, none⟩, ci, [⟨bi, 3, ci * 1, List.flatMap cI p.kids⟩]⟩ : PgO))).set (0 + (leafF t k h t.root).toNat * 5 + 2) _ = _; rw [Nat.zero_add, fm_cellset gO_len (a' := (⟨(cutP p (placeF (t.pg (leafF t k h t.root)) k)), some ⟨bk, 0, none⟩, ck, [⟨bk, 31, ck * 1, List.flatMap cK (p.keys.eraseIdx (placeF (t.pg (leafF t k h t.root)) k))⟩], some ⟨bi, 0, none⟩, ci, [⟨bi, 3, ci * 1, List.flatMap cI (p.kids.eraseIdx (placeF (t.pg (leafF t k h t.root)) k))⟩]⟩ : PgO)) (by decide) (by rw [List.length_set]; exact hj) (by rw [List.getElem_set_self]; show gO (⟨(cutP p (placeF (t.pg (leafF t k h t.root)) k)), some ⟨bk, 0, none⟩, ck, [⟨bk, 31, ck * 1, List.flatMap cK (p.keys.eraseIdx (placeF (t.pg (leafF t k h t.root)) k))⟩], some ⟨bi, 0, none⟩, ci, [⟨bi, 3, ci * 1, List.flatMap cI (p.kids.eraseIdx (placeF (t.pg (leafF t k h t.root)) k))⟩]⟩ : PgO) = (gO (⟨{ p with keys := (p.keys.eraseIdx (placeF (t.pg (leafF t k h t.root)) k)) }, some ⟨bk, 0, none⟩, ck, [⟨bk, 31, ck * 1, List.flatMap cK (p.keys.eraseIdx (placeF (t.pg (leafF t k h t.root)) k))⟩], some ⟨bi, 0, none⟩, ci, [⟨bi, 3, ci * 1, List.flatMap cI p.kids⟩]⟩ : PgO)).set 2 _; unfold gO cutP; simp only []; rw [List.length_eraseIdx_of_lt ha2]; rfl), List.set_set]) (by intro b hb; simp [bks, St.put] at hb ⊢; try first | exact hb | simp [hb] | (rcases hb with hb | hb <;> simp [hb]) | (rcases hb with hb | hb | hb <;> simp [hb])) ?_
    have hpm : (⟨bk, 31, ck * 1, List.flatMap cK (p.keys.eraseIdx (placeF (t.pg (leafF t k h t.root)) k))⟩ :: ⟨bi, 3, ci * 1, List.flatMap cI (p.kids.eraseIdx (placeF (t.pg (leafF t k h t.root)) k))⟩ :: ((L.eraseIdx (leafF t k h t.root).toNat).flatMap bO)).Perm ((L.set (leafF t k h t.root).toNat (⟨(cutP p (placeF (t.pg (leafF t k h t.root)) k)), some ⟨bk, 0, none⟩, ck, [⟨bk, 31, ck * 1, List.flatMap cK (p.keys.eraseIdx (placeF (t.pg (leafF t k h t.root)) k))⟩], some ⟨bi, 0, none⟩, ci, [⟨bi, 3, ci * 1, List.flatMap cI (p.kids.eraseIdx (placeF (t.pg (leafF t k h t.root)) k))⟩]⟩ : PgO)).flatMap bO) := (perm_put bO hj (⟨(cutP p (placeF (t.pg (leafF t k h t.root)) k)), some ⟨bk, 0, none⟩, ck, [⟨bk, 31, ck * 1, List.flatMap cK (p.keys.eraseIdx (placeF (t.pg (leafF t k h t.root)) k))⟩], some ⟨bi, 0, none⟩, ci, [⟨bi, 3, ci * 1, List.flatMap cI (p.kids.eraseIdx (placeF (t.pg (leafF t k h t.root)) k))⟩]⟩ : PgO)).symm
    refine AD.perm (S' := ⟨b7, 26, 2, [.v (.slice (some ⟨bx, 0, none⟩) L.length cap), .v (.int .i64 t.root)]⟩ :: ⟨b4, 26, 2, [.v (.slice none 0 0), .v (.int .i64 0)]⟩ :: ⟨b2, 26, 2, [.list 5 (t.pages.flatMap cP) t.pages.length, .v (.int .i64 t.root)]⟩ :: (([⟨bx, 44, cap * 5, List.flatMap gO (L.set (leafF t k h t.root).toNat (⟨(cutP p (placeF (t.pg (leafF t k h t.root)) k)), some ⟨bk, 0, none⟩, ck, [⟨bk, 31, ck * 1, List.flatMap cK (p.keys.eraseIdx (placeF (t.pg (leafF t k h t.root)) k))⟩], some ⟨bi, 0, none⟩, ci, [⟨bi, 3, ci * 1, List.flatMap cI (p.kids.eraseIdx (placeF (t.pg (leafF t k h t.root)) k))⟩]⟩ : PgO))⟩] : List Blk) ++ (L.set (leafF t k h t.root).toNat (⟨(cutP p (placeF (t.pg (leafF t k h t.root)) k)), some ⟨bk, 0, none⟩, ck, [⟨bk, 31, ck * 1, List.flatMap cK (p.keys.eraseIdx (placeF (t.pg (leafF t k h t.root)) k))⟩], some ⟨bi, 0, none⟩, ci, [⟨bi, 3, ci * 1, List.flatMap cI (p.kids.eraseIdx (placeF (t.pg (leafF t k h t.root)) k))⟩]⟩ : PgO)).flatMap bO)) (List.Perm.cons _ (List.Perm.cons _ (List.Perm.cons _ (List.Perm.cons _ hpm)))) ?_
    refine AD.wk (y := ⟨58, [(4, _), (7, _)], (⟨b7, 26, 2, [_, _]⟩ :: ⟨b4, 26, 2, [_, _]⟩ :: ⟨b2, 26, 2, [_, _]⟩ :: ([⟨bx, 44, cap * 5, List.flatMap gO (L.set (leafF t k h t.root).toNat (⟨(cutP p (placeF (t.pg (leafF t k h t.root)) k)), some ⟨bk, 0, none⟩, ck, [⟨bk, 31, ck * 1, List.flatMap cK (p.keys.eraseIdx (placeF (t.pg (leafF t k h t.root)) k))⟩], some ⟨bi, 0, none⟩, ci, [⟨bi, 3, ci * 1, List.flatMap cI (p.kids.eraseIdx (placeF (t.pg (leafF t k h t.root)) k))⟩]⟩ : PgO))⟩] ++ (L.set (leafF t k h t.root).toNat (⟨(cutP p (placeF (t.pg (leafF t k h t.root)) k)), some ⟨bk, 0, none⟩, ck, [⟨bk, 31, ck * 1, List.flatMap cK (p.keys.eraseIdx (placeF (t.pg (leafF t k h t.root)) k))⟩], some ⟨bi, 0, none⟩, ci, [⟨bi, 3, ci * 1, List.flatMap cI (p.kids.eraseIdx (placeF (t.pg (leafF t k h t.root)) k))⟩]⟩ : PgO)).flatMap bO))⟩) (Wk.as_ rfl rfl ⟨lk, lk, trivial⟩) rfl ?_
    refine AD.done (by kernel_rfl) ?_
    refine sr_ ?_
    refine os_ (lab_ 0 [_, _]) ?_
    refine OD.store (k := 1) (cs' := [_, _]) (wants_plain rfl) rfl rfl ot rfl rfl ot rfl rfl Try.sizeOf26 rfl rfl rfl ?_
    refine os_ mv_ ?_
    refine OD.wk (Wk.as_ (n := 58) (l' := [(4, _), (5, _)]) (S' := (⟨b7, 26, 2, [_, _]⟩ :: ⟨b4, 26, 2, [_, _]⟩ :: ⟨b2, 26, 2, [_, _]⟩ :: ([⟨bx, 44, cap * 5, List.flatMap gO (L.set (leafF t k h t.root).toNat (⟨(cutP p (placeF (t.pg (leafF t k h t.root)) k)), some ⟨bk, 0, none⟩, ck, [⟨bk, 31, ck * 1, List.flatMap cK (p.keys.eraseIdx (placeF (t.pg (leafF t k h t.root)) k))⟩], some ⟨bi, 0, none⟩, ci, [⟨bi, 3, ci * 1, List.flatMap cI (p.kids.eraseIdx (placeF (t.pg (leafF t k h t.root)) k))⟩]⟩ : PgO))⟩] ++ (L.set (leafF t k h t.root).toNat (⟨(cutP p (placeF (t.pg (leafF t k h t.root)) k)), some ⟨bk, 0, none⟩, ck, [⟨bk, 31, ck * 1, List.flatMap cK (p.keys.eraseIdx (placeF (t.pg (leafF t k h t.root)) k))⟩], some ⟨bi, 0, none⟩, ci, [⟨bi, 3, ci * 1, List.flatMap cI (p.kids.eraseIdx (placeF (t.pg (leafF t k h t.root)) k))⟩]⟩ : PgO)).flatMap bO))) rfl rfl ⟨lk, lk, trivial⟩) ?_
    refine OD.nil ?_
    refine CD.ret ?_
    refine ⟨.inr rfl, _, ([⟨bx, 44, cap * 5, List.flatMap gO (L.set (leafF t k h t.root).toNat (⟨(cutP p (placeF (t.pg (leafF t k h t.root)) k)), some ⟨bk, 0, none⟩, ck, [⟨bk, 31, ck * 1, List.flatMap cK (p.keys.eraseIdx (placeF (t.pg (leafF t k h t.root)) k))⟩], some ⟨bi, 0, none⟩, ci, [⟨bi, 3, ci * 1, List.flatMap cI (p.kids.eraseIdx (placeF (t.pg (leafF t k h t.root)) k))⟩]⟩ : PgO))⟩] ++ (L.set (leafF t k h t.root).toNat (⟨(cutP p (placeF (t.pg (leafF t k h t.root)) k)), some ⟨bk, 0, none⟩, ck, [⟨bk, 31, ck * 1, List.flatMap cK (p.keys.eraseIdx (placeF (t.pg (leafF t k h t.root)) k))⟩], some ⟨bi, 0, none⟩, ci, [⟨bi, 3, ci * 1, List.flatMap cI (p.kids.eraseIdx (placeF (t.pg (leafF t k h t.root)) k))⟩]⟩ : PgO)).flatMap bO), (by repeat (first | exact List.Sublist.refl _ | apply List.Sublist.cons)), ret_two Try.results20 (res_cells (k := 1) (ds := [_, _]) (Nat.le_of_ble_eq_true rfl) lk rfl rfl Try.isAgg26 Try.sizeOf26 rfl rfl) (res_tmp (Nat.le_of_ble_eq_true rfl) lk), ?_⟩
    unfold delF; rw [if_pos hz, if_pos hth]
    refine ⟨_, rfl, L.set (leafF t k h t.root).toNat (⟨(cutP p (placeF (t.pg (leafF t k h t.root)) k)), some ⟨bk, 0, none⟩, ck, [⟨bk, 31, ck * 1, List.flatMap cK (p.keys.eraseIdx (placeF (t.pg (leafF t k h t.root)) k))⟩], some ⟨bi, 0, none⟩, ci, [⟨bi, 3, ci * 1, List.flatMap cI (p.kids.eraseIdx (placeF (t.pg (leafF t k h t.root)) k))⟩]⟩ : PgO), some ⟨bx, 0, none⟩, cap, _, by rw [List.length_set]; rfl, ownL_row (by rw [List.length_set]; exact hxl) hxc, fun x hx => ?_, ?_, rfl⟩
    ·rcases List.mem_or_eq_of_mem_set hx with hx | rfl
     ·exact hok x hx
     ·exact ⟨ownL_row (by show (p.keys.eraseIdx (placeF (t.pg (leafF t k h t.root)) k)).length ≤ ck; rw [List.length_eraseIdx_of_lt ha]; omega) hkc, ownL_row (by show (p.kids.eraseIdx (placeF (t.pg (leafF t k h t.root)) k)).length ≤ ci; rw [List.length_eraseIdx_of_lt ha2]; omega) hic⟩
    ·rw [List.map_set, hL]; show _ = t.pages.set (leafF t k h t.root).toNat (cutP (t.pg (leafF t k h t.root)) (placeF (t.pg (leafF t k h t.root)) k)); rw [← hpe]

end Go.Proofs.Ythnobhekodiciaa.Tw
