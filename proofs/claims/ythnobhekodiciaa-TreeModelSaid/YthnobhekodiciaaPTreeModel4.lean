/-
  What the proof of TreeModel leans on, part 4 of 5: walks of the program's functions at the level of values, and plain facts of what they compute.
-/
import Derived.Test.YthnobhekodiciaaPTreeModel3
namespace Go.Proofs.Ythnobhekodiciaa.Tw
open Go.RowKit V Go.Proofs.Ythnobhekodiciaa.Tr Pk
set_option linter.unusedVariables false
set_option linter.unusedSimpArgs false

theorem fm_cellset {α : Type} {g : α → List D} {sz : Nat} (hg : ∀ a, (g a).length = sz) {a' : α} {c : Nat} {d : D} (hc : c < sz) : ∀ {L : List α} {j : Nat} (hj : j < L.length), g a' = (g L[j]).set c d → (L.flatMap g).set (j * sz + c) d = (L.set j a').flatMap g
 | a :: L, 0, _, h => by
  simp only [List.getElem_cons_zero] at h
  rw [List.flatMap_cons, List.set_cons_zero, List.flatMap_cons, h, List.set_append_left _ _ (by rw [hg]; omega), Nat.zero_mul, Nat.zero_add]
 | a :: L, j + 1, hj, h => by
  have ih := fm_cellset hg hc (L := L) (j := j) (by simpa using hj) (by simpa using h)
  have e : (j + 1) * sz + c = sz + (j * sz + c) := by rw [Nat.succ_mul]; omega
  rw [List.flatMap_cons, List.set_cons_succ, List.flatMap_cons, ← ih, List.set_append_right _ _ (by rw [hg]; omega), hg, e, show sz + (j * sz + c) - sz = j * sz + c from by omega]
theorem map_pg {t : TreeL} {L : List PgO} (hL : L.map PgO.p = t.pages) {i : Int} (hi : 0 ≤ i ∧ i < t.pages.length) (hj : i.toNat < L.length) : L[i.toNat].p = t.pg i := by
 rw [pg_at hi]
 have h : (L.map PgO.p)[i.toNat]? = some L[i.toNat].p := by rw [List.getElem?_map, List.getElem?_eq_getElem hj]; rfl
 rw [hL, List.getElem?_eq_getElem (by omega)] at h
 exact (Option.some.inj h).symm
def noT : TreeL := ⟨[], 0⟩
/-- A tree and a word are handed back. -/
def RetE (te : TreeL × Int) (r : D) (S : List Blk) : Prop := ∃ r', r = .tup [r', .v (.int .i64 te.2)] ∧ RetT te.1 r' S
theorem retE_no (e : Int) : RetE (noT, e) (.tup [.agg [.v (.slice none 0 0), .v (.int .i64 0)], .v (.int .i64 e)]) [] := ⟨_, rfl, [], none, 0, [], rfl, ownL_nil, (fun o h => by cases h), rfl, rfl⟩
theorem RetT.view {t : TreeL} {r : D} {S : List Blk} (h : RetT t r S) : View S r (.agg (cT t)) := by
 obtain ⟨L, ad, cap, Sx, rfl, ho, hok, hL, rfl⟩ := h
 have := view_T (root := t.root) ho hok (fun B hB => hB)
 rw [hL] at this; exact this
theorem RetE.view {te : TreeL × Int} {r : D} {S : List Blk} (h : RetE te r S) : View S r (.tup [.agg (cT te.1), .v (.int .i64 te.2)]) := by
 obtain ⟨r', rfl, h⟩ := h
 exact view_tup ⟨h.view, view_same, trivial⟩
noncomputable def delF (t : TreeL) (k : K) (h : Nat) : TreeL × Int := if refF t k = 0 then (if thereB t k h = true then (delT t h k, 0) else (noT, 8)) else (noT, refF t k)
theorem refF_zero {t : TreeL} {k : K} (h : refF t k = 0) : checkF t = 0 ∧ keyQ k = true := by
 have hc : checkF t = 0 := Classical.byContradiction fun e => by rw [refF_bad e] at h; exact e h
 refine ⟨hc, ?_⟩
 cases hq : keyQ k with
 | true => rfl
 | false => rw [refF_size hc hq] at h; cases h
variable {G : List (Nat × List Value)}

theorem places26_Twd : ∀ w, ((#[{ name := "Pages", type := 24, offset := 0, embedded := false, tag := "", pkgPath := "", byteOffset := 0 }, { name := "Root", type := 3, offset := 1, embedded := false, tag := "", pkgPath := "", byteOffset := 24 }] : Array Field).mapM fun f => do pure (f.offset, ← sizeOf f.type) : Sem (Array (Nat × Nat))).run Try.prog w = .ok #[(0, 1), (1, 1)] w := fun w => by simp [Try.sizeOf24, Try.sizeOf3]

set_option maxHeartbeats 4000000 in
set_option maxRecDepth 100000 in
theorem delete_vc (t : TreeL) (h : Nat) (k : K) (hb : ∀ p ∈ t.pages, p.keys.length ≤ maxLen ∧ p.kids.length ≤ maxLen) (hv : checkF t = 0 → Valid t h) : VC Try.prog G 20 [.agg [.list 5 (t.pages.flatMap cP) t.pages.length, .v (.int .i64 t.root)], .list 1 (k.flatMap cB) k.length] [] (RetE (delF t k h)) := by
 refine VC.body Try.func20 rfl Try.ntmps20 (Nat.le_of_ble_eq_true rfl) fun X0 w0 S00 => ?_
 have hcv := checked_vp (G := G) t k hb
 unfold cT at hcv
 have hcT : cT t = [.list 5 (t.pages.flatMap cP) t.pages.length, .v (.int .i64 t.root)] := rfl
 have hmx : maxLen = 9223372036854775807 := rfl
 refine sr_ ?_
 refine OD.box (ds := [_, _]) (wants_plain rfl) rfl rfl ot rfl rfl (fun b2 => ?_)
 refine OD.alloc (ds := [_, _]) (wants_plain rfl) rfl rfl Try.zeroValue26 rfl (fun b4 => ?_)
 refine os_ mv_ ?_
 refine OD.wk (Wk.as_ (n := 58) (l' := [(1, _), (2, _), (4, _)]) (S' := [⟨b4, 26, 2, [_, _]⟩, ⟨b2, 26, 2, [_, _]⟩]) rfl rfl ⟨lk, lk, lk, trivial⟩) ?_
 refine OD.nil ?_
 refine CD.seq ?_
 refine sr_ ?_
 refine os_ (lab_ 1 [_, _]) ?_
 refine os_ mv_ ?_
 refine OD.callP (wants_plain rfl) rfl rfl rfl Try.call22 (hcv) ⟨ot, ot, trivial⟩ ?_
 refine os_ mv_ ?_
 refine OD.wk (Wk.as_ (n := 58) (l' := [(1, _), (2, _), (4, _), (6, _)]) (S' := [⟨b4, 26, 2, [_, _]⟩, ⟨b2, 26, 2, [_, _]⟩]) rfl rfl ⟨lk, lk, lk, lk, trivial⟩) ?_
 refine OD.nil ?_
 refine sr_ ?_
 refine os_ mv_ ?_
 refine os_ bn_ ?_
 refine nm_ [1, 2, 4, 6, 16] ?_
 refine CD.cond ot (fun hc0 => ?_) (fun hc0 => ?_)
 ·have hc0' := hc0
  (try simp only [V.cnd, ne_eq] at hc0')
  have hn : ¬ refF t k = 0 := by simpa using hc0
  refine sr_ ?_
  refine OD.still (wants_plain rfl) rfl (still_bld (pl := []) (ds := [_, _]) rfl Try.zeroValue26 Try.runUnderlying26 places26_Twd trivial rfl rfl) ?_
  refine os_ mv_ ?_
  refine OD.store (k := 0) (cs' := [_, _]) (wants_plain rfl) rfl rfl ot rfl rfl ot rfl rfl Try.sizeOf26 rfl rfl rfl ?_
  refine os_ mv_ ?_
  refine OD.wk (Wk.as_ (n := 58) (l' := [(4, _), (5, _)]) (S' := [⟨b4, 26, 2, [_, _]⟩, ⟨b2, 26, 2, [_, _]⟩]) rfl rfl ⟨lk, lk, trivial⟩) ?_
  refine OD.nil ?_
  refine CD.ret ?_
  refine ⟨.inr rfl, _, [], List.nil_sublist _, ret_two Try.results20 (res_cells (k := 0) (ds := [_, _]) (Nat.le_of_ble_eq_true rfl) lk rfl rfl Try.isAgg26 Try.sizeOf26 rfl rfl) (res_tmp (Nat.le_of_ble_eq_true rfl) lk), ?_⟩
  unfold delF; rw [if_neg hn]; exact retE_no _
 ·have hc0' := hc0
  (try simp only [V.cnd, ne_eq] at hc0')
  have hz : refF t k = 0 := by simpa using hc0
  obtain ⟨hc, hkq⟩ := refF_zero hz
  have v := hv hc
  have hkl0 := keyQ_len hkq
  have hfv := find_vp (G := G) t h v k (by omega) (valid_path v k)
  obtain ⟨q1, hleaf⟩ := v.leaf k
  refine CD.skip ?_
  refine sr_ ?_
  refine os_ (lab_ 1 [_, _]) ?_
  refine OD.call (wants_plain rfl) rfl rfl rfl Try.call24 (own_vc t h v) ⟨ot, trivial⟩ (perm_none _) ?_
  rintro _ _ ⟨L, ad, cap, Sx, rfl, hox, hok, hL, rfl⟩
  refine OD.perm (S' := ⟨b4, 26, 2, [.v (.slice none 0 0), .v (.int .i64 0)]⟩ :: ⟨b2, 26, 2, [.list 5 (t.pages.flatMap cP) t.pages.length, .v (.int .i64 t.root)]⟩ :: (Sx ++ L.flatMap bO)) (perm_q11 (A := [_, _])) ?_
  refine OD.alloc (ds := [_, _]) (wants_plain rfl) rfl rfl Try.zeroValue26 rfl (fun b7 => ?_)
  refine OD.store (k := 0) (cs' := [_, _]) (wants_plain rfl) rfl rfl ot rfl rfl ot rfl rfl Try.sizeOf26 rfl rfl rfl ?_
  refine OD.wk (Wk.as_ (n := 58) (l' := [(1, _), (4, _), (7, _)]) (S' := (⟨b7, 26, 2, [_, _]⟩ :: ⟨b4, 26, 2, [_, _]⟩ :: ⟨b2, 26, 2, [_, _]⟩ :: (Sx ++ (L.flatMap bO)))) rfl rfl ⟨lk, lk, lk, trivial⟩) ?_
  refine OD.nil ?_
  refine sr_ ?_
  refine os_ (lab_ 0 [_, _]) ?_
  refine os_ mv_ ?_
  refine OD.look (wants_plain rfl) rfl rfl rfl Try.call23 (hfv) rfl ⟨⟨_, ot, by have := view_T (root := t.root) hox hok (fun B hB => List.mem_cons_of_mem ⟨b7, 26, 2, [.v (.slice ad L.length cap), .v (.int .i64 t.root)]⟩ (List.mem_cons_of_mem ⟨b4, 26, 2, [.v (.slice none 0 0), .v (.int .i64 0)]⟩ (List.mem_cons_of_mem ⟨b2, 26, 2, [.list 5 (t.pages.flatMap cP) t.pages.length, .v (.int .i64 t.root)]⟩ hB))); rw [hL] at this; exact this⟩, ⟨_, ot, view_same⟩, trivial⟩ ?_
  refine os_ mv_ ?_
  refine os_ ex_ ?_
  refine os_ ex_ ?_
  refine os_ ex_ ?_
  refine os_ mv_ ?_
  refine os_ mv_ ?_
  refine os_ mv_ ?_
  refine OD.wk (Wk.as_ (n := 58) (l' := [(4, _), (7, _), (8, _), (9, _), (10, _)]) (S' := (⟨b7, 26, 2, [_, _]⟩ :: ⟨b4, 26, 2, [_, _]⟩ :: ⟨b2, 26, 2, [_, _]⟩ :: (Sx ++ (L.flatMap bO)))) rfl rfl ⟨lk, lk, lk, lk, lk, trivial⟩) ?_
  refine OD.nil ?_
  refine CD.seq ?_
  refine sr_ ?_
  refine os_ mv_ ?_
  refine os_ un_ ?_
  refine nm_ [4, 7, 8, 9, 29] ?_
  refine CD.cond ot (fun hc1 => ?_) (fun hc1 => ?_)
  ·have hc1' := hc1
   (try simp only [V.cnd, ne_eq] at hc1')
   have hth : thereB t k h = false := by simpa using hc1
   refine sr_ ?_
   refine OD.still (wants_plain rfl) rfl (still_bld (pl := []) (ds := [_, _]) rfl Try.zeroValue26 Try.runUnderlying26 places26_Twd trivial rfl rfl) ?_
   refine OD.store (k := 1) (cs' := [_, _]) (wants_plain rfl) rfl rfl ot rfl rfl ot rfl rfl Try.sizeOf26 rfl rfl rfl ?_
   refine os_ mv_ ?_
   refine OD.wk (Wk.as_ (n := 58) (l' := [(4, _), (5, _)]) (S' := (⟨b7, 26, 2, [_, _]⟩ :: ⟨b4, 26, 2, [_, _]⟩ :: ⟨b2, 26, 2, [_, _]⟩ :: (Sx ++ (L.flatMap bO)))) rfl rfl ⟨lk, lk, trivial⟩) ?_
   refine OD.nil ?_
   refine CD.ret ?_
   refine ⟨.inr rfl, _, [], List.nil_sublist _, ret_two Try.results20 (res_cells (k := 1) (ds := [_, _]) (Nat.le_of_ble_eq_true rfl) lk rfl rfl Try.isAgg26 Try.sizeOf26 rfl rfl) (res_tmp (Nat.le_of_ble_eq_true rfl) lk), ?_⟩
   unfold delF; rw [if_pos hz, if_neg (by rw [hth]; decide)]; exact retE_no _
  ·have hc1' := hc1
   (try simp only [V.cnd, ne_eq] at hc1')
   have hth : thereB t k h = true := by simpa using hc1
   obtain ⟨ha, hke⟩ := (thereB_iff v k).1 hth
   have po := v.page _ (pg_mem q1)
   have hle := po.leaf hleaf
   have hfw := po.few
   have hLl : L.length = t.pages.length := by rw [← hL, List.length_map]
   have hj : (leafF t k h t.root).toNat < L.length := by omega
   have hpj := map_pg hL q1 hj
   obtain ⟨bx, rfl, hxl, hxc, rfl⟩ := hox.pos (by omega)
   have hoj := hok _ (List.getElem_mem hj)
   obtain ⟨o, ho⟩ : ∃ o, o = L[(leafF t k h t.root).toNat] := ⟨_, rfl⟩
   rw [← ho] at hoj hpj
   rcases o with ⟨p, ak, ck, sk, ai, ci, si⟩
   have hpe : p = t.pg (leafF t k h t.root) := hpj
   obtain ⟨hk1, hi1⟩ : OwnKs p.keys ak ck sk ∧ OwnI p.kids ai ci si := hoj
   rw [← hpe] at ha hle hfw
   obtain ⟨bk, rfl, hkl, hkc, rfl⟩ := hk1.pos (by omega)
   obtain ⟨bi, rfl, hil, hic, rfl⟩ := hi1.pos (by omega)
   have hperm : (L.flatMap bO).Perm (⟨bk, 31, ck * 1, List.flatMap cK p.keys⟩ :: ⟨bi, 3, ci * 1, List.flatMap cI p.kids⟩ :: ((L.eraseIdx (leafF t k h t.root).toNat).flatMap bO)) := by have := perm_at bO hj; rw [← ho] at this; exact this
   refine CD.perm (S' := ⟨b7, 26, 2, [.v (.slice (some ⟨bx, 0, none⟩) L.length cap), .v (.int .i64 t.root)]⟩ :: ⟨b4, 26, 2, [.v (.slice none 0 0), .v (.int .i64 0)]⟩ :: ⟨b2, 26, 2, [.list 5 (t.pages.flatMap cP) t.pages.length, .v (.int .i64 t.root)]⟩ :: ⟨bx, 44, cap * 5, List.flatMap gO L⟩ :: ⟨bk, 31, ck * 1, List.flatMap cK p.keys⟩ :: ⟨bi, 3, ci * 1, List.flatMap cI p.kids⟩ :: ((L.eraseIdx (leafF t k h t.root).toNat).flatMap bO)) (List.Perm.cons _ (List.Perm.cons _ (List.Perm.cons _ (List.Perm.cons _ hperm)))) ?_
   rw [hpe] at ha
   have ha : (placeF (t.pg (leafF t k h t.root)) k) < p.keys.length := by rw [hpe]; exact ha
   have ha2 : (placeF (t.pg (leafF t k h t.root)) k) < p.kids.length := by omega
   have hid := hkl
   clear hk1 hi1
   refine CD.skip ?_
   refine sr_ ?_
   refine os_ (fa_ 0) ?_
   refine os_ (lb_ 0) ?_
   refine os_ mv_ ?_
   refine os_ (ix_ 5 (h := by first | exact .l (j := (leafF t k h t.root).toNat) (Int.toNat_of_nonneg q1.1).symm hj | exact .r (j := (leafF t k h t.root).toNat) (Int.toNat_of_nonneg q1.1).symm hj)) ?_
   refine os_ mv_ ?_
   refine nm_ [4, 7, 9, 11] ?_
   refine CD.seq ?_
   refine CD.draw (bks (List.take 3 _)) (by kernel_rfl) (fun _ h => (List.Sublist.map _ (List.take_sublist _ _)).subset h) ?_
   refine a0_ 0 rfl mv_ ?_
   refine a0_ 1 rfl mv_ ?_
   refine a0_ 2 rfl mv_ ?_
   refine a0_ 3 rfl nc_ ?_
   refine a0_ 4 rfl (fa_ 1) ?_
   refine a0_ 6 rfl mv_ ?_
   refine a0_ 7 rfl mv_ ?_
   refine a0_ 8 rfl (still_bin (r := .int .i64 (((placeF (t.pg (leafF t k h t.root)) k) + 1 : Nat) : Int)) rfl ot opd_const (bin_add (by rw [show (((placeF (t.pg (leafF t k h t.root)) k) : Nat) : Int) + 1 = (((placeF (t.pg (leafF t k h t.root)) k) + 1 : Nat) : Int) from rfl]; exact wrap_i64 (by omega) (by omega)))) ?_
   refine a0_ 10 rfl mv_ ?_
   refine a0_ 11 rfl nc_ ?_
   refine a0_ 12 rfl (fa_ 2) ?_
   refine a0_ 14 rfl mv_ ?_
   refine a0_ 15 rfl mv_ ?_
   refine a0_ 16 rfl (still_bin (r := .int .i64 (((placeF (t.pg (leafF t k h t.root)) k) + 1 : Nat) : Int)) rfl ot opd_const (bin_add (by rw [show (((placeF (t.pg (leafF t k h t.root)) k) : Nat) : Int) + 1 = (((placeF (t.pg (leafF t k h t.root)) k) + 1 : Nat) : Int) from rfl]; exact wrap_i64 (by omega) (by omega)))) ?_
   refine AD0.later rfl ?_
   refine AD.two (i := 5) (j := 13) (by kernel_rfl) ?_ ?_
   ·skip
    first | refine at_ rfl (still_r1 (mk := Op.load 42) rfl ot (ld_row (k := 3) (j := 1) (d := .v (.slice (some ⟨bk, 0, none⟩) p.keys.length ck)) (ls := L) gO_len rfl rfl rfl Try.isAgg42 hj (by rw [← ho]; rfl))) ?_ | refine at_ rfl (still_r1 (mk := Op.load 42) rfl ot (ld_row (k := 4) (j := 1) (d := .v (.slice (some ⟨bk, 0, none⟩) p.keys.length ck)) (ls := L) gO_len rfl rfl rfl Try.isAgg42 hj (by rw [← ho]; rfl))) ?_
    refine AD.two (i := 9) (j := 13) (by kernel_rfl) ?_ ?_
    ·skip
     refine AStep.call rfl (wants_plain rfl) rfl rfl rfl Try.call35 (deleteK_vc p.keys (placeF (t.pg (leafF t k h t.root)) k) ck bk ha hkl hkc (by omega)) ⟨ot, ot, ot, trivial⟩ (perm_one (k := 4) rfl) (by intro b hb; simp [bks, St.put] at hb ⊢; try first | exact hb | simp [hb] | (rcases hb with hb | hb <;> simp [hb]) | (rcases hb with hb | hb | hb <;> simp [hb])) ?_
     rintro _ _ ⟨rfl, rfl⟩
     refine AD.perm (S' := ⟨b7, 26, 2, [.v (.slice (some ⟨bx, 0, none⟩) L.length cap), .v (.int .i64 t.root)]⟩ :: ⟨b4, 26, 2, [.v (.slice none 0 0), .v (.int .i64 0)]⟩ :: ⟨b2, 26, 2, [.list 5 (t.pages.flatMap cP) t.pages.length, .v (.int .i64 t.root)]⟩ :: ⟨bx, 44, cap * 5, List.flatMap gO L⟩ :: ⟨bk, 31, ck * 1, List.flatMap cK (p.keys.eraseIdx (placeF (t.pg (leafF t k h t.root)) k))⟩ :: ⟨bi, 3, ci * 1, List.flatMap cI p.kids⟩ :: ((L.eraseIdx (leafF t k h t.root).toNat).flatMap bO)) (List.perm_middle (l₁ := [_, _, _, _])).symm ?_
     refine AD.one (i := 13) (by kernel_rfl) ?_
     first | refine at_ rfl (still_r1 (mk := Op.load 22) rfl ot (ld_row (k := 3) (j := 2) (d := .v (.slice (some ⟨bi, 0, none⟩) p.kids.length ci)) (ls := L) gO_len rfl rfl rfl Try.isAgg22 hj (by rw [← ho]; rfl))) ?_ | refine at_ rfl (still_r1 (mk := Op.load 22) rfl ot (ld_row (k := 4) (j := 2) (d := .v (.slice (some ⟨bi, 0, none⟩) p.kids.length ci)) (ls := L) gO_len rfl rfl rfl Try.isAgg22 hj (by rw [← ho]; rfl))) ?_
     refine AD.one (i := 17) (by kernel_rfl) ?_
     refine AStep.call rfl (wants_plain rfl) rfl rfl rfl Try.call36 (deleteI_vc p.kids (placeF (t.pg (leafF t k h t.root)) k) ci bi ha2 hil hic (by omega)) ⟨ot, ot, ot, trivial⟩ (perm_one (k := 5) rfl) (by intro b hb; simp [bks, St.put] at hb ⊢; try first | exact hb | simp [hb] | (rcases hb with hb | hb <;> simp [hb]) | (rcases hb with hb | hb | hb <;> simp [hb])) ?_
     rintro _ _ ⟨rfl, rfl⟩
     refine AD.perm (S' := ⟨b7, 26, 2, [.v (.slice (some ⟨bx, 0, none⟩) L.length cap), .v (.int .i64 t.root)]⟩ :: ⟨b4, 26, 2, [.v (.slice none 0 0), .v (.int .i64 0)]⟩ :: ⟨b2, 26, 2, [.list 5 (t.pages.flatMap cP) t.pages.length, .v (.int .i64 t.root)]⟩ :: ⟨bx, 44, cap * 5, List.flatMap gO L⟩ :: ⟨bk, 31, ck * 1, List.flatMap cK (p.keys.eraseIdx (placeF (t.pg (leafF t k h t.root)) k))⟩ :: ⟨bi, 3, ci * 1, List.flatMap cI (p.kids.eraseIdx (placeF (t.pg (leafF t k h t.root)) k))⟩ :: ((L.eraseIdx (leafF t k h t.root).toNat).flatMap bO)) (List.perm_middle (l₁ := [_, _, _, _, _])).symm ?_
     refine a1_ 18 rfl nc_ ?_
     refine a1_ 19 rfl (fa_ 1) ?_
     refine AD.one (i := 20) (by kernel_rfl) ?_
     refine AStep.storeAt (k := 3) (cs' := List.flatMap gO (L.set (leafF t k h t.root).toNat (⟨{ p with keys := (p.keys.eraseIdx (placeF (t.pg (leafF t k h t.root)) k)) }, some ⟨bk, 0, none⟩, ck, [⟨bk, 31, ck * 1, List.flatMap cK (p.keys.eraseIdx (placeF (t.pg (leafF t k h t.root)) k))⟩], some ⟨bi, 0, none⟩, ci, [⟨bi, 3, ci * 1, List.flatMap cI p.kids⟩]⟩ : PgO))) rfl (wants_plain rfl) rfl rfl ot rfl rfl ot rfl rfl Try.sizeOf42 rfl (by show 0 + (leafF t k h t.root).toNat * 5 + 1 + 1 ≤ (List.flatMap gO L).length; rw [fm_len gO_len]; omega) (by show (L.flatMap gO).set (0 + (leafF t k h t.root).toNat * 5 + 1) _ = _; rw [Nat.zero_add]; exact fm_cellset gO_len (by decide) hj (by rw [← ho]; show gO (⟨{ p with keys := (p.keys.eraseIdx (placeF (t.pg (leafF t k h t.root)) k)) }, some ⟨bk, 0, none⟩, ck, [⟨bk, 31, ck * 1, List.flatMap cK (p.keys.eraseIdx (placeF (t.pg (leafF t k h t.root)) k))⟩], some ⟨bi, 0, none⟩, ci, [⟨bi, 3, ci * 1, List.flatMap cI p.kids⟩]⟩ : PgO) = (gO (⟨p, some ⟨bk, 0, none⟩, ck, [⟨bk, 31, ck * 1, List.flatMap cK p.keys⟩], some ⟨bi, 0, none⟩, ci, [⟨bi, 3, ci * 1, List.flatMap cI p.kids⟩]⟩ : PgO)).set 1 _; unfold gO; rw [List.length_eraseIdx_of_lt ha]; rfl)) (by intro b hb; simp [bks, St.put] at hb ⊢; try first | exact hb | simp [hb] | (rcases hb with hb | hb <;> simp [hb]) | (rcases hb with hb | hb | hb <;> simp [hb])) ?_
     refine a1_ 21 rfl nc_ ?_
     refine a1_ 22 rfl (fa_ 2) ?_
     refine AD.one (i := 23) (by kernel_rfl) ?_
     refine AStep.storeAt (k := 3) (cs' := List.flatMap gO (L.set (leafF t k h t.root).toNat (⟨(cutP p (placeF (t.pg (leafF t k h t.root)) k)), some ⟨bk, 0, none⟩, ck, [⟨bk, 31, ck * 1, List.flatMap cK (p.keys.eraseIdx (placeF (t.pg (leafF t k h t.root)) k))⟩], some ⟨bi, 0, none⟩, ci, [⟨bi, 3, ci * 1, List.flatMap cI (p.kids.eraseIdx (placeF (t.pg (leafF t k h t.root)) k))⟩]⟩ : PgO))) rfl (wants_plain rfl) rfl rfl ot rfl rfl ot rfl rfl Try.sizeOf22 rfl (by show 0 + (leafF t k h t.root).toNat * 5 + 2 + 1 ≤ (List.flatMap gO (L.set (leafF t k h t.root).toNat (⟨{ p with keys := (p.keys.eraseIdx (placeF (t.pg (leafF t k h t.root)) k)) }, some ⟨bk, 0, none⟩, ck, [⟨bk, 31, ck * 1, List.flatMap cK (p.keys.eraseIdx (placeF (t.pg (leafF t k h t.root)) k))⟩], some ⟨bi, 0, none⟩, ci, [⟨bi, 3, ci * 1, List.flatMap cI p.kids⟩]⟩ : PgO))).length; rw [fm_len gO_len, List.length_set]; omega) (by show (List.flatMap gO (L.set (leafF t k h t.root).toNat (⟨{ p with keys := (p.keys.eraseIdx (placeF (t.pg (leafF t k h t.root)) k)) }, some ⟨bk, 0, none⟩, ck, [⟨bk, 31, ck * 1, List.flatMap cK (p.keys.eraseIdx (placeF (t.pg (leafF t k h t.root)) k))⟩], some ⟨bi, 0, none⟩, ci, [⟨bi, 3, ci * 1, List.flatMap cI p.kids⟩]⟩ : PgO))).set (0 + (leafF t k h t.root).toNat * 5 + 2) _ = _; rw [Nat.zero_add, fm_cellset gO_len (a' := (⟨(cutP p (placeF (t.pg (leafF t k h t.root)) k)), some ⟨bk, 0, none⟩, ck, [⟨bk, 31, ck * 1, List.flatMap cK (p.keys.eraseIdx (placeF (t.pg (leafF t k h t.root)) k))⟩], some ⟨bi, 0, none⟩, ci, [⟨bi, 3, ci * 1, List.flatMap cI (p.kids.eraseIdx (placeF (t.pg (leafF t k h t.root)) k))⟩]⟩ : PgO)) (by decide) (by rw [List.length_set]; exact hj) (by rw [List.getElem_set_self]; show gO (⟨(cutP p (placeF (t.pg (leafF t k h t.root)) k)), some ⟨bk, 0, none⟩, ck, [⟨bk, 31, ck * 1, List.flatMap cK (p.keys.eraseIdx (placeF (t.pg (leafF t k h t.root)) k))⟩], some ⟨bi, 0, none⟩, ci, [⟨bi, 3, ci * 1, List.flatMap cI (p.kids.eraseIdx (placeF (t.pg (leafF t k h t.root)) k))⟩]⟩ : PgO) = (gO (⟨{ p with keys := (p.keys.eraseIdx (placeF (t.pg (leafF t k h t.root)) k)) }, some ⟨bk, 0, none⟩, ck, [⟨bk, 31, ck * 1, List.flatMap cK (p.keys.eraseIdx (placeF (t.pg (leafF t k h t.root)) k))⟩], some ⟨bi, 0, none⟩, ci, [⟨bi, 3, ci * 1, List.flatMap cI p.kids⟩]⟩ : PgO)).set 2 _; unfold gO cutP; simp only []; rw [List.length_eraseIdx_of_lt ha2]; rfl), List.set_set]) (by intro b hb; simp [bks, St.put] at hb ⊢; try first | exact hb | simp [hb] | (rcases hb with hb | hb <;> simp [hb]) | (rcases hb with hb | hb | hb <;> simp [hb])) ?_
     have hpm : (⟨bk, 31, ck * 1, List.flatMap cK (p.keys.eraseIdx (placeF (t.pg (leafF t k h t.root)) k))⟩ :: ⟨bi, 3, ci * 1, List.flatMap cI (p.kids.eraseIdx (placeF (t.pg (leafF t k h t.root)) k))⟩ :: ((L.eraseIdx (leafF t k h t.root).toNat).flatMap bO)).Perm ((L.set (leafF t k h t.root).toNat (⟨(cutP p (placeF (t.pg (leafF t k h t.root)) k)), some ⟨bk, 0, none⟩, ck, [⟨bk, 31, ck * 1, List.flatMap cK (p.keys.eraseIdx (placeF (t.pg (leafF t k h t.root)) k))⟩], some ⟨bi, 0, none⟩, ci, [⟨bi, 3, ci * 1, List.flatMap cI (p.kids.eraseIdx (placeF (t.pg (leafF t k h t.root)) k))⟩]⟩ : PgO)).flatMap bO) := (perm_put bO hj (⟨(cutP p (placeF (t.pg (leafF t k h t.root)) k)), some ⟨bk, 0, none⟩, ck, [⟨bk, 31, ck * 1, List.flatMap cK (p.keys.eraseIdx (placeF (t.pg (leafF t k h t.root)) k))⟩], some ⟨bi, 0, none⟩, ci, [⟨bi, 3, ci * 1, List.flatMap cI (p.kids.eraseIdx (placeF (t.pg (leafF t k h t.root)) k))⟩]⟩ : PgO)).symm
     refine AD.perm (S' := ⟨b7, 26, 2, [.v (.slice (some ⟨bx, 0, none⟩) L.length cap), .v (.int .i64 t.root)]⟩ :: ⟨b4, 26, 2, [.v (.slice none 0 0), .v (.int .i64 0)]⟩ :: ⟨b2, 26, 2, [.list 5 (t.pages.flatMap cP) t.pages.length, .v (.int .i64 t.root)]⟩ :: (([⟨bx, 44, cap * 5, List.flatMap gO (L.set (leafF t k h t.root).toNat (⟨(cutP p (placeF (t.pg (leafF t k h t.root)) k)), some ⟨bk, 0, none⟩, ck, [⟨bk, 31, ck * 1, List.flatMap cK (p.keys.eraseIdx (placeF (t.pg (leafF t k h t.root)) k))⟩], some ⟨bi, 0, none⟩, ci, [⟨bi, 3, ci * 1, List.flatMap cI (p.kids.eraseIdx (placeF (t.pg (leafF t k h t.root)) k))⟩]⟩ : PgO))⟩] : List Blk) ++ (L.set (leafF t k h t.root).toNat (⟨(cutP p (placeF (t.pg (leafF t k h t.root)) k)), some ⟨bk, 0, none⟩, ck, [⟨bk, 31, ck * 1, List.flatMap cK (p.keys.eraseIdx (placeF (t.pg (leafF t k h t.root)) k))⟩], some ⟨bi, 0, none⟩, ci, [⟨bi, 3, ci * 1, List.flatMap cI (p.kids.eraseIdx (placeF (t.pg (leafF t k h t.root)) k))⟩]⟩ : PgO)).flatMap bO)) (List.Perm.cons _ (List.Perm.cons _ (List.Perm.cons _ (List.Perm.cons _ hpm)))) ?_
     refine AD.wk (y := ⟨58, [(4, _), (7, _)], (⟨b7, 26, 2, [_, _]⟩ :: ⟨b4, 26, 2, [_, _]⟩ :: ⟨b2, 26, 2, [_, _]⟩ :: ([⟨bx, 44, cap * 5, List.flatMap gO (L.set (leafF t k h t.root).toNat (⟨(cutP p (placeF (t.pg (leafF t k h t.root)) k)), some ⟨bk, 0, none⟩, ck, [⟨bk, 31, ck * 1, List.flatMap cK (p.keys.eraseIdx (placeF (t.pg (leafF t k h t.root)) k))⟩], some ⟨bi, 0, none⟩, ci, [⟨bi, 3, ci * 1, List.flatMap cI (p.kids.eraseIdx (placeF (t.pg (leafF t k h t.root)) k))⟩]⟩ : PgO))⟩] ++ (L.set (leafF t k h t.root).toNat (⟨(cutP p (placeF (t.pg (leafF t k h t.root)) k)), some ⟨bk, 0, none⟩, ck, [⟨bk, 31, ck * 1, List.flatMap cK (p.keys.eraseIdx (placeF (t.pg (leafF t k h t.root)) k))⟩], some ⟨bi, 0, none⟩, ci, [⟨bi, 3, ci * 1, List.flatMap cI (p.kids.eraseIdx (placeF (t.pg (leafF t k h t.root)) k))⟩]⟩ : PgO)).flatMap bO))⟩) (Wk.as_ rfl rfl ⟨lk, lk, trivial⟩) rfl ?_
     refine AD.done (by kernel_rfl) ?_
     refine sr_ ?_
     refine os_ (lab_ 0 [_, _]) ?_
     refine OD.store (k := 1) (cs' := [_, _]) (wants_plain rfl) rfl rfl ot rfl rfl ot rfl rfl Try.sizeOf26 rfl rfl rfl ?_
     refine os_ mv_ ?_
     refine OD.wk (Wk.as_ (n := 58) (l' := [(4, _), (5, _)]) (S' := (⟨b7, 26, 2, [_, _]⟩ :: ⟨b4, 26, 2, [_, _]⟩ :: ⟨b2, 26, 2, [_, _]⟩ :: ([⟨bx, 44, cap * 5, List.flatMap gO (L.set (leafF t k h t.root).toNat (⟨(cutP p (placeF (t.pg (leafF t k h t.root)) k)), some ⟨bk, 0, none⟩, ck, [⟨bk, 31, ck * 1, List.flatMap cK (p.keys.eraseIdx (placeF (t.pg (leafF t k h t.root)) k))⟩], some ⟨bi, 0, none⟩, ci, [⟨bi, 3, ci * 1, List.flatMap cI (p.kids.eraseIdx (placeF (t.pg (leafF t k h t.root)) k))⟩]⟩ : PgO))⟩] ++ (L.set (leafF t k h t.root).toNat (⟨(cutP p (placeF (t.pg (leafF t k h t.root)) k)), some ⟨bk, 0, none⟩, ck, [⟨bk, 31, ck * 1, List.flatMap cK (p.keys.eraseIdx (placeF (t.pg (leafF t k h t.root)) k))⟩], some ⟨bi, 0, none⟩, ci, [⟨bi, 3, ci * 1, List.flatMap cI (p.kids.eraseIdx (placeF (t.pg (leafF t k h t.root)) k))⟩]⟩ : PgO)).flatMap bO))) rfl rfl ⟨lk, lk, trivial⟩) ?_
     refine OD.nil ?_
     refine CD.ret ?_
     refine ⟨.inr rfl, _, ([⟨bx, 44, cap * 5, List.flatMap gO (L.set (leafF t k h t.root).toNat (⟨(cutP p (placeF (t.pg (leafF t k h t.root)) k)), some ⟨bk, 0, none⟩, ck, [⟨bk, 31, ck * 1, List.flatMap cK (p.keys.eraseIdx (placeF (t.pg (leafF t k h t.root)) k))⟩], some ⟨bi, 0, none⟩, ci, [⟨bi, 3, ci * 1, List.flatMap cI (p.kids.eraseIdx (placeF (t.pg (leafF t k h t.root)) k))⟩]⟩ : PgO))⟩] ++ (L.set (leafF t k h t.root).toNat (⟨(cutP p (placeF (t.pg (leafF t k h t.root)) k)), some ⟨bk, 0, none⟩, ck, [⟨bk, 31, ck * 1, List.flatMap cK (p.keys.eraseIdx (placeF (t.pg (leafF t k h t.root)) k))⟩], some ⟨bi, 0, none⟩, ci, [⟨bi, 3, ci * 1, List.flatMap cI (p.kids.eraseIdx (placeF (t.pg (leafF t k h t.root)) k))⟩]⟩ : PgO)).flatMap bO), (by repeat (first | exact List.Sublist.refl _ | apply List.Sublist.cons)), ret_two Try.results20 (res_cells (k := 1) (ds := [_, _]) (Nat.le_of_ble_eq_true rfl) lk rfl rfl Try.isAgg26 Try.sizeOf26 rfl rfl) (res_tmp (Nat.le_of_ble_eq_true rfl) lk), ?_⟩
     unfold delF; rw [if_pos hz, if_pos hth]
     refine ⟨_, rfl, L.set (leafF t k h t.root).toNat (⟨(cutP p (placeF (t.pg (leafF t k h t.root)) k)), some ⟨bk, 0, none⟩, ck, [⟨bk, 31, ck * 1, List.flatMap cK (p.keys.eraseIdx (placeF (t.pg (leafF t k h t.root)) k))⟩], some ⟨bi, 0, none⟩, ci, [⟨bi, 3, ci * 1, List.flatMap cI (p.kids.eraseIdx (placeF (t.pg (leafF t k h t.root)) k))⟩]⟩ : PgO), some ⟨bx, 0, none⟩, cap, _, by rw [List.length_set]; rfl, ownL_row (by rw [List.length_set]; exact hxl) hxc, fun x hx => ?_, ?_, rfl⟩
     ·rcases List.mem_or_eq_of_mem_set hx with hx | rfl
      ·exact hok x hx
      ·exact ⟨ownL_row (by show (p.keys.eraseIdx (placeF (t.pg (leafF t k h t.root)) k)).length ≤ ck; rw [List.length_eraseIdx_of_lt ha]; omega) hkc, ownL_row (by show (p.kids.eraseIdx (placeF (t.pg (leafF t k h t.root)) k)).length ≤ ci; rw [List.length_eraseIdx_of_lt ha2]; omega) hic⟩
     ·rw [List.map_set, hL]; show _ = t.pages.set (leafF t k h t.root).toNat (cutP (t.pg (leafF t k h t.root)) (placeF (t.pg (leafF t k h t.root)) k)); rw [← hpe]
    ·skip
     first | refine at_ rfl (still_r1 (mk := Op.load 22) rfl ot (ld_row (k := 3) (j := 2) (d := .v (.slice (some ⟨bi, 0, none⟩) p.kids.length ci)) (ls := L) gO_len rfl rfl rfl Try.isAgg22 hj (by rw [← ho]; rfl))) ?_ | refine at_ rfl (still_r1 (mk := Op.load 22) rfl ot (ld_row (k := 4) (j := 2) (d := .v (.slice (some ⟨bi, 0, none⟩) p.kids.length ci)) (ls := L) gO_len rfl rfl rfl Try.isAgg22 hj (by rw [← ho]; rfl))) ?_
     refine AD.one (i := 9) (by kernel_rfl) ?_
     refine AStep.call rfl (wants_plain rfl) rfl rfl rfl Try.call35 (deleteK_vc p.keys (placeF (t.pg (leafF t k h t.root)) k) ck bk ha hkl hkc (by omega)) ⟨ot, ot, ot, trivial⟩ (perm_one (k := 4) rfl) (by intro b hb; simp [bks, St.put] at hb ⊢; try first | exact hb | simp [hb] | (rcases hb with hb | hb <;> simp [hb]) | (rcases hb with hb | hb | hb <;> simp [hb])) ?_
     rintro _ _ ⟨rfl, rfl⟩
     refine AD.perm (S' := ⟨b7, 26, 2, [.v (.slice (some ⟨bx, 0, none⟩) L.length cap), .v (.int .i64 t.root)]⟩ :: ⟨b4, 26, 2, [.v (.slice none 0 0), .v (.int .i64 0)]⟩ :: ⟨b2, 26, 2, [.list 5 (t.pages.flatMap cP) t.pages.length, .v (.int .i64 t.root)]⟩ :: ⟨bx, 44, cap * 5, List.flatMap gO L⟩ :: ⟨bk, 31, ck * 1, List.flatMap cK (p.keys.eraseIdx (placeF (t.pg (leafF t k h t.root)) k))⟩ :: ⟨bi, 3, ci * 1, List.flatMap cI p.kids⟩ :: ((L.eraseIdx (leafF t k h t.root).toNat).flatMap bO)) (List.perm_middle (l₁ := [_, _, _, _])).symm ?_
     refine AD.one (i := 17) (by kernel_rfl) ?_
     refine AStep.call rfl (wants_plain rfl) rfl rfl rfl Try.call36 (deleteI_vc p.kids (placeF (t.pg (leafF t k h t.root)) k) ci bi ha2 hil hic (by omega)) ⟨ot, ot, ot, trivial⟩ (perm_one (k := 5) rfl) (by intro b hb; simp [bks, St.put] at hb ⊢; try first | exact hb | simp [hb] | (rcases hb with hb | hb <;> simp [hb]) | (rcases hb with hb | hb | hb <;> simp [hb])) ?_
     rintro _ _ ⟨rfl, rfl⟩
     refine AD.perm (S' := ⟨b7, 26, 2, [.v (.slice (some ⟨bx, 0, none⟩) L.length cap), .v (.int .i64 t.root)]⟩ :: ⟨b4, 26, 2, [.v (.slice none 0 0), .v (.int .i64 0)]⟩ :: ⟨b2, 26, 2, [.list 5 (t.pages.flatMap cP) t.pages.length, .v (.int .i64 t.root)]⟩ :: ⟨bx, 44, cap * 5, List.flatMap gO L⟩ :: ⟨bk, 31, ck * 1, List.flatMap cK (p.keys.eraseIdx (placeF (t.pg (leafF t k h t.root)) k))⟩ :: ⟨bi, 3, ci * 1, List.flatMap cI (p.kids.eraseIdx (placeF (t.pg (leafF t k h t.root)) k))⟩ :: ((L.eraseIdx (leafF t k h t.root).toNat).flatMap bO)) (List.perm_middle (l₁ := [_, _, _, _, _])).symm ?_
     refine a1_ 18 rfl nc_ ?_
     refine a1_ 19 rfl (fa_ 1) ?_
     refine AD.one (i := 20) (by kernel_rfl) ?_
     refine AStep.storeAt (k := 3) (cs' := List.flatMap gO (L.set (leafF t k h t.root).toNat (⟨{ p with keys := (p.keys.eraseIdx (placeF (t.pg (leafF t k h t.root)) k)) }, some ⟨bk, 0, none⟩, ck, [⟨bk, 31, ck * 1, List.flatMap cK (p.keys.eraseIdx (placeF (t.pg (leafF t k h t.root)) k))⟩], some ⟨bi, 0, none⟩, ci, [⟨bi, 3, ci * 1, List.flatMap cI p.kids⟩]⟩ : PgO))) rfl (wants_plain rfl) rfl rfl ot rfl rfl ot rfl rfl Try.sizeOf42 rfl (by show 0 + (leafF t k h t.root).toNat * 5 + 1 + 1 ≤ (List.flatMap gO L).length; rw [fm_len gO_len]; omega) (by show (L.flatMap gO).set (0 + (leafF t k h t.root).toNat * 5 + 1) _ = _; rw [Nat.zero_add]; exact fm_cellset gO_len (by decide) hj (by rw [← ho]; show gO (⟨{ p with keys := (p.keys.eraseIdx (placeF (t.pg (leafF t k h t.root)) k)) }, some ⟨bk, 0, none⟩, ck, [⟨bk, 31, ck * 1, List.flatMap cK (p.keys.eraseIdx (placeF (t.pg (leafF t k h t.root)) k))⟩], some ⟨bi, 0, none⟩, ci, [⟨bi, 3, ci * 1, List.flatMap cI p.kids⟩]⟩ : PgO) = (gO (⟨p, some ⟨bk, 0, none⟩, ck, [⟨bk, 31, ck * 1, List.flatMap cK p.keys⟩], some ⟨bi, 0, none⟩, ci, [⟨bi, 3, ci * 1, List.flatMap cI p.kids⟩]⟩ : PgO)).set 1 _; unfold gO; rw [List.length_eraseIdx_of_lt ha]; rfl)) (by intro b hb; simp [bks, St.put] at hb ⊢; try first | exact hb | simp [hb] | (rcases hb with hb | hb <;> simp [hb]) | (rcases hb with hb | hb | hb <;> simp [hb])) ?_
     refine a1_ 21 rfl nc_ ?_
     refine a1_ 22 rfl (fa_ 2) ?_
     refine AD.one (i := 23) (by kernel_rfl) ?_
     refine AStep.storeAt (k := 3) (cs' := List.flatMap gO (L.set (leafF t k h t.root).toNat (⟨(cutP p (placeF (t.pg (leafF t k h t.root)) k)), some ⟨bk, 0, none⟩, ck, [⟨bk, 31, ck * 1, List.flatMap cK (p.keys.eraseIdx (placeF (t.pg (leafF t k h t.root)) k))⟩], some ⟨bi, 0, none⟩, ci, [⟨bi, 3, ci * 1, List.flatMap cI (p.kids.eraseIdx (placeF (t.pg (leafF t k h t.root)) k))⟩]⟩ : PgO))) rfl (wants_plain rfl) rfl rfl ot rfl rfl ot rfl rfl Try.sizeOf22 rfl (by show 0 + (leafF t k h t.root).toNat * 5 + 2 + 1 ≤ (List.flatMap gO (L.set (leafF t k h t.root).toNat (⟨{ p with keys := (p.keys.eraseIdx (placeF (t.pg (leafF t k h t.root)) k)) }, some ⟨bk, 0, none⟩, ck, [⟨bk, 31, ck * 1, List.flatMap cK (p.keys.eraseIdx (placeF (t.pg (leafF t k h t.root)) k))⟩], some ⟨bi, 0, none⟩, ci, [⟨bi, 3, ci * 1, List.flatMap cI p.kids⟩]⟩ : PgO))).length; rw [fm_len gO_len, List.length_set]; omega) (by show (List.flatMap gO (L.set (leafF t k h t.root).toNat (⟨{ p with keys := (p.keys.eraseIdx (placeF (t.pg (leafF t k h t.root)) k)) }, some ⟨bk, 0, none⟩, ck, [⟨bk, 31, ck * 1, List.flatMap cK (p.keys.eraseIdx (placeF (t.pg (leafF t k h t.root)) k))⟩], some ⟨bi, 0, none⟩, ci, [⟨bi, 3, ci * 1, List.flatMap cI p.kids⟩]⟩ : PgO))).set (0 + (leafF t k h t.root).toNat * 5 + 2) _ = _; rw [Nat.zero_add, fm_cellset gO_len (a' := (⟨(cutP p (placeF (t.pg (leafF t k h t.root)) k)), some ⟨bk, 0, none⟩, ck, [⟨bk, 31, ck * 1, List.flatMap cK (p.keys.eraseIdx (placeF (t.pg (leafF t k h t.root)) k))⟩], some ⟨bi, 0, none⟩, ci, [⟨bi, 3, ci * 1, List.flatMap cI (p.kids.eraseIdx (placeF (t.pg (leafF t k h t.root)) k))⟩]⟩ : PgO)) (by decide) (by rw [List.length_set]; exact hj) (by rw [List.getElem_set_self]; show gO (⟨(cutP p (placeF (t.pg (leafF t k h t.root)) k)), some ⟨bk, 0, none⟩, ck, [⟨bk, 31, ck * 1, List.flatMap cK (p.keys.eraseIdx (placeF (t.pg (leafF t k h t.root)) k))⟩], some ⟨bi, 0, none⟩, ci, [⟨bi, 3, ci * 1, List.flatMap cI (p.kids.eraseIdx (placeF (t.pg (leafF t k h t.root)) k))⟩]⟩ : PgO) = (gO (⟨{ p with keys := (p.keys.eraseIdx (placeF (t.pg (leafF t k h t.root)) k)) }, some ⟨bk, 0, none⟩, ck, [⟨bk, 31, ck * 1, List.flatMap cK (p.keys.eraseIdx (placeF (t.pg (leafF t k h t.root)) k))⟩], some ⟨bi, 0, none⟩, ci, [⟨bi, 3, ci * 1, List.flatMap cI p.kids⟩]⟩ : PgO)).set 2 _; unfold gO cutP; simp only []; rw [List.length_eraseIdx_of_lt ha2]; rfl), List.set_set]) (by intro b hb; simp [bks, St.put] at hb ⊢; try first | exact hb | simp [hb] | (rcases hb with hb | hb <;> simp [hb]) | (rcases hb with hb | hb | hb <;> simp [hb])) ?_
     have hpm : (⟨bk, 31, ck * 1, List.flatMap cK (p.keys.eraseIdx (placeF (t.pg (leafF t k h t.root)) k))⟩ :: ⟨bi, 3, ci * 1, List.flatMap cI (p.kids.eraseIdx (placeF (t.pg (leafF t k h t.root)) k))⟩ :: ((L.eraseIdx (leafF t k h t.root).toNat).flatMap bO)).Perm ((L.set (leafF t k h t.root).toNat (⟨(cutP p (placeF (t.pg (leafF t k h t.root)) k)), some ⟨bk, 0, none⟩, ck, [⟨bk, 31, ck * 1, List.flatMap cK (p.keys.eraseIdx (placeF (t.pg (leafF t k h t.root)) k))⟩], some ⟨bi, 0, none⟩, ci, [⟨bi, 3, ci * 1, List.flatMap cI (p.kids.eraseIdx (placeF (t.pg (leafF t k h t.root)) k))⟩]⟩ : PgO)).flatMap bO) := (perm_put bO hj (⟨(cutP p (placeF (t.pg (leafF t k h t.root)) k)), some ⟨bk, 0, none⟩, ck, [⟨bk, 31, ck * 1, List.flatMap cK (p.keys.eraseIdx (placeF (t.pg (leafF t k h t.root)) k))⟩], some ⟨bi, 0, none⟩, ci, [⟨bi, 3, ci * 1, List.flatMap cI (p.kids.eraseIdx (placeF (t.pg (leafF t k h t.root)) k))⟩]⟩ : PgO)).symm
     refine AD.perm (S' := ⟨b7, 26, 2, [.v (.slice (some ⟨bx, 0, none⟩) L.length cap), .v (.int .i64 t.root)]⟩ :: ⟨b4, 26, 2, [.v (.slice none 0 0), .v (.int .i64 0)]⟩ :: ⟨b2, 26, 2, [.list 5 (t.pages.flatMap cP) t.pages.length, .v (.int .i64 t.root)]⟩ :: (([⟨bx, 44, cap * 5, List.flatMap gO (L.set (leafF t k h t.root).toNat (⟨(cutP p (placeF (t.pg (leafF t k h t.root)) k)), some ⟨bk, 0, none⟩, ck, [⟨bk, 31, ck * 1, List.flatMap cK (p.keys.eraseIdx (placeF (t.pg (leafF t k h t.root)) k))⟩], some ⟨bi, 0, none⟩, ci, [⟨bi, 3, ci * 1, List.flatMap cI (p.kids.eraseIdx (placeF (t.pg (leafF t k h t.root)) k))⟩]⟩ : PgO))⟩] : List Blk) ++ (L.set (leafF t k h t.root).toNat (⟨(cutP p (placeF (t.pg (leafF t k h t.root)) k)), some ⟨bk, 0, none⟩, ck, [⟨bk, 31, ck * 1, List.flatMap cK (p.keys.eraseIdx (placeF (t.pg (leafF t k h t.root)) k))⟩], some ⟨bi, 0, none⟩, ci, [⟨bi, 3, ci * 1, List.flatMap cI (p.kids.eraseIdx (placeF (t.pg (leafF t k h t.root)) k))⟩]⟩ : PgO)).flatMap bO)) (List.Perm.cons _ (List.Perm.cons _ (List.Perm.cons _ (List.Perm.cons _ hpm)))) ?_
     refine AD.wk (y := ⟨58, [(4, _), (7, _)], (⟨b7, 26, 2, [_, _]⟩ :: ⟨b4, 26, 2, [_, _]⟩ :: ⟨b2, 26, 2, [_, _]⟩ :: ([⟨bx, 44, cap * 5, List.flatMap gO (L.set (leafF t k h t.root).toNat (⟨(cutP p (placeF (t.pg (leafF t k h t.root)) k)), some ⟨bk, 0, none⟩, ck, [⟨bk, 31, ck * 1, List.flatMap cK (p.keys.eraseIdx (placeF (t.pg (leafF t k h t.root)) k))⟩], some ⟨bi, 0, none⟩, ci, [⟨bi, 3, ci * 1, List.flatMap cI (p.kids.eraseIdx (placeF (t.pg (leafF t k h t.root)) k))⟩]⟩ : PgO))⟩] ++ (L.set (leafF t k h t.root).toNat (⟨(cutP p (placeF (t.pg (leafF t k h t.root)) k)), some ⟨bk, 0, none⟩, ck, [⟨bk, 31, ck * 1, List.flatMap cK (p.keys.eraseIdx (placeF (t.pg (leafF t k h t.root)) k))⟩], some ⟨bi, 0, none⟩, ci, [⟨bi, 3, ci * 1, List.flatMap cI (p.kids.eraseIdx (placeF (t.pg (leafF t k h t.root)) k))⟩]⟩ : PgO)).flatMap bO))⟩) (Wk.as_ rfl rfl ⟨lk, lk, trivial⟩) rfl ?_
     refine AD.done (by kernel_rfl) ?_
     refine sr_ ?_
     refine os_ (lab_ 0 [_, _]) ?_
     refine OD.store (k := 1) (cs' := [_, _]) (wants_plain rfl) rfl rfl ot rfl rfl ot rfl rfl Try.sizeOf26 rfl rfl rfl ?_
     refine os_ mv_ ?_
     refine OD.wk (Wk.as_ (n := 58) (l' := [(4, _), (5, _)]) (S' := (⟨b7, 26, 2, [_, _]⟩ :: ⟨b4, 26, 2, [_, _]⟩ :: ⟨b2, 26, 2, [_, _]⟩ :: ([⟨bx, 44, cap * 5, List.flatMap gO (L.set (leafF t k h t.root).toNat (⟨(cutP p (placeF (t.pg (leafF t k h t.root)) k)), some ⟨bk, 0, none⟩, ck, [⟨bk, 31, ck * 1, List.flatMap cK (p.keys.eraseIdx (placeF (t.pg (leafF t k h t.root)) k))⟩], some ⟨bi, 0, none⟩, ci, [⟨bi, 3, ci * 1, List.flatMap cI (p.kids.eraseIdx (placeF (t.pg (leafF t k h t.root)) k))⟩]⟩ : PgO))⟩] ++ (L.set (leafF t k h t.root).toNat (⟨(cutP p (placeF (t.pg (leafF t k h t.root)) k)), some ⟨bk, 0, none⟩, ck, [⟨bk, 31, ck * 1, List.flatMap cK (p.keys.eraseIdx (placeF (t.pg (leafF t k h t.root)) k))⟩], some ⟨bi, 0, none⟩, ci, [⟨bi, 3, ci * 1, List.flatMap cI (p.kids.eraseIdx (placeF (t.pg (leafF t k h t.root)) k))⟩]⟩ : PgO)).flatMap bO))) rfl rfl ⟨lk, lk, trivial⟩) ?_
     refine OD.nil ?_
     refine CD.ret ?_
     refine ⟨.inr rfl, _, ([⟨bx, 44, cap * 5, List.flatMap gO (L.set (leafF t k h t.root).toNat (⟨(cutP p (placeF (t.pg (leafF t k h t.root)) k)), some ⟨bk, 0, none⟩, ck, [⟨bk, 31, ck * 1, List.flatMap cK (p.keys.eraseIdx (placeF (t.pg (leafF t k h t.root)) k))⟩], some ⟨bi, 0, none⟩, ci, [⟨bi, 3, ci * 1, List.flatMap cI (p.kids.eraseIdx (placeF (t.pg (leafF t k h t.root)) k))⟩]⟩ : PgO))⟩] ++ (L.set (leafF t k h t.root).toNat (⟨(cutP p (placeF (t.pg (leafF t k h t.root)) k)), some ⟨bk, 0, none⟩, ck, [⟨bk, 31, ck * 1, List.flatMap cK (p.keys.eraseIdx (placeF (t.pg (leafF t k h t.root)) k))⟩], some ⟨bi, 0, none⟩, ci, [⟨bi, 3, ci * 1, List.flatMap cI (p.kids.eraseIdx (placeF (t.pg (leafF t k h t.root)) k))⟩]⟩ : PgO)).flatMap bO), (by repeat (first | exact List.Sublist.refl _ | apply List.Sublist.cons)), ret_two Try.results20 (res_cells (k := 1) (ds := [_, _]) (Nat.le_of_ble_eq_true rfl) lk rfl rfl Try.isAgg26 Try.sizeOf26 rfl rfl) (res_tmp (Nat.le_of_ble_eq_true rfl) lk), ?_⟩
     unfold delF; rw [if_pos hz, if_pos hth]
     refine ⟨_, rfl, L.set (leafF t k h t.root).toNat (⟨(cutP p (placeF (t.pg (leafF t k h t.root)) k)), some ⟨bk, 0, none⟩, ck, [⟨bk, 31, ck * 1, List.flatMap cK (p.keys.eraseIdx (placeF (t.pg (leafF t k h t.root)) k))⟩], some ⟨bi, 0, none⟩, ci, [⟨bi, 3, ci * 1, List.flatMap cI (p.kids.eraseIdx (placeF (t.pg (leafF t k h t.root)) k))⟩]⟩ : PgO), some ⟨bx, 0, none⟩, cap, _, by rw [List.length_set]; rfl, ownL_row (by rw [List.length_set]; exact hxl) hxc, fun x hx => ?_, ?_, rfl⟩
     ·rcases List.mem_or_eq_of_mem_set hx with hx | rfl
      ·exact hok x hx
      ·exact ⟨ownL_row (by show (p.keys.eraseIdx (placeF (t.pg (leafF t k h t.root)) k)).length ≤ ck; rw [List.length_eraseIdx_of_lt ha]; omega) hkc, ownL_row (by show (p.kids.eraseIdx (placeF (t.pg (leafF t k h t.root)) k)).length ≤ ci; rw [List.length_eraseIdx_of_lt ha2]; omega) hic⟩
     ·rw [List.map_set, hL]; show _ = t.pages.set (leafF t k h t.root).toNat (cutP (t.pg (leafF t k h t.root)) (placeF (t.pg (leafF t k h t.root)) k)); rw [← hpe]
   ·skip
    first | refine at_ rfl (still_r1 (mk := Op.load 22) rfl ot (ld_row (k := 3) (j := 2) (d := .v (.slice (some ⟨bi, 0, none⟩) p.kids.length ci)) (ls := L) gO_len rfl rfl rfl Try.isAgg22 hj (by rw [← ho]; rfl))) ?_ | refine at_ rfl (still_r1 (mk := Op.load 22) rfl ot (ld_row (k := 4) (j := 2) (d := .v (.slice (some ⟨bi, 0, none⟩) p.kids.length ci)) (ls := L) gO_len rfl rfl rfl Try.isAgg22 hj (by rw [← ho]; rfl))) ?_
    refine AD.one (i := 5) (by kernel_rfl) ?_
    first | refine at_ rfl (still_r1 (mk := Op.load 42) rfl ot (ld_row (k := 3) (j := 1) (d := .v (.slice (some ⟨bk, 0, none⟩) p.keys.length ck)) (ls := L) gO_len rfl rfl rfl Try.isAgg42 hj (by rw [← ho]; rfl))) ?_ | refine at_ rfl (still_r1 (mk := Op.load 42) rfl ot (ld_row (k := 4) (j := 1) (d := .v (.slice (some ⟨bk, 0, none⟩) p.keys.length ck)) (ls := L) gO_len rfl rfl rfl Try.isAgg42 hj (by rw [← ho]; rfl))) ?_
    refine AD.one (i := 9) (by kernel_rfl) ?_
    refine AStep.call rfl (wants_plain rfl) rfl rfl rfl Try.call35 (deleteK_vc p.keys (placeF (t.pg (leafF t k h t.root)) k) ck bk ha hkl hkc (by omega)) ⟨ot, ot, ot, trivial⟩ (perm_one (k := 4) rfl) (by intro b hb; simp [bks, St.put] at hb ⊢; try first | exact hb | simp [hb] | (rcases hb with hb | hb <;> simp [hb]) | (rcases hb with hb | hb | hb <;> simp [hb])) ?_
    rintro _ _ ⟨rfl, rfl⟩
    refine AD.perm (S' := ⟨b7, 26, 2, [.v (.slice (some ⟨bx, 0, none⟩) L.length cap), .v (.int .i64 t.root)]⟩ :: ⟨b4, 26, 2, [.v (.slice none 0 0), .v (.int .i64 0)]⟩ :: ⟨b2, 26, 2, [.list 5 (t.pages.flatMap cP) t.pages.length, .v (.int .i64 t.root)]⟩ :: ⟨bx, 44, cap * 5, List.flatMap gO L⟩ :: ⟨bk, 31, ck * 1, List.flatMap cK (p.keys.eraseIdx (placeF (t.pg (leafF t k h t.root)) k))⟩ :: ⟨bi, 3, ci * 1, List.flatMap cI p.kids⟩ :: ((L.eraseIdx (leafF t k h t.root).toNat).flatMap bO)) (List.perm_middle (l₁ := [_, _, _, _])).symm ?_
    refine AD.one (i := 17) (by kernel_rfl) ?_
    refine AStep.call rfl (wants_plain rfl) rfl rfl rfl Try.call36 (deleteI_vc p.kids (placeF (t.pg (leafF t k h t.root)) k) ci bi ha2 hil hic (by omega)) ⟨ot, ot, ot, trivial⟩ (perm_one (k := 5) rfl) (by intro b hb; simp [bks, St.put] at hb ⊢; try first | exact hb | simp [hb] | (rcases hb with hb | hb <;> simp [hb]) | (rcases hb with hb | hb | hb <;> simp [hb])) ?_
    rintro _ _ ⟨rfl, rfl⟩
    refine AD.perm (S' := ⟨b7, 26, 2, [.v (.slice (some ⟨bx, 0, none⟩) L.length cap), .v (.int .i64 t.root)]⟩ :: ⟨b4, 26, 2, [.v (.slice none 0 0), .v (.int .i64 0)]⟩ :: ⟨b2, 26, 2, [.list 5 (t.pages.flatMap cP) t.pages.length, .v (.int .i64 t.root)]⟩ :: ⟨bx, 44, cap * 5, List.flatMap gO L⟩ :: ⟨bk, 31, ck * 1, List.flatMap cK (p.keys.eraseIdx (placeF (t.pg (leafF t k h t.root)) k))⟩ :: ⟨bi, 3, ci * 1, List.flatMap cI (p.kids.eraseIdx (placeF (t.pg (leafF t k h t.root)) k))⟩ :: ((L.eraseIdx (leafF t k h t.root).toNat).flatMap bO)) (List.perm_middle (l₁ := [_, _, _, _, _])).symm ?_
    refine a1_ 18 rfl nc_ ?_
    refine a1_ 19 rfl (fa_ 1) ?_
    refine AD.one (i := 20) (by kernel_rfl) ?_
    refine AStep.storeAt (k := 3) (cs' := List.flatMap gO (L.set (leafF t k h t.root).toNat (⟨{ p with keys := (p.keys.eraseIdx (placeF (t.pg (leafF t k h t.root)) k)) }, some ⟨bk, 0, none⟩, ck, [⟨bk, 31, ck * 1, List.flatMap cK (p.keys.eraseIdx (placeF (t.pg (leafF t k h t.root)) k))⟩], some ⟨bi, 0, none⟩, ci, [⟨bi, 3, ci * 1, List.flatMap cI p.kids⟩]⟩ : PgO))) rfl (wants_plain rfl) rfl rfl ot rfl rfl ot rfl rfl Try.sizeOf42 rfl (by show 0 + (leafF t k h t.root).toNat * 5 + 1 + 1 ≤ (List.flatMap gO L).length; rw [fm_len gO_len]; omega) (by show (L.flatMap gO).set (0 + (leafF t k h t.root).toNat * 5 + 1) _ = _; rw [Nat.zero_add]; exact fm_cellset gO_len (by decide) hj (by rw [← ho]; show gO (⟨{ p with keys := (p.keys.eraseIdx (placeF (t.pg (leafF t k h t.root)) k)) }, some ⟨bk, 0, none⟩, ck, [⟨bk, 31, ck * 1, List.flatMap cK (p.keys.eraseIdx (placeF (t.pg (leafF t k h t.root)) k))⟩], some ⟨bi, 0, none⟩, ci, [⟨bi, 3, ci * 1, List.flatMap cI p.kids⟩]⟩ : PgO) = (gO (⟨p, some ⟨bk, 0, none⟩, ck, [⟨bk, 31, ck * 1, List.flatMap cK p.keys⟩], some ⟨bi, 0, none⟩, ci, [⟨bi, 3, ci * 1, List.flatMap cI p.kids⟩]⟩ : PgO)).set 1 _; unfold gO; rw [List.length_eraseIdx_of_lt ha]; rfl)) (by intro b hb; simp [bks, St.put] at hb ⊢; try first | exact hb | simp [hb] | (rcases hb with hb | hb <;> simp [hb]) | (rcases hb with hb | hb | hb <;> simp [hb])) ?_
    refine a1_ 21 rfl nc_ ?_
    refine a1_ 22 rfl (fa_ 2) ?_
    refine AD.one (i := 23) (by kernel_rfl) ?_
    refine AStep.storeAt (k := 3) (cs' := List.flatMap gO (L.set (leafF t k h t.root).toNat (⟨(cutP p (placeF (t.pg (leafF t k h t.root)) k)), some ⟨bk, 0, none⟩, ck, [⟨bk, 31, ck * 1, List.flatMap cK (p.keys.eraseIdx (placeF (t.pg (leafF t k h t.root)) k))⟩], some ⟨bi, 0, none⟩, ci, [⟨bi, 3, ci * 1, List.flatMap cI (p.kids.eraseIdx (placeF (t.pg (leafF t k h t.root)) k))⟩]⟩ : PgO))) rfl (wants_plain rfl) rfl rfl ot rfl rfl ot rfl rfl Try.sizeOf22 rfl (by show 0 + (leafF t k h t.root).toNat * 5 + 2 + 1 ≤ (List.flatMap gO (L.set (leafF t k h t.root).toNat (⟨{ p with keys := (p.keys.eraseIdx (placeF (t.pg (leafF t k h t.root)) k)) }, some ⟨bk, 0, none⟩, ck, [⟨bk, 31, ck * 1, List.flatMap cK (p.keys.eraseIdx (placeF (t.pg (leafF t k h t.root)) k))⟩], some ⟨bi, 0, none⟩, ci, [⟨bi, 3, ci * 1, List.flatMap cI p.kids⟩]⟩ : PgO))).length; rw [fm_len gO_len, List.length_set]; omega) (by show (List.flatMap gO (L.set (leafF t k h t.root).toNat (⟨{ p with keys := (p.keys.eraseIdx (placeF (t.pg (leafF t k h t.root)) k)) }, some ⟨bk, 0, none⟩, ck, [⟨bk, 31, ck * 1, List.flatMap cK (p.keys.eraseIdx (placeF (t.pg (leafF t k h t.root)) k))⟩], some ⟨bi, 0, none⟩, ci, [⟨bi, 3, ci * 1, List.flatMap cI p.kids⟩]⟩ : PgO))).set (0 + (leafF t k h t.root).toNat * 5 + 2) _ = _; rw [Nat.zero_add, fm_cellset gO_len (a' := (⟨(cutP p (placeF (t.pg (leafF t k h t.root)) k)), some ⟨bk, 0, none⟩, ck, [⟨bk, 31, ck * 1, List.flatMap cK (p.keys.eraseIdx (placeF (t.pg (leafF t k h t.root)) k))⟩], some ⟨bi, 0, none⟩, ci, [⟨bi, 3, ci * 1, List.flatMap cI (p.kids.eraseIdx (placeF (t.pg (leafF t k h t.root)) k))⟩]⟩ : PgO)) (by decide) (by rw [List.length_set]; exact hj) (by rw [List.getElem_set_self]; show gO (⟨(cutP p (placeF (t.pg (leafF t k h t.root)) k)), some ⟨bk, 0, none⟩, ck, [⟨bk, 31, ck * 1, List.flatMap cK (p.keys.eraseIdx (placeF (t.pg (leafF t k h t.root)) k))⟩], some ⟨bi, 0, none⟩, ci, [⟨bi, 3, ci * 1, List.flatMap cI (p.kids.eraseIdx (placeF (t.pg (leafF t k h t.root)) k))⟩]⟩ : PgO) = (gO (⟨{ p with keys := (p.keys.eraseIdx (placeF (t.pg (leafF t k h t.root)) k)) }, some ⟨bk, 0, none⟩, ck, [⟨bk, 31, ck * 1, List.flatMap cK (p.keys.eraseIdx (placeF (t.pg (leafF t k h t.root)) k))⟩], some ⟨bi, 0, none⟩, ci, [⟨bi, 3, ci * 1, List.flatMap cI p.kids⟩]⟩ : PgO)).set 2 _; unfold gO cutP; simp only []; rw [List.length_eraseIdx_of_lt ha2]; rfl), List.set_set]) (by intro b hb; simp [bks, St.put] at hb ⊢; try first | exact hb | simp [hb] | (rcases hb with hb | hb <;> simp [hb]) | (rcases hb with hb | hb | hb <;> simp [hb])) ?_
    have hpm : (⟨bk, 31, ck * 1, List.flatMap cK (p.keys.eraseIdx (placeF (t.pg (leafF t k h t.root)) k))⟩ :: ⟨bi, 3, ci * 1, List.flatMap cI (p.kids.eraseIdx (placeF (t.pg (leafF t k h t.root)) k))⟩ :: ((L.eraseIdx (leafF t k h t.root).toNat).flatMap bO)).Perm ((L.set (leafF t k h t.root).toNat (⟨(cutP p (placeF (t.pg (leafF t k h t.root)) k)), some ⟨bk, 0, none⟩, ck, [⟨bk, 31, ck * 1, List.flatMap cK (p.keys.eraseIdx (placeF (t.pg (leafF t k h t.root)) k))⟩], some ⟨bi, 0, none⟩, ci, [⟨bi, 3, ci * 1, List.flatMap cI (p.kids.eraseIdx (placeF (t.pg (leafF t k h t.root)) k))⟩]⟩ : PgO)).flatMap bO) := (perm_put bO hj (⟨(cutP p (placeF (t.pg (leafF t k h t.root)) k)), some ⟨bk, 0, none⟩, ck, [⟨bk, 31, ck * 1, List.flatMap cK (p.keys.eraseIdx (placeF (t.pg (leafF t k h t.root)) k))⟩], some ⟨bi, 0, none⟩, ci, [⟨bi, 3, ci * 1, List.flatMap cI (p.kids.eraseIdx (placeF (t.pg (leafF t k h t.root)) k))⟩]⟩ : PgO)).symm
    refine AD.perm (S' := ⟨b7, 26, 2, [.v (.slice (some ⟨bx, 0, none⟩) L.length cap), .v (.int .i64 t.root)]⟩ :: ⟨b4, 26, 2, [.v (.slice none 0 0), .v (.int .i64 0)]⟩ :: ⟨b2, 26, 2, [.list 5 (t.pages.flatMap cP) t.pages.length, .v (.int .i64 t.root)]⟩ :: (([⟨bx, 44, cap * 5, List.flatMap gO (L.set (leafF t k h t.root).toNat (⟨(cutP p (placeF (t.pg (leafF t k h t.root)) k)), some ⟨bk, 0, none⟩, ck, [⟨bk, 31, ck * 1, List.flatMap cK (p.keys.eraseIdx (placeF (t.pg (leafF t k h t.root)) k))⟩], some ⟨bi, 0, none⟩, ci, [⟨bi, 3, ci * 1, List.flatMap cI (p.kids.eraseIdx (placeF (t.pg (leafF t k h t.root)) k))⟩]⟩ : PgO))⟩] : List Blk) ++ (L.set (leafF t k h t.root).toNat (⟨(cutP p (placeF (t.pg (leafF t k h t.root)) k)), some ⟨bk, 0, none⟩, ck, [⟨bk, 31, ck * 1, List.flatMap cK (p.keys.eraseIdx (placeF (t.pg (leafF t k h t.root)) k))⟩], some ⟨bi, 0, none⟩, ci, [⟨bi, 3, ci * 1, List.flatMap cI (p.kids.eraseIdx (placeF (t.pg (leafF t k h t.root)) k))⟩]⟩ : PgO)).flatMap bO)) (List.Perm.cons _ (List.Perm.cons _ (List.Perm.cons _ (List.Perm.cons _ hpm)))) ?_
    refine AD.wk (y := ⟨58, [(4, _), (7, _)], (⟨b7, 26, 2, [_, _]⟩ :: ⟨b4, 26, 2, [_, _]⟩ :: ⟨b2, 26, 2, [_, _]⟩ :: ([⟨bx, 44, cap * 5, List.flatMap gO (L.set (leafF t k h t.root).toNat (⟨(cutP p (placeF (t.pg (leafF t k h t.root)) k)), some ⟨bk, 0, none⟩, ck, [⟨bk, 31, ck * 1, List.flatMap cK (p.keys.eraseIdx (placeF (t.pg (leafF t k h t.root)) k))⟩], some ⟨bi, 0, none⟩, ci, [⟨bi, 3, ci * 1, List.flatMap cI (p.kids.eraseIdx (placeF (t.pg (leafF t k h t.root)) k))⟩]⟩ : PgO))⟩] ++ (L.set (leafF t k h t.root).toNat (⟨(cutP p (placeF (t.pg (leafF t k h t.root)) k)), some ⟨bk, 0, none⟩, ck, [⟨bk, 31, ck * 1, List.flatMap cK (p.keys.eraseIdx (placeF (t.pg (leafF t k h t.root)) k))⟩], some ⟨bi, 0, none⟩, ci, [⟨bi, 3, ci * 1, List.flatMap cI (p.kids.eraseIdx (placeF (t.pg (leafF t k h t.root)) k))⟩]⟩ : PgO)).flatMap bO))⟩) (Wk.as_ rfl rfl ⟨lk, lk, trivial⟩) rfl ?_
    refine AD.done (by kernel_rfl) ?_
    refine sr_ ?_
    refine os_ (lab_ 0 [_, _]) ?_
    refine OD.store (k := 1) (cs' := [_, _]) (wants_plain rfl) rfl rfl ot rfl rfl ot rfl rfl Try.sizeOf26 rfl rfl rfl ?_
    refine os_ mv_ ?_
    refine OD.wk (Wk.as_ (n := 58) (l' := [(4, _), (5, _)]) (S' := (⟨b7, 26, 2, [_, _]⟩ :: ⟨b4, 26, 2, [_, _]⟩ :: ⟨b2, 26, 2, [_, _]⟩ :: ([⟨bx, 44, cap * 5, List.flatMap gO (L.set (leafF t k h t.root).toNat (⟨(cutP p (placeF (t.pg (leafF t k h t.root)) k)), some ⟨bk, 0, none⟩, ck, [⟨bk, 31, ck * 1, List.flatMap cK (p.keys.eraseIdx (placeF (t.pg (leafF t k h t.root)) k))⟩], some ⟨bi, 0, none⟩, ci, [⟨bi, 3, ci * 1, List.flatMap cI (p.kids.eraseIdx (placeF (t.pg (leafF t k h t.root)) k))⟩]⟩ : PgO))⟩] ++ (L.set (leafF t k h t.root).toNat (⟨(cutP p (placeF (t.pg (leafF t k h t.root)) k)), some ⟨bk, 0, none⟩, ck, [⟨bk, 31, ck * 1, List.flatMap cK (p.keys.eraseIdx (placeF (t.pg (leafF t k h t.root)) k))⟩], some ⟨bi, 0, none⟩, ci, [⟨bi, 3, ci * 1, List.flatMap cI (p.kids.eraseIdx (placeF (t.pg (leafF t k h t.root)) k))⟩]⟩ : PgO)).flatMap bO))) rfl rfl ⟨lk, lk, trivial⟩) ?_
    refine OD.nil ?_
    refine CD.ret ?_
    refine ⟨.inr rfl, _, ([⟨bx, 44, cap * 5, List.flatMap gO (L.set (leafF t k h t.root).toNat (⟨(cutP p (placeF (t.pg (leafF t k h t.root)) k)), some ⟨bk, 0, none⟩, ck, [⟨bk, 31, ck * 1, List.flatMap cK (p.keys.eraseIdx (placeF (t.pg (leafF t k h t.root)) k))⟩], some ⟨bi, 0, none⟩, ci, [⟨bi, 3, ci * 1, List.flatMap cI (p.kids.eraseIdx (placeF (t.pg (leafF t k h t.root)) k))⟩]⟩ : PgO))⟩] ++ (L.set (leafF t k h t.root).toNat (⟨(cutP p (placeF (t.pg (leafF t k h t.root)) k)), some ⟨bk, 0, none⟩, ck, [⟨bk, 31, ck * 1, List.flatMap cK (p.keys.eraseIdx (placeF (t.pg (leafF t k h t.root)) k))⟩], some ⟨bi, 0, none⟩, ci, [⟨bi, 3, ci * 1, List.flatMap cI (p.kids.eraseIdx (placeF (t.pg (leafF t k h t.root)) k))⟩]⟩ : PgO)).flatMap bO), (by repeat (first | exact List.Sublist.refl _ | apply List.Sublist.cons)), ret_two Try.results20 (res_cells (k := 1) (ds := [_, _]) (Nat.le_of_ble_eq_true rfl) lk rfl rfl Try.isAgg26 Try.sizeOf26 rfl rfl) (res_tmp (Nat.le_of_ble_eq_true rfl) lk), ?_⟩
    unfold delF; rw [if_pos hz, if_pos hth]
    refine ⟨_, rfl, L.set (leafF t k h t.root).toNat (⟨(cutP p (placeF (t.pg (leafF t k h t.root)) k)), some ⟨bk, 0, none⟩, ck, [⟨bk, 31, ck * 1, List.flatMap cK (p.keys.eraseIdx (placeF (t.pg (leafF t k h t.root)) k))⟩], some ⟨bi, 0, none⟩, ci, [⟨bi, 3, ci * 1, List.flatMap cI (p.kids.eraseIdx (placeF (t.pg (leafF t k h t.root)) k))⟩]⟩ : PgO), some ⟨bx, 0, none⟩, cap, _, by rw [List.length_set]; rfl, ownL_row (by rw [List.length_set]; exact hxl) hxc, fun x hx => ?_, ?_, rfl⟩
    ·rcases List.mem_or_eq_of_mem_set hx with hx | rfl
     ·exact hok x hx
     ·exact ⟨ownL_row (by show (p.keys.eraseIdx (placeF (t.pg (leafF t k h t.root)) k)).length ≤ ck; rw [List.length_eraseIdx_of_lt ha]; omega) hkc, ownL_row (by show (p.kids.eraseIdx (placeF (t.pg (leafF t k h t.root)) k)).length ≤ ci; rw [List.length_eraseIdx_of_lt ha2]; omega) hic⟩
    ·rw [List.map_set, hL]; show _ = t.pages.set (leafF t k h t.root).toNat (cutP (t.pg (leafF t k h t.root)) (placeF (t.pg (leafF t k h t.root)) k)); rw [← hpe]

theorem delete_vp (t : TreeL) (h : Nat) (k : K) (hb : ∀ p ∈ t.pages, p.keys.length ≤ maxLen ∧ p.kids.length ≤ maxLen) (hv : checkF t = 0 → Valid t h) : VP Try.prog G 20 [.agg (cT t), .list 1 (k.flatMap cB) k.length] (.tup [.agg (cT (delF t k h).1), .v (.int .i64 (delF t k h).2)]) := (delete_vc t h k hb hv).cover fun r S hr => hr.view

end Go.Proofs.Ythnobhekodiciaa.Tw

namespace Go.Proofs.Ythnobhekodiciaa.Tw
open Go.RowKit V Go.Proofs.Ythnobhekodiciaa.Tr Pk
set_option linter.unusedVariables false
set_option linter.unusedSimpArgs false

/-- What a split gives: the key that parts, the new page's place; the tree of one's own. -/
def RetS (L : List PgO) (b : Nat) (root : Int) (j : Nat) (p : PgL) (r : D) (S : List Blk) : Prop := r = .tup [.list 1 ((upK p).flatMap cB) (upK p).length, .v (.int .i64 (L.length : Nat))] ∧ ∃ L' ad cap Sx, OwnP L' ad cap Sx ∧ (∀ o ∈ L', okO o) ∧ L'.map PgO.p = (L.map PgO.p).set j (lowP p L.length) ++ [highP p] ∧ S = ⟨b, 26, 2, [.v (.slice ad (List.length L') cap), .v (.int .i64 root)]⟩ :: (Sx ++ L'.flatMap bO)
variable {G : List (Nat × List Value)}

theorem info44_Twe : (Try.prog.info? 44).map (fun i => (i.zero, i.size, i.bytes)) = some (some (.agg #[.bool false, .slice none 0 0, .slice none 0 0, .slice none 0 0, .int .i64 0]), 5, 88) := by kernel_rfl

theorem places44_Twe : ∀ w, ((#[{ name := "Leaf", type := 4, offset := 0, embedded := false, tag := "", pkgPath := "", byteOffset := 0 }, { name := "Keys", type := 42, offset := 1, embedded := false, tag := "", pkgPath := "", byteOffset := 8 }, { name := "Kids", type := 22, offset := 2, embedded := false, tag := "", pkgPath := "", byteOffset := 32 }, { name := "High", type := 31, offset := 3, embedded := false, tag := "", pkgPath := "", byteOffset := 56 }, { name := "Next", type := 3, offset := 4, embedded := false, tag := "", pkgPath := "", byteOffset := 80 }] : Array Field).mapM fun f => do pure (f.offset, ← sizeOf f.type) : Sem (Array (Nat × Nat))).run Try.prog w = .ok #[(0, 1), (1, 1), (2, 1), (3, 1), (4, 1)] w := fun w => by simp [Try.sizeOf22, Try.sizeOf3, Try.sizeOf31, Try.sizeOf4, Try.sizeOf42]

set_option maxHeartbeats 4000000 in
set_option maxRecDepth 100000 in
theorem split_vc (L : List PgO) (b : Nat) (root i : Int) (ad : Option Addr) (cap : Nat) (Sx : List Blk) (hi : 0 ≤ i ∧ i < L.length) (hn : L.length ≤ 10000) (hox : OwnP L ad cap Sx) (hok : ∀ o ∈ L, okO o) (h5 : (L[i.toNat]'(by omega)).p.keys.length = 5) (hkl : (L[i.toNat]'(by omega)).p.leaf = true → (L[i.toNat]'(by omega)).p.kids.length = 5) (hkn : (L[i.toNat]'(by omega)).p.leaf = false → (L[i.toNat]'(by omega)).p.kids.length = 6) (hks : ∀ k ∈ (L[i.toNat]'(by omega)).p.keys, k.length ≤ 100) (hh : (L[i.toNat]'(by omega)).p.high.length ≤ 100) :
 VC Try.prog G 30 [.v (.pointer (some ⟨b, 0, none⟩)), .v (.int .i64 i)] (⟨b, 26, 2, [.v (.slice ad L.length cap), .v (.int .i64 root)]⟩ :: (Sx ++ L.flatMap bO)) (RetS L b root i.toNat (L[i.toNat]'(by omega)).p) := by
 refine VC.body Try.func30 rfl Try.ntmps30 (Nat.le_of_ble_eq_true rfl) fun X0 w0 S00 => ?_
 have hmx : maxLen = 9223372036854775807 := rfl
 have hj : i.toNat < L.length := by omega
 obtain ⟨bx, rfl, hxl, hxc, rfl⟩ := hox.pos (by omega)
 have hoj := hok _ (List.getElem_mem hj)
 obtain ⟨o, ho⟩ : ∃ o, o = L[i.toNat] := ⟨_, rfl⟩
 rw [← ho] at hoj h5 hkl hkn hks hh ⊢
 rcases o with ⟨p, ak, ck, sk, ai, ci, si⟩
 obtain ⟨hk1, hi1⟩ : OwnKs p.keys ak ck sk ∧ OwnI p.kids ai ci si := hoj
 change p.keys.length = 5 at h5
 change p.leaf = true → p.kids.length = 5 at hkl
 change p.leaf = false → p.kids.length = 6 at hkn
 change ∀ k ∈ p.keys, k.length ≤ 100 at hks
 change p.high.length ≤ 100 at hh
 have hperm : (L.flatMap bO).Perm (sk ++ (si ++ ((L.eraseIdx i.toNat).flatMap bO))) := by have := perm_at bO hj; rw [← ho] at this; exact this.trans (by rw [show bO ⟨p, ak, ck, sk, ai, ci, si⟩ = sk ++ si from rfl, List.append_assoc])
 refine CD.perm (S' := ⟨b, 26, 2, [.v (.slice (some ⟨bx, 0, none⟩) L.length cap), .v (.int .i64 root)]⟩ :: ⟨bx, 44, cap * 5, List.flatMap gO L⟩ :: (sk ++ (si ++ ((L.eraseIdx i.toNat).flatMap bO)))) (List.Perm.cons _ (List.Perm.cons _ hperm)) ?_
 have hup : upK p = p.keys[2]'(by omega) := upK_at h5
 have hul : (p.keys[2]'(by omega)).length ≤ 100 := hks _ (List.getElem_mem _)
 refine sr_ ?_
 refine os_ mv_ ?_
 refine os_ mv_ ?_
 refine nm_ [0, 1] ?_
 refine sr_ ?_
 refine os_ mv_ ?_
 refine os_ nc_ ?_
 refine os_ (fa_ 0) ?_
 refine os_ (lb_ 0) ?_
 refine os_ mv_ ?_
 refine os_ (ix_ 5 (h := by first | exact .l (j := i.toNat) (Int.toNat_of_nonneg hi.1).symm hj | exact .r (j := i.toNat) (Int.toNat_of_nonneg hi.1).symm hj)) ?_
 refine OD.still (wants_plain rfl) rfl (still_r1 (mk := Op.load 44) rfl ot (ld_rows (k := 1) (ls := L) (i := i.toNat) gO_len rfl rfl rfl Try.isAgg44 Try.sizeOf44 hj)) ?_
 refine OD.alloc (ds := [_, _, _, _, _]) (wants_plain rfl) rfl rfl Try.zeroValue44 rfl (fun b6 => ?_)
 refine OD.store (k := 0) (cs' := [_, _, _, _, _]) (wants_plain rfl) rfl rfl ot rfl rfl ot rfl rfl Try.sizeOf44 rfl rfl rfl ?_
 refine OD.wk (Wk.as_ (n := 98) (l' := [(0, _), (1, _), (6, _)]) (S' := (⟨b6, 44, 5, [_, _, _, _, _]⟩ :: ⟨b, 26, 2, [_, _]⟩ :: _ :: (sk ++ (si ++ ((L.eraseIdx i.toNat).flatMap bO))))) rfl rfl ⟨lk, lk, lk, trivial⟩) ?_
 refine OD.nil ?_
 refine CD.seq ?_
 refine CD.wk (Wk.cover (A := ⟨b6, 44, 5, gO L[i.toNat]⟩) (R := ⟨b, 26, 2, [.v (.slice (some ⟨bx, 0, none⟩) L.length cap), .v (.int .i64 root)]⟩ :: ⟨bx, 44, cap * 5, List.flatMap gO L⟩ :: ((L.eraseIdx i.toNat).flatMap bO)) (Sd := sk ++ si) (cs' := cP p) (List.Perm.cons _ (List.Perm.cons _ (List.Perm.cons _ (by rw [← List.append_assoc]; exact List.perm_append_comm)))) (by show Views _ (gO L[i.toNat]) _; rw [← ho]; exact ⟨view_same, view_own hk1 (fm_len cK_len _) (fun B hB => List.mem_append_left _ hB), view_own hi1 (fm_len cI_len _) (fun B hB => List.mem_append_right _ hB), view_same, view_same, trivial⟩)) ?_
 refine CD.region ?_
 refine os_ (fa_ 0) ?_
 refine os_ (lb_ 0) ?_
 refine os_ (fa_ 3) ?_
 refine os_ (lb_ 0) ?_
 refine os_ (fa_ 4) ?_
 refine os_ (lb_ 0) ?_
 refine OD.still (wants_plain rfl) rfl (still_bld (pl := [(0, _), (3, _), (4, _)]) (ds := [_, _, _, _, _]) rfl Try.zeroValue44 Try.runUnderlying44 places44_Twe ⟨rfl, ot, rfl, ot, rfl, ot, trivial⟩ rfl rfl) ?_
 refine OD.alloc (ds := [_, _, _, _, _]) (wants_plain rfl) rfl rfl Try.zeroValue44 rfl (fun b7 => ?_)
 refine OD.store (k := 0) (cs' := [_, _, _, _, _]) (wants_plain rfl) rfl rfl ot rfl rfl ot rfl rfl Try.sizeOf44 rfl rfl rfl ?_
 refine OD.wk (Wk.as_ (n := 98) (l' := [(0, _), (1, _), (6, _), (7, _)]) (S' := (⟨b7, 44, 5, [_, _, _, _, _]⟩ :: ⟨b6, 44, 5, [_, _, _, _, _]⟩ :: ⟨b, 26, 2, [_, _]⟩ :: _ :: ((L.eraseIdx i.toNat).flatMap bO))) rfl rfl ⟨lk, lk, lk, lk, trivial⟩) ?_
 refine OD.nil ?_
 refine sr_ ?_
 refine os_ (fa_ 1) ?_
 refine os_ (lb_ 1) ?_
 refine OD.still (wants_plain rfl) rfl (still_r2 (mk := Op.indexAddr 42) rfl ot opd_const (by first | exact ix_list Try.runUnderlying42 Try.sizeOf31 (j := 2) rfl (by omega) | exact ix_row Try.runUnderlying42 Try.sizeOf31 (j := 2) rfl (by omega))) ?_
 refine os_ ld_ ?_
 refine os_ mv_ ?_
 refine OD.wk (Wk.as_ (n := 98) (l' := [(0, _), (1, _), (6, _), (7, _), (8, _)]) (S' := (⟨b7, 44, 5, [_, _, _, _, _]⟩ :: ⟨b6, 44, 5, [_, _, _, _, _]⟩ :: ⟨b, 26, 2, [_, _]⟩ :: _ :: ((L.eraseIdx i.toNat).flatMap bO))) rfl rfl ⟨lk, lk, lk, lk, lk, trivial⟩) ?_
 refine OD.nil ?_
 refine CD.cut (fun y__ => ∃ (b7 : Nat), ∃ (ak1 : Option Addr), ∃ (ck1 : Nat), ∃ (Sk1 : List Blk), ∃ (ai1 : Option Addr), ∃ (ci1 : Nat), ∃ (Si1 : List Blk), ∃ (ai2 : Option Addr), ∃ (ci2 : Nat), ∃ (Si2 : List Blk), (OwnKs (highP p).keys ak1 ck1 Sk1) ∧ (OwnI (highP p).kids ai1 ci1 Si1) ∧ (OwnI (lowP p L.length).kids ai2 ci2 Si2) ∧ y__ = (⟨98, [(0, .v (.pointer (some ⟨b, 0, none⟩))), (1, .v (.int .i64 i)), (6, .v (.pointer (some ⟨b6, 0, none⟩))), (7, .v (.pointer (some ⟨b7, 0, none⟩))), (8, .list 1 ((upK p).flatMap cB) (upK p).length)], (⟨b7, 44, 5, [.v (.bool p.leaf), .v (.slice ak1 (highP p).keys.length ck1), .v (.slice ai1 (highP p).kids.length ci1), .list 1 (p.high.flatMap cB) p.high.length, .v (.int .i64 p.next)]⟩ :: ⟨b6, 44, 5, [.v (.bool p.leaf), .list 1 (p.keys.flatMap cK) p.keys.length, .v (.slice ai2 (lowP p L.length).kids.length ci2), .list 1 (p.high.flatMap cB) p.high.length, .v (.int .i64 p.next)]⟩ :: ⟨b, 26, 2, [.v (.slice (some ⟨bx, 0, none⟩) L.length cap), .v (.int .i64 root)]⟩ :: ⟨bx, 44, cap * 5, List.flatMap gO L⟩ :: (Si2 ++ (Si1 ++ (Sk1 ++ ((L.eraseIdx i.toNat).flatMap bO)))))⟩ : St)) ?_ ?_
 ·skip
  refine sr_ ?_
  refine os_ (fa_ 0) ?_
  refine os_ (lb_ 1) ?_
  refine nm_ [0, 1, 6, 7, 8, 28] ?_
  refine CD.cond ot (fun hc0 => ?_) (fun hc0 => ?_)
  ·have hc0' := hc0
   (try simp only [V.cnd, ne_eq] at hc0')
   have hlf : p.leaf = true := hc0
   have hkl := hkl hlf
   refine CD.seq ?_
   refine CD.draw (bks (List.take 2 (List.drop 1 _))) (by kernel_rfl) (fun _ h => (List.Sublist.map _ ((List.take_sublist _ _).trans (List.drop_sublist _ _))).subset h) ?_
   refine a0_ 0 rfl (fa_ 1) ?_
   refine a0_ 4 rfl (fa_ 2) ?_
   refine AD0.later rfl ?_
   refine AD.two (i := 1) (j := 5) (by kernel_rfl) ?_ ?_
   ·skip
    refine at_ rfl (lb_ 1) ?_
    refine a1_ 2 rfl (still_rs (l := 2) rfl ot ⟨_, opd_const⟩ trivial (by first | exact sl_tail rfl cK_len (fun h => by cases h) Try.runUnderlying42 Try.sizeOf31 (by omega) | exact sl_tail rfl cI_len (fun h => by cases h) Try.runUnderlying42 Try.sizeOf31 (by omega) | exact sl_row (fun _ => rfl) Try.runUnderlying42 Try.sizeOf31 (by omega) | exact sl_list (fun h => by cases h) (fun _ => rfl) Try.runUnderlying42 Try.sizeOf31 (by omega) (by omega))) ?_
    refine AD.two (i := 3) (j := 5) (by kernel_rfl) ?_ ?_
    ·skip
     have hcl32 : VC Try.prog G 46 [.list 1 ((p.keys.drop 2).flatMap cK) (p.keys.drop 2).length] [] (fun r S => ∃ ad cap, r = .v (.slice ad (highP p).keys.length cap) ∧ OwnKs (highP p).keys ad cap S) := by rw [show (p.keys.drop 2) = (highP p).keys from (by show _ = p.keys.drop (if p.leaf = true then 2 else 3); rw [hlf]; rfl)]; exact cloneK_vc _ (by rw [← show (p.keys.drop 2) = (highP p).keys from (by show _ = p.keys.drop (if p.leaf = true then 2 else 3); rw [hlf]; rfl)]; simp only [List.length_take, List.length_drop]; omega)
     refine AStep.call rfl (wants_plain rfl) rfl rfl rfl Try.call46 hcl32 ⟨ot, trivial⟩ (perm_none _) (by intro b hb; simp [bks, St.put] at hb ⊢; try first | exact hb | simp [hb] | (rcases hb with hb | hb <;> simp [hb]) | (rcases hb with hb | hb | hb <;> simp [hb])) ?_
     rintro _ S32 ⟨a32, c32, rfl, ho32⟩
     refine AD.perm (perm_q12 (A := [_, _, _, _])) ?_
     refine a1_ 8 rfl (fa_ 1) ?_
     refine AD.one (i := 5) (by kernel_rfl) ?_
     refine at_ rfl (lb_ 1) ?_
     refine a1_ 6 rfl (still_rs (l := 2) rfl ot ⟨_, opd_const⟩ trivial (by first | exact sl_tail rfl cK_len (fun h => by cases h) Try.runUnderlying22 Try.sizeOf3 (by omega) | exact sl_tail rfl cI_len (fun h => by cases h) Try.runUnderlying22 Try.sizeOf3 (by omega) | exact sl_row (fun _ => rfl) Try.runUnderlying22 Try.sizeOf3 (by omega) | exact sl_list (fun h => by cases h) (fun _ => rfl) Try.runUnderlying22 Try.sizeOf3 (by omega) (by omega))) ?_
     refine AD.one (i := 7) (by kernel_rfl) ?_
     have hcl36 : VC Try.prog G 39 [.list 1 ((p.kids.drop 2).flatMap cI) (p.kids.drop 2).length] [] (fun r S => ∃ ad cap, r = .v (.slice ad (highP p).kids.length cap) ∧ OwnI (highP p).kids ad cap S) := by rw [show (p.kids.drop 2) = (highP p).kids from (by show _ = p.kids.drop (if p.leaf = true then 2 else 3); rw [hlf]; rfl)]; exact cloneI_vc _ (by rw [← show (p.kids.drop 2) = (highP p).kids from (by show _ = p.kids.drop (if p.leaf = true then 2 else 3); rw [hlf]; rfl)]; simp only [List.length_take, List.length_drop]; omega)
     refine AStep.call rfl (wants_plain rfl) rfl rfl rfl Try.call39 hcl36 ⟨ot, trivial⟩ (perm_none _) (by intro b hb; simp [bks, St.put] at hb ⊢; try first | exact hb | simp [hb] | (rcases hb with hb | hb <;> simp [hb]) | (rcases hb with hb | hb | hb <;> simp [hb])) ?_
     rintro _ S36 ⟨a36, c36, rfl, ho36⟩
     refine AD.perm (perm_q12 (A := [_, _, _, _])) ?_
     refine AD.one (i := 9) (by kernel_rfl) ?_
     refine AStep.store (k := 0) (cs' := [_, _, _, _, _]) rfl (wants_plain rfl) rfl rfl ot rfl rfl ot rfl rfl Try.sizeOf42 rfl rfl rfl (by intro b hb; simp [bks, St.put] at hb ⊢; try first | exact hb | simp [hb] | (rcases hb with hb | hb <;> simp [hb]) | (rcases hb with hb | hb | hb <;> simp [hb])) ?_
     refine a1_ 10 rfl (fa_ 2) ?_
     refine AD.one (i := 11) (by kernel_rfl) ?_
     refine AStep.store (k := 0) (cs' := [_, _, _, _, _]) rfl (wants_plain rfl) rfl rfl ot rfl rfl ot rfl rfl Try.sizeOf22 rfl rfl rfl (by intro b hb; simp [bks, St.put] at hb ⊢; try first | exact hb | simp [hb] | (rcases hb with hb | hb <;> simp [hb]) | (rcases hb with hb | hb | hb <;> simp [hb])) ?_
     refine AD.wk (y := ⟨98, [(0, _), (1, _), (6, _), (7, _), (8, _)], (⟨b7, 44, 5, [_, _, _, _, _]⟩ :: ⟨b6, 44, 5, [_, _, _, _, _]⟩ :: ⟨b, 26, 2, [_, _]⟩ :: _ :: (S36 ++ (S32 ++ ((L.eraseIdx i.toNat).flatMap bO))))⟩) (Wk.as_ rfl rfl ⟨lk, lk, lk, lk, lk, trivial⟩) rfl ?_
     refine AD.done (by kernel_rfl) ?_
     refine CD.region ?_
     refine os_ (fa_ 2) ?_
     refine os_ (lb_ 1) ?_
     refine OD.still (wants_plain rfl) rfl (still_rs (l := 0) (h := 2) rfl ot trivial ⟨_, opd_const⟩ (by first | exact sl_head cK_len (fun h => by cases h) Try.runUnderlying22 Try.sizeOf3 (by omega) | exact sl_head cI_len (fun h => by cases h) Try.runUnderlying22 Try.sizeOf3 (by omega) | exact sl_row (fun h => by cases h) Try.runUnderlying22 Try.sizeOf3 (by omega) | exact sl_list (fun _ => rfl) (fun h => by cases h) Try.runUnderlying22 Try.sizeOf3 (by omega) (by omega))) ?_
     have hcl42 : VC Try.prog G 39 [.list 1 ((p.kids.take 2).flatMap cI) (p.kids.take 2).length] [] (fun r S => ∃ ad cap, r = .v (.slice ad (lowP p L.length).kids.length cap) ∧ OwnI (lowP p L.length).kids ad cap S) := by rw [show (p.kids.take 2) = (lowP p L.length).kids from (by show _ = p.kids.take (if p.leaf = true then 2 else 3); rw [hlf]; rfl)]; exact cloneI_vc _ (by rw [← show (p.kids.take 2) = (lowP p L.length).kids from (by show _ = p.kids.take (if p.leaf = true then 2 else 3); rw [hlf]; rfl)]; simp only [List.length_take, List.length_drop]; omega)
     refine OD.call (wants_plain rfl) rfl rfl rfl Try.call39 hcl42 ⟨ot, trivial⟩ (perm_none _) ?_
     rintro _ S42 ⟨a42, c42, rfl, ho42⟩
     refine OD.perm (perm_q12 (A := [_, _, _, _])) ?_
     refine os_ (fa_ 2) ?_
     refine OD.store (k := 1) (cs' := [_, _, _, _, _]) (wants_plain rfl) rfl rfl ot rfl rfl ot rfl rfl Try.sizeOf22 rfl rfl rfl ?_
     refine OD.wk (Wk.as_ (n := 98) (l' := [(0, _), (1, _), (6, _), (7, _), (8, _)]) (S' := (⟨b7, 44, 5, [_, _, _, _, _]⟩ :: ⟨b6, 44, 5, [_, _, _, _, _]⟩ :: ⟨b, 26, 2, [_, _]⟩ :: _ :: (S42 ++ (S36 ++ (S32 ++ ((L.eraseIdx i.toNat).flatMap bO)))))) rfl rfl ⟨lk, lk, lk, lk, lk, trivial⟩) ?_
     refine OD.nil ?_
     refine ⟨(⟨98, [(0, .v (.pointer (some ⟨b, 0, none⟩))), (1, .v (.int .i64 i)), (6, .v (.pointer (some ⟨b6, 0, none⟩))), (7, .v (.pointer (some ⟨(b7), 0, none⟩))), (8, .list 1 ((upK p).flatMap cB) (upK p).length)], (⟨(b7), 44, 5, [.v (.bool p.leaf), .v (.slice (a32) (highP p).keys.length (c32)), .v (.slice (a36) (highP p).kids.length (c36)), .list 1 (p.high.flatMap cB) p.high.length, .v (.int .i64 p.next)]⟩ :: ⟨b6, 44, 5, [.v (.bool p.leaf), .list 1 (p.keys.flatMap cK) p.keys.length, .v (.slice (a42) (lowP p L.length).kids.length (c42)), .list 1 (p.high.flatMap cB) p.high.length, .v (.int .i64 p.next)]⟩ :: ⟨b, 26, 2, [.v (.slice (some ⟨bx, 0, none⟩) L.length cap), .v (.int .i64 root)]⟩ :: ⟨bx, 44, cap * 5, List.flatMap gO L⟩ :: ((S42) ++ ((S36) ++ ((S32) ++ ((L.eraseIdx i.toNat).flatMap bO)))))⟩ : St), Wk.asS (n := 98) rfl (by repeat (first | exact List.Sublist.refl _ | apply List.Sublist.cons_cons | apply List.Sublist.cons)) ⟨(by (repeat (first | exact look_hit | (apply look_at; focus (first | rfl | (rw [hup]; done) | (simp; done))) | (apply look_miss; focus rfl))); done), (by (repeat (first | exact look_hit | (apply look_at; focus (first | rfl | (rw [hup]; done) | (simp; done))) | (apply look_miss; focus rfl))); done), (by (repeat (first | exact look_hit | (apply look_at; focus (first | rfl | (rw [hup]; done) | (simp; done))) | (apply look_miss; focus rfl))); done), (by (repeat (first | exact look_hit | (apply look_at; focus (first | rfl | (rw [hup]; done) | (simp; done))) | (apply look_miss; focus rfl))); done), (by (repeat (first | exact look_hit | (apply look_at; focus (first | rfl | (rw [hup]; done) | (simp; done))) | (apply look_miss; focus rfl))); done), trivial⟩, b7, a32, c32, S32, a36, c36, S36, a42, c42, S42, ho32, ho36, ho42, rfl⟩
    ·skip
     refine at_ rfl (lb_ 1) ?_
     refine a1_ 6 rfl (still_rs (l := 2) rfl ot ⟨_, opd_const⟩ trivial (by first | exact sl_tail rfl cK_len (fun h => by cases h) Try.runUnderlying22 Try.sizeOf3 (by omega) | exact sl_tail rfl cI_len (fun h => by cases h) Try.runUnderlying22 Try.sizeOf3 (by omega) | exact sl_row (fun _ => rfl) Try.runUnderlying22 Try.sizeOf3 (by omega) | exact sl_list (fun h => by cases h) (fun _ => rfl) Try.runUnderlying22 Try.sizeOf3 (by omega) (by omega))) ?_
     refine AD.one (i := 3) (by kernel_rfl) ?_
     have hcl32 : VC Try.prog G 46 [.list 1 ((p.keys.drop 2).flatMap cK) (p.keys.drop 2).length] [] (fun r S => ∃ ad cap, r = .v (.slice ad (highP p).keys.length cap) ∧ OwnKs (highP p).keys ad cap S) := by rw [show (p.keys.drop 2) = (highP p).keys from (by show _ = p.keys.drop (if p.leaf = true then 2 else 3); rw [hlf]; rfl)]; exact cloneK_vc _ (by rw [← show (p.keys.drop 2) = (highP p).keys from (by show _ = p.keys.drop (if p.leaf = true then 2 else 3); rw [hlf]; rfl)]; simp only [List.length_take, List.length_drop]; omega)
     refine AStep.call rfl (wants_plain rfl) rfl rfl rfl Try.call46 hcl32 ⟨ot, trivial⟩ (perm_none _) (by intro b hb; simp [bks, St.put] at hb ⊢; try first | exact hb | simp [hb] | (rcases hb with hb | hb <;> simp [hb]) | (rcases hb with hb | hb | hb <;> simp [hb])) ?_
     rintro _ S32 ⟨a32, c32, rfl, ho32⟩
     refine AD.perm (perm_q12 (A := [_, _, _, _])) ?_
     refine a1_ 8 rfl (fa_ 1) ?_
     refine AD.one (i := 7) (by kernel_rfl) ?_
     have hcl36 : VC Try.prog G 39 [.list 1 ((p.kids.drop 2).flatMap cI) (p.kids.drop 2).length] [] (fun r S => ∃ ad cap, r = .v (.slice ad (highP p).kids.length cap) ∧ OwnI (highP p).kids ad cap S) := by rw [show (p.kids.drop 2) = (highP p).kids from (by show _ = p.kids.drop (if p.leaf = true then 2 else 3); rw [hlf]; rfl)]; exact cloneI_vc _ (by rw [← show (p.kids.drop 2) = (highP p).kids from (by show _ = p.kids.drop (if p.leaf = true then 2 else 3); rw [hlf]; rfl)]; simp only [List.length_take, List.length_drop]; omega)
     refine AStep.call rfl (wants_plain rfl) rfl rfl rfl Try.call39 hcl36 ⟨ot, trivial⟩ (perm_none _) (by intro b hb; simp [bks, St.put] at hb ⊢; try first | exact hb | simp [hb] | (rcases hb with hb | hb <;> simp [hb]) | (rcases hb with hb | hb | hb <;> simp [hb])) ?_
     rintro _ S36 ⟨a36, c36, rfl, ho36⟩
     refine AD.perm (perm_q12 (A := [_, _, _, _])) ?_
     refine AD.one (i := 9) (by kernel_rfl) ?_
     refine AStep.store (k := 0) (cs' := [_, _, _, _, _]) rfl (wants_plain rfl) rfl rfl ot rfl rfl ot rfl rfl Try.sizeOf42 rfl rfl rfl (by intro b hb; simp [bks, St.put] at hb ⊢; try first | exact hb | simp [hb] | (rcases hb with hb | hb <;> simp [hb]) | (rcases hb with hb | hb | hb <;> simp [hb])) ?_
     refine a1_ 10 rfl (fa_ 2) ?_
     refine AD.one (i := 11) (by kernel_rfl) ?_
     refine AStep.store (k := 0) (cs' := [_, _, _, _, _]) rfl (wants_plain rfl) rfl rfl ot rfl rfl ot rfl rfl Try.sizeOf22 rfl rfl rfl (by intro b hb; simp [bks, St.put] at hb ⊢; try first | exact hb | simp [hb] | (rcases hb with hb | hb <;> simp [hb]) | (rcases hb with hb | hb | hb <;> simp [hb])) ?_
     refine AD.wk (y := ⟨98, [(0, _), (1, _), (6, _), (7, _), (8, _)], (⟨b7, 44, 5, [_, _, _, _, _]⟩ :: ⟨b6, 44, 5, [_, _, _, _, _]⟩ :: ⟨b, 26, 2, [_, _]⟩ :: _ :: (S36 ++ (S32 ++ ((L.eraseIdx i.toNat).flatMap bO))))⟩) (Wk.as_ rfl rfl ⟨lk, lk, lk, lk, lk, trivial⟩) rfl ?_
     refine AD.done (by kernel_rfl) ?_
     refine CD.region ?_
     refine os_ (fa_ 2) ?_
     refine os_ (lb_ 1) ?_
     refine OD.still (wants_plain rfl) rfl (still_rs (l := 0) (h := 2) rfl ot trivial ⟨_, opd_const⟩ (by first | exact sl_head cK_len (fun h => by cases h) Try.runUnderlying22 Try.sizeOf3 (by omega) | exact sl_head cI_len (fun h => by cases h) Try.runUnderlying22 Try.sizeOf3 (by omega) | exact sl_row (fun h => by cases h) Try.runUnderlying22 Try.sizeOf3 (by omega) | exact sl_list (fun _ => rfl) (fun h => by cases h) Try.runUnderlying22 Try.sizeOf3 (by omega) (by omega))) ?_
     have hcl42 : VC Try.prog G 39 [.list 1 ((p.kids.take 2).flatMap cI) (p.kids.take 2).length] [] (fun r S => ∃ ad cap, r = .v (.slice ad (lowP p L.length).kids.length cap) ∧ OwnI (lowP p L.length).kids ad cap S) := by rw [show (p.kids.take 2) = (lowP p L.length).kids from (by show _ = p.kids.take (if p.leaf = true then 2 else 3); rw [hlf]; rfl)]; exact cloneI_vc _ (by rw [← show (p.kids.take 2) = (lowP p L.length).kids from (by show _ = p.kids.take (if p.leaf = true then 2 else 3); rw [hlf]; rfl)]; simp only [List.length_take, List.length_drop]; omega)
     refine OD.call (wants_plain rfl) rfl rfl rfl Try.call39 hcl42 ⟨ot, trivial⟩ (perm_none _) ?_
     rintro _ S42 ⟨a42, c42, rfl, ho42⟩
     refine OD.perm (perm_q12 (A := [_, _, _, _])) ?_
     refine os_ (fa_ 2) ?_
     refine OD.store (k := 1) (cs' := [_, _, _, _, _]) (wants_plain rfl) rfl rfl ot rfl rfl ot rfl rfl Try.sizeOf22 rfl rfl rfl ?_
     refine OD.wk (Wk.as_ (n := 98) (l' := [(0, _), (1, _), (6, _), (7, _), (8, _)]) (S' := (⟨b7, 44, 5, [_, _, _, _, _]⟩ :: ⟨b6, 44, 5, [_, _, _, _, _]⟩ :: ⟨b, 26, 2, [_, _]⟩ :: _ :: (S42 ++ (S36 ++ (S32 ++ ((L.eraseIdx i.toNat).flatMap bO)))))) rfl rfl ⟨lk, lk, lk, lk, lk, trivial⟩) ?_
     refine OD.nil ?_
     refine ⟨(⟨98, [(0, .v (.pointer (some ⟨b, 0, none⟩))), (1, .v (.int .i64 i)), (6, .v (.pointer (some ⟨b6, 0, none⟩))), (7, .v (.pointer (some ⟨(b7), 0, none⟩))), (8, .list 1 ((upK p).flatMap cB) (upK p).length)], (⟨(b7), 44, 5, [.v (.bool p.leaf), .v (.slice (a32) (highP p).keys.length (c32)), .v (.slice (a36) (highP p).kids.length (c36)), .list 1 (p.high.flatMap cB) p.high.length, .v (.int .i64 p.next)]⟩ :: ⟨b6, 44, 5, [.v (.bool p.leaf), .list 1 (p.keys.flatMap cK) p.keys.length, .v (.slice (a42) (lowP p L.length).kids.length (c42)), .list 1 (p.high.flatMap cB) p.high.length, .v (.int .i64 p.next)]⟩ :: ⟨b, 26, 2, [.v (.slice (some ⟨bx, 0, none⟩) L.length cap), .v (.int .i64 root)]⟩ :: ⟨bx, 44, cap * 5, List.flatMap gO L⟩ :: ((S42) ++ ((S36) ++ ((S32) ++ ((L.eraseIdx i.toNat).flatMap bO)))))⟩ : St), Wk.asS (n := 98) rfl (by repeat (first | exact List.Sublist.refl _ | apply List.Sublist.cons_cons | apply List.Sublist.cons)) ⟨(by (repeat (first | exact look_hit | (apply look_at; focus (first | rfl | (rw [hup]; done) | (simp; done))) | (apply look_miss; focus rfl))); done), (by (repeat (first | exact look_hit | (apply look_at; focus (first | rfl | (rw [hup]; done) | (simp; done))) | (apply look_miss; focus rfl))); done), (by (repeat (first | exact look_hit | (apply look_at; focus (first | rfl | (rw [hup]; done) | (simp; done))) | (apply look_miss; focus rfl))); done), (by (repeat (first | exact look_hit | (apply look_at; focus (first | rfl | (rw [hup]; done) | (simp; done))) | (apply look_miss; focus rfl))); done), (by (repeat (first | exact look_hit | (apply look_at; focus (first | rfl | (rw [hup]; done) | (simp; done))) | (apply look_miss; focus rfl))); done), trivial⟩, b7, a32, c32, S32, a36, c36, S36, a42, c42, S42, ho32, ho36, ho42, rfl⟩
   ·skip
    refine at_ rfl (lb_ 1) ?_
    refine a1_ 6 rfl (still_rs (l := 2) rfl ot ⟨_, opd_const⟩ trivial (by first | exact sl_tail rfl cK_len (fun h => by cases h) Try.runUnderlying22 Try.sizeOf3 (by omega) | exact sl_tail rfl cI_len (fun h => by cases h) Try.runUnderlying22 Try.sizeOf3 (by omega) | exact sl_row (fun _ => rfl) Try.runUnderlying22 Try.sizeOf3 (by omega) | exact sl_list (fun h => by cases h) (fun _ => rfl) Try.runUnderlying22 Try.sizeOf3 (by omega) (by omega))) ?_
    refine AD.one (i := 1) (by kernel_rfl) ?_
    refine at_ rfl (lb_ 1) ?_
    refine a1_ 2 rfl (still_rs (l := 2) rfl ot ⟨_, opd_const⟩ trivial (by first | exact sl_tail rfl cK_len (fun h => by cases h) Try.runUnderlying42 Try.sizeOf31 (by omega) | exact sl_tail rfl cI_len (fun h => by cases h) Try.runUnderlying42 Try.sizeOf31 (by omega) | exact sl_row (fun _ => rfl) Try.runUnderlying42 Try.sizeOf31 (by omega) | exact sl_list (fun h => by cases h) (fun _ => rfl) Try.runUnderlying42 Try.sizeOf31 (by omega) (by omega))) ?_
    refine AD.one (i := 3) (by kernel_rfl) ?_
    have hcl32 : VC Try.prog G 46 [.list 1 ((p.keys.drop 2).flatMap cK) (p.keys.drop 2).length] [] (fun r S => ∃ ad cap, r = .v (.slice ad (highP p).keys.length cap) ∧ OwnKs (highP p).keys ad cap S) := by rw [show (p.keys.drop 2) = (highP p).keys from (by show _ = p.keys.drop (if p.leaf = true then 2 else 3); rw [hlf]; rfl)]; exact cloneK_vc _ (by rw [← show (p.keys.drop 2) = (highP p).keys from (by show _ = p.keys.drop (if p.leaf = true then 2 else 3); rw [hlf]; rfl)]; simp only [List.length_take, List.length_drop]; omega)
    refine AStep.call rfl (wants_plain rfl) rfl rfl rfl Try.call46 hcl32 ⟨ot, trivial⟩ (perm_none _) (by intro b hb; simp [bks, St.put] at hb ⊢; try first | exact hb | simp [hb] | (rcases hb with hb | hb <;> simp [hb]) | (rcases hb with hb | hb | hb <;> simp [hb])) ?_
    rintro _ S32 ⟨a32, c32, rfl, ho32⟩
    refine AD.perm (perm_q12 (A := [_, _, _, _])) ?_
    refine a1_ 8 rfl (fa_ 1) ?_
    refine AD.one (i := 7) (by kernel_rfl) ?_
    have hcl36 : VC Try.prog G 39 [.list 1 ((p.kids.drop 2).flatMap cI) (p.kids.drop 2).length] [] (fun r S => ∃ ad cap, r = .v (.slice ad (highP p).kids.length cap) ∧ OwnI (highP p).kids ad cap S) := by rw [show (p.kids.drop 2) = (highP p).kids from (by show _ = p.kids.drop (if p.leaf = true then 2 else 3); rw [hlf]; rfl)]; exact cloneI_vc _ (by rw [← show (p.kids.drop 2) = (highP p).kids from (by show _ = p.kids.drop (if p.leaf = true then 2 else 3); rw [hlf]; rfl)]; simp only [List.length_take, List.length_drop]; omega)
    refine AStep.call rfl (wants_plain rfl) rfl rfl rfl Try.call39 hcl36 ⟨ot, trivial⟩ (perm_none _) (by intro b hb; simp [bks, St.put] at hb ⊢; try first | exact hb | simp [hb] | (rcases hb with hb | hb <;> simp [hb]) | (rcases hb with hb | hb | hb <;> simp [hb])) ?_
    rintro _ S36 ⟨a36, c36, rfl, ho36⟩
    refine AD.perm (perm_q12 (A := [_, _, _, _])) ?_
    refine AD.one (i := 9) (by kernel_rfl) ?_
    refine AStep.store (k := 0) (cs' := [_, _, _, _, _]) rfl (wants_plain rfl) rfl rfl ot rfl rfl ot rfl rfl Try.sizeOf42 rfl rfl rfl (by intro b hb; simp [bks, St.put] at hb ⊢; try first | exact hb | simp [hb] | (rcases hb with hb | hb <;> simp [hb]) | (rcases hb with hb | hb | hb <;> simp [hb])) ?_
    refine a1_ 10 rfl (fa_ 2) ?_
    refine AD.one (i := 11) (by kernel_rfl) ?_
    refine AStep.store (k := 0) (cs' := [_, _, _, _, _]) rfl (wants_plain rfl) rfl rfl ot rfl rfl ot rfl rfl Try.sizeOf22 rfl rfl rfl (by intro b hb; simp [bks, St.put] at hb ⊢; try first | exact hb | simp [hb] | (rcases hb with hb | hb <;> simp [hb]) | (rcases hb with hb | hb | hb <;> simp [hb])) ?_
    refine AD.wk (y := ⟨98, [(0, _), (1, _), (6, _), (7, _), (8, _)], (⟨b7, 44, 5, [_, _, _, _, _]⟩ :: ⟨b6, 44, 5, [_, _, _, _, _]⟩ :: ⟨b, 26, 2, [_, _]⟩ :: _ :: (S36 ++ (S32 ++ ((L.eraseIdx i.toNat).flatMap bO))))⟩) (Wk.as_ rfl rfl ⟨lk, lk, lk, lk, lk, trivial⟩) rfl ?_
    refine AD.done (by kernel_rfl) ?_
    refine CD.region ?_
    refine os_ (fa_ 2) ?_
    refine os_ (lb_ 1) ?_
    refine OD.still (wants_plain rfl) rfl (still_rs (l := 0) (h := 2) rfl ot trivial ⟨_, opd_const⟩ (by first | exact sl_head cK_len (fun h => by cases h) Try.runUnderlying22 Try.sizeOf3 (by omega) | exact sl_head cI_len (fun h => by cases h) Try.runUnderlying22 Try.sizeOf3 (by omega) | exact sl_row (fun h => by cases h) Try.runUnderlying22 Try.sizeOf3 (by omega) | exact sl_list (fun _ => rfl) (fun h => by cases h) Try.runUnderlying22 Try.sizeOf3 (by omega) (by omega))) ?_
    have hcl42 : VC Try.prog G 39 [.list 1 ((p.kids.take 2).flatMap cI) (p.kids.take 2).length] [] (fun r S => ∃ ad cap, r = .v (.slice ad (lowP p L.length).kids.length cap) ∧ OwnI (lowP p L.length).kids ad cap S) := by rw [show (p.kids.take 2) = (lowP p L.length).kids from (by show _ = p.kids.take (if p.leaf = true then 2 else 3); rw [hlf]; rfl)]; exact cloneI_vc _ (by rw [← show (p.kids.take 2) = (lowP p L.length).kids from (by show _ = p.kids.take (if p.leaf = true then 2 else 3); rw [hlf]; rfl)]; simp only [List.length_take, List.length_drop]; omega)
    refine OD.call (wants_plain rfl) rfl rfl rfl Try.call39 hcl42 ⟨ot, trivial⟩ (perm_none _) ?_
    rintro _ S42 ⟨a42, c42, rfl, ho42⟩
    refine OD.perm (perm_q12 (A := [_, _, _, _])) ?_
    refine os_ (fa_ 2) ?_
    refine OD.store (k := 1) (cs' := [_, _, _, _, _]) (wants_plain rfl) rfl rfl ot rfl rfl ot rfl rfl Try.sizeOf22 rfl rfl rfl ?_
    refine OD.wk (Wk.as_ (n := 98) (l' := [(0, _), (1, _), (6, _), (7, _), (8, _)]) (S' := (⟨b7, 44, 5, [_, _, _, _, _]⟩ :: ⟨b6, 44, 5, [_, _, _, _, _]⟩ :: ⟨b, 26, 2, [_, _]⟩ :: _ :: (S42 ++ (S36 ++ (S32 ++ ((L.eraseIdx i.toNat).flatMap bO)))))) rfl rfl ⟨lk, lk, lk, lk, lk, trivial⟩) ?_
    refine OD.nil ?_
    refine ⟨(⟨98, [(0, .v (.pointer (some ⟨b, 0, none⟩))), (1, .v (.int .i64 i)), (6, .v (.pointer (some ⟨b6, 0, none⟩))), (7, .v (.pointer (some ⟨(b7), 0, none⟩))), (8, .list 1 ((upK p).flatMap cB) (upK p).length)], (⟨(b7), 44, 5, [.v (.bool p.leaf), .v (.slice (a32) (highP p).keys.length (c32)), .v (.slice (a36) (highP p).kids.length (c36)), .list 1 (p.high.flatMap cB) p.high.length, .v (.int .i64 p.next)]⟩ :: ⟨b6, 44, 5, [.v (.bool p.leaf), .list 1 (p.keys.flatMap cK) p.keys.length, .v (.slice (a42) (lowP p L.length).kids.length (c42)), .list 1 (p.high.flatMap cB) p.high.length, .v (.int .i64 p.next)]⟩ :: ⟨b, 26, 2, [.v (.slice (some ⟨bx, 0, none⟩) L.length cap), .v (.int .i64 root)]⟩ :: ⟨bx, 44, cap * 5, List.flatMap gO L⟩ :: ((S42) ++ ((S36) ++ ((S32) ++ ((L.eraseIdx i.toNat).flatMap bO)))))⟩ : St), Wk.asS (n := 98) rfl (by repeat (first | exact List.Sublist.refl _ | apply List.Sublist.cons_cons | apply List.Sublist.cons)) ⟨(by (repeat (first | exact look_hit | (apply look_at; focus (first | rfl | (rw [hup]; done) | (simp; done))) | (apply look_miss; focus rfl))); done), (by (repeat (first | exact look_hit | (apply look_at; focus (first | rfl | (rw [hup]; done) | (simp; done))) | (apply look_miss; focus rfl))); done), (by (repeat (first | exact look_hit | (apply look_at; focus (first | rfl | (rw [hup]; done) | (simp; done))) | (apply look_miss; focus rfl))); done), (by (repeat (first | exact look_hit | (apply look_at; focus (first | rfl | (rw [hup]; done) | (simp; done))) | (apply look_miss; focus rfl))); done), (by (repeat (first | exact look_hit | (apply look_at; focus (first | rfl | (rw [hup]; done) | (simp; done))) | (apply look_miss; focus rfl))); done), trivial⟩, b7, a32, c32, S32, a36, c36, S36, a42, c42, S42, ho32, ho36, ho42, rfl⟩
  ·have hc0' := hc0
   (try simp only [V.cnd, ne_eq] at hc0')
   have hlf : p.leaf = false := hc0
   have hkn := hkn hlf
   refine CD.seq ?_
   refine CD.draw (bks (List.take 2 (List.drop 1 _))) (by kernel_rfl) (fun _ h => (List.Sublist.map _ ((List.take_sublist _ _).trans (List.drop_sublist _ _))).subset h) ?_
   refine a0_ 0 rfl (fa_ 1) ?_
   refine a0_ 4 rfl (fa_ 2) ?_
   refine AD0.later rfl ?_
   refine AD.two (i := 1) (j := 5) (by kernel_rfl) ?_ ?_
   ·skip
    refine at_ rfl (lb_ 1) ?_
    refine a1_ 2 rfl (still_rs (l := 3) rfl ot ⟨_, opd_const⟩ trivial (by first | exact sl_tail rfl cK_len (fun h => by cases h) Try.runUnderlying42 Try.sizeOf31 (by omega) | exact sl_tail rfl cI_len (fun h => by cases h) Try.runUnderlying42 Try.sizeOf31 (by omega) | exact sl_row (fun _ => rfl) Try.runUnderlying42 Try.sizeOf31 (by omega) | exact sl_list (fun h => by cases h) (fun _ => rfl) Try.runUnderlying42 Try.sizeOf31 (by omega) (by omega))) ?_
    refine AD.two (i := 3) (j := 5) (by kernel_rfl) ?_ ?_
    ·skip
     have hcl47 : VC Try.prog G 46 [.list 1 ((p.keys.drop 3).flatMap cK) (p.keys.drop 3).length] [] (fun r S => ∃ ad cap, r = .v (.slice ad (highP p).keys.length cap) ∧ OwnKs (highP p).keys ad cap S) := by rw [show (p.keys.drop 3) = (highP p).keys from (by show _ = p.keys.drop (if p.leaf = true then 2 else 3); rw [hlf]; rfl)]; exact cloneK_vc _ (by rw [← show (p.keys.drop 3) = (highP p).keys from (by show _ = p.keys.drop (if p.leaf = true then 2 else 3); rw [hlf]; rfl)]; simp only [List.length_take, List.length_drop]; omega)
     refine AStep.call rfl (wants_plain rfl) rfl rfl rfl Try.call46 hcl47 ⟨ot, trivial⟩ (perm_none _) (by intro b hb; simp [bks, St.put] at hb ⊢; try first | exact hb | simp [hb] | (rcases hb with hb | hb <;> simp [hb]) | (rcases hb with hb | hb | hb <;> simp [hb])) ?_
     rintro _ S47 ⟨a47, c47, rfl, ho47⟩
     refine AD.perm (perm_q12 (A := [_, _, _, _])) ?_
     refine a1_ 8 rfl (fa_ 1) ?_
     refine AD.one (i := 5) (by kernel_rfl) ?_
     refine at_ rfl (lb_ 1) ?_
     refine a1_ 6 rfl (still_rs (l := 3) rfl ot ⟨_, opd_const⟩ trivial (by first | exact sl_tail rfl cK_len (fun h => by cases h) Try.runUnderlying22 Try.sizeOf3 (by omega) | exact sl_tail rfl cI_len (fun h => by cases h) Try.runUnderlying22 Try.sizeOf3 (by omega) | exact sl_row (fun _ => rfl) Try.runUnderlying22 Try.sizeOf3 (by omega) | exact sl_list (fun h => by cases h) (fun _ => rfl) Try.runUnderlying22 Try.sizeOf3 (by omega) (by omega))) ?_
     refine AD.one (i := 7) (by kernel_rfl) ?_
     have hcl51 : VC Try.prog G 39 [.list 1 ((p.kids.drop 3).flatMap cI) (p.kids.drop 3).length] [] (fun r S => ∃ ad cap, r = .v (.slice ad (highP p).kids.length cap) ∧ OwnI (highP p).kids ad cap S) := by rw [show (p.kids.drop 3) = (highP p).kids from (by show _ = p.kids.drop (if p.leaf = true then 2 else 3); rw [hlf]; rfl)]; exact cloneI_vc _ (by rw [← show (p.kids.drop 3) = (highP p).kids from (by show _ = p.kids.drop (if p.leaf = true then 2 else 3); rw [hlf]; rfl)]; simp only [List.length_take, List.length_drop]; omega)
     refine AStep.call rfl (wants_plain rfl) rfl rfl rfl Try.call39 hcl51 ⟨ot, trivial⟩ (perm_none _) (by intro b hb; simp [bks, St.put] at hb ⊢; try first | exact hb | simp [hb] | (rcases hb with hb | hb <;> simp [hb]) | (rcases hb with hb | hb | hb <;> simp [hb])) ?_
     rintro _ S51 ⟨a51, c51, rfl, ho51⟩
     refine AD.perm (perm_q12 (A := [_, _, _, _])) ?_
     refine AD.one (i := 9) (by kernel_rfl) ?_
     refine AStep.store (k := 0) (cs' := [_, _, _, _, _]) rfl (wants_plain rfl) rfl rfl ot rfl rfl ot rfl rfl Try.sizeOf42 rfl rfl rfl (by intro b hb; simp [bks, St.put] at hb ⊢; try first | exact hb | simp [hb] | (rcases hb with hb | hb <;> simp [hb]) | (rcases hb with hb | hb | hb <;> simp [hb])) ?_
     refine a1_ 10 rfl (fa_ 2) ?_
     refine AD.one (i := 11) (by kernel_rfl) ?_
     refine AStep.store (k := 0) (cs' := [_, _, _, _, _]) rfl (wants_plain rfl) rfl rfl ot rfl rfl ot rfl rfl Try.sizeOf22 rfl rfl rfl (by intro b hb; simp [bks, St.put] at hb ⊢; try first | exact hb | simp [hb] | (rcases hb with hb | hb <;> simp [hb]) | (rcases hb with hb | hb | hb <;> simp [hb])) ?_
     refine AD.wk (y := ⟨98, [(0, _), (1, _), (6, _), (7, _), (8, _)], (⟨b7, 44, 5, [_, _, _, _, _]⟩ :: ⟨b6, 44, 5, [_, _, _, _, _]⟩ :: ⟨b, 26, 2, [_, _]⟩ :: _ :: (S51 ++ (S47 ++ ((L.eraseIdx i.toNat).flatMap bO))))⟩) (Wk.as_ rfl rfl ⟨lk, lk, lk, lk, lk, trivial⟩) rfl ?_
     refine AD.done (by kernel_rfl) ?_
     refine CD.region ?_
     refine os_ (fa_ 2) ?_
     refine os_ (lb_ 1) ?_
     refine OD.still (wants_plain rfl) rfl (still_rs (l := 0) (h := 3) rfl ot trivial ⟨_, opd_const⟩ (by first | exact sl_head cK_len (fun h => by cases h) Try.runUnderlying22 Try.sizeOf3 (by omega) | exact sl_head cI_len (fun h => by cases h) Try.runUnderlying22 Try.sizeOf3 (by omega) | exact sl_row (fun h => by cases h) Try.runUnderlying22 Try.sizeOf3 (by omega) | exact sl_list (fun _ => rfl) (fun h => by cases h) Try.runUnderlying22 Try.sizeOf3 (by omega) (by omega))) ?_
     have hcl57 : VC Try.prog G 39 [.list 1 ((p.kids.take 3).flatMap cI) (p.kids.take 3).length] [] (fun r S => ∃ ad cap, r = .v (.slice ad (lowP p L.length).kids.length cap) ∧ OwnI (lowP p L.length).kids ad cap S) := by rw [show (p.kids.take 3) = (lowP p L.length).kids from (by show _ = p.kids.take (if p.leaf = true then 2 else 3); rw [hlf]; rfl)]; exact cloneI_vc _ (by rw [← show (p.kids.take 3) = (lowP p L.length).kids from (by show _ = p.kids.take (if p.leaf = true then 2 else 3); rw [hlf]; rfl)]; simp only [List.length_take, List.length_drop]; omega)
     refine OD.call (wants_plain rfl) rfl rfl rfl Try.call39 hcl57 ⟨ot, trivial⟩ (perm_none _) ?_
     rintro _ S57 ⟨a57, c57, rfl, ho57⟩
     refine OD.perm (perm_q12 (A := [_, _, _, _])) ?_
     refine os_ (fa_ 2) ?_
     refine OD.store (k := 1) (cs' := [_, _, _, _, _]) (wants_plain rfl) rfl rfl ot rfl rfl ot rfl rfl Try.sizeOf22 rfl rfl rfl ?_
     refine OD.wk (Wk.as_ (n := 98) (l' := [(0, _), (1, _), (6, _), (7, _), (8, _)]) (S' := (⟨b7, 44, 5, [_, _, _, _, _]⟩ :: ⟨b6, 44, 5, [_, _, _, _, _]⟩ :: ⟨b, 26, 2, [_, _]⟩ :: _ :: (S57 ++ (S51 ++ (S47 ++ ((L.eraseIdx i.toNat).flatMap bO)))))) rfl rfl ⟨lk, lk, lk, lk, lk, trivial⟩) ?_
     refine OD.nil ?_
     refine ⟨(⟨98, [(0, .v (.pointer (some ⟨b, 0, none⟩))), (1, .v (.int .i64 i)), (6, .v (.pointer (some ⟨b6, 0, none⟩))), (7, .v (.pointer (some ⟨(b7), 0, none⟩))), (8, .list 1 ((upK p).flatMap cB) (upK p).length)], (⟨(b7), 44, 5, [.v (.bool p.leaf), .v (.slice (a47) (highP p).keys.length (c47)), .v (.slice (a51) (highP p).kids.length (c51)), .list 1 (p.high.flatMap cB) p.high.length, .v (.int .i64 p.next)]⟩ :: ⟨b6, 44, 5, [.v (.bool p.leaf), .list 1 (p.keys.flatMap cK) p.keys.length, .v (.slice (a57) (lowP p L.length).kids.length (c57)), .list 1 (p.high.flatMap cB) p.high.length, .v (.int .i64 p.next)]⟩ :: ⟨b, 26, 2, [.v (.slice (some ⟨bx, 0, none⟩) L.length cap), .v (.int .i64 root)]⟩ :: ⟨bx, 44, cap * 5, List.flatMap gO L⟩ :: ((S57) ++ ((S51) ++ ((S47) ++ ((L.eraseIdx i.toNat).flatMap bO)))))⟩ : St), Wk.asS (n := 98) rfl (by repeat (first | exact List.Sublist.refl _ | apply List.Sublist.cons_cons | apply List.Sublist.cons)) ⟨(by (repeat (first | exact look_hit | (apply look_at; focus (first | rfl | (rw [hup]; done) | (simp; done))) | (apply look_miss; focus rfl))); done), (by (repeat (first | exact look_hit | (apply look_at; focus (first | rfl | (rw [hup]; done) | (simp; done))) | (apply look_miss; focus rfl))); done), (by (repeat (first | exact look_hit | (apply look_at; focus (first | rfl | (rw [hup]; done) | (simp; done))) | (apply look_miss; focus rfl))); done), (by (repeat (first | exact look_hit | (apply look_at; focus (first | rfl | (rw [hup]; done) | (simp; done))) | (apply look_miss; focus rfl))); done), (by (repeat (first | exact look_hit | (apply look_at; focus (first | rfl | (rw [hup]; done) | (simp; done))) | (apply look_miss; focus rfl))); done), trivial⟩, b7, a47, c47, S47, a51, c51, S51, a57, c57, S57, ho47, ho51, ho57, rfl⟩
    ·skip
     refine at_ rfl (lb_ 1) ?_
     refine a1_ 6 rfl (still_rs (l := 3) rfl ot ⟨_, opd_const⟩ trivial (by first | exact sl_tail rfl cK_len (fun h => by cases h) Try.runUnderlying22 Try.sizeOf3 (by omega) | exact sl_tail rfl cI_len (fun h => by cases h) Try.runUnderlying22 Try.sizeOf3 (by omega) | exact sl_row (fun _ => rfl) Try.runUnderlying22 Try.sizeOf3 (by omega) | exact sl_list (fun h => by cases h) (fun _ => rfl) Try.runUnderlying22 Try.sizeOf3 (by omega) (by omega))) ?_
     refine AD.one (i := 3) (by kernel_rfl) ?_
     have hcl47 : VC Try.prog G 46 [.list 1 ((p.keys.drop 3).flatMap cK) (p.keys.drop 3).length] [] (fun r S => ∃ ad cap, r = .v (.slice ad (highP p).keys.length cap) ∧ OwnKs (highP p).keys ad cap S) := by rw [show (p.keys.drop 3) = (highP p).keys from (by show _ = p.keys.drop (if p.leaf = true then 2 else 3); rw [hlf]; rfl)]; exact cloneK_vc _ (by rw [← show (p.keys.drop 3) = (highP p).keys from (by show _ = p.keys.drop (if p.leaf = true then 2 else 3); rw [hlf]; rfl)]; simp only [List.length_take, List.length_drop]; omega)
     refine AStep.call rfl (wants_plain rfl) rfl rfl rfl Try.call46 hcl47 ⟨ot, trivial⟩ (perm_none _) (by intro b hb; simp [bks, St.put] at hb ⊢; try first | exact hb | simp [hb] | (rcases hb with hb | hb <;> simp [hb]) | (rcases hb with hb | hb | hb <;> simp [hb])) ?_
     rintro _ S47 ⟨a47, c47, rfl, ho47⟩
     refine AD.perm (perm_q12 (A := [_, _, _, _])) ?_
     refine a1_ 8 rfl (fa_ 1) ?_
     refine AD.one (i := 7) (by kernel_rfl) ?_
     have hcl51 : VC Try.prog G 39 [.list 1 ((p.kids.drop 3).flatMap cI) (p.kids.drop 3).length] [] (fun r S => ∃ ad cap, r = .v (.slice ad (highP p).kids.length cap) ∧ OwnI (highP p).kids ad cap S) := by rw [show (p.kids.drop 3) = (highP p).kids from (by show _ = p.kids.drop (if p.leaf = true then 2 else 3); rw [hlf]; rfl)]; exact cloneI_vc _ (by rw [← show (p.kids.drop 3) = (highP p).kids from (by show _ = p.kids.drop (if p.leaf = true then 2 else 3); rw [hlf]; rfl)]; simp only [List.length_take, List.length_drop]; omega)
     refine AStep.call rfl (wants_plain rfl) rfl rfl rfl Try.call39 hcl51 ⟨ot, trivial⟩ (perm_none _) (by intro b hb; simp [bks, St.put] at hb ⊢; try first | exact hb | simp [hb] | (rcases hb with hb | hb <;> simp [hb]) | (rcases hb with hb | hb | hb <;> simp [hb])) ?_
     rintro _ S51 ⟨a51, c51, rfl, ho51⟩
     refine AD.perm (perm_q12 (A := [_, _, _, _])) ?_
     refine AD.one (i := 9) (by kernel_rfl) ?_
     refine AStep.store (k := 0) (cs' := [_, _, _, _, _]) rfl (wants_plain rfl) rfl rfl ot rfl rfl ot rfl rfl Try.sizeOf42 rfl rfl rfl (by intro b hb; simp [bks, St.put] at hb ⊢; try first | exact hb | simp [hb] | (rcases hb with hb | hb <;> simp [hb]) | (rcases hb with hb | hb | hb <;> simp [hb])) ?_
     refine a1_ 10 rfl (fa_ 2) ?_
     refine AD.one (i := 11) (by kernel_rfl) ?_
     refine AStep.store (k := 0) (cs' := [_, _, _, _, _]) rfl (wants_plain rfl) rfl rfl ot rfl rfl ot rfl rfl Try.sizeOf22 rfl rfl rfl (by intro b hb; simp [bks, St.put] at hb ⊢; try first | exact hb | simp [hb] | (rcases hb with hb | hb <;> simp [hb]) | (rcases hb with hb | hb | hb <;> simp [hb])) ?_
     refine AD.wk (y := ⟨98, [(0, _), (1, _), (6, _), (7, _), (8, _)], (⟨b7, 44, 5, [_, _, _, _, _]⟩ :: ⟨b6, 44, 5, [_, _, _, _, _]⟩ :: ⟨b, 26, 2, [_, _]⟩ :: _ :: (S51 ++ (S47 ++ ((L.eraseIdx i.toNat).flatMap bO))))⟩) (Wk.as_ rfl rfl ⟨lk, lk, lk, lk, lk, trivial⟩) rfl ?_
     refine AD.done (by kernel_rfl) ?_
     refine CD.region ?_
     refine os_ (fa_ 2) ?_
     refine os_ (lb_ 1) ?_
     refine OD.still (wants_plain rfl) rfl (still_rs (l := 0) (h := 3) rfl ot trivial ⟨_, opd_const⟩ (by first | exact sl_head cK_len (fun h => by cases h) Try.runUnderlying22 Try.sizeOf3 (by omega) | exact sl_head cI_len (fun h => by cases h) Try.runUnderlying22 Try.sizeOf3 (by omega) | exact sl_row (fun h => by cases h) Try.runUnderlying22 Try.sizeOf3 (by omega) | exact sl_list (fun _ => rfl) (fun h => by cases h) Try.runUnderlying22 Try.sizeOf3 (by omega) (by omega))) ?_
     have hcl57 : VC Try.prog G 39 [.list 1 ((p.kids.take 3).flatMap cI) (p.kids.take 3).length] [] (fun r S => ∃ ad cap, r = .v (.slice ad (lowP p L.length).kids.length cap) ∧ OwnI (lowP p L.length).kids ad cap S) := by rw [show (p.kids.take 3) = (lowP p L.length).kids from (by show _ = p.kids.take (if p.leaf = true then 2 else 3); rw [hlf]; rfl)]; exact cloneI_vc _ (by rw [← show (p.kids.take 3) = (lowP p L.length).kids from (by show _ = p.kids.take (if p.leaf = true then 2 else 3); rw [hlf]; rfl)]; simp only [List.length_take, List.length_drop]; omega)
     refine OD.call (wants_plain rfl) rfl rfl rfl Try.call39 hcl57 ⟨ot, trivial⟩ (perm_none _) ?_
     rintro _ S57 ⟨a57, c57, rfl, ho57⟩
     refine OD.perm (perm_q12 (A := [_, _, _, _])) ?_
     refine os_ (fa_ 2) ?_
     refine OD.store (k := 1) (cs' := [_, _, _, _, _]) (wants_plain rfl) rfl rfl ot rfl rfl ot rfl rfl Try.sizeOf22 rfl rfl rfl ?_
     refine OD.wk (Wk.as_ (n := 98) (l' := [(0, _), (1, _), (6, _), (7, _), (8, _)]) (S' := (⟨b7, 44, 5, [_, _, _, _, _]⟩ :: ⟨b6, 44, 5, [_, _, _, _, _]⟩ :: ⟨b, 26, 2, [_, _]⟩ :: _ :: (S57 ++ (S51 ++ (S47 ++ ((L.eraseIdx i.toNat).flatMap bO)))))) rfl rfl ⟨lk, lk, lk, lk, lk, trivial⟩) ?_
     refine OD.nil ?_
     refine ⟨(⟨98, [(0, .v (.pointer (some ⟨b, 0, none⟩))), (1, .v (.int .i64 i)), (6, .v (.pointer (some ⟨b6, 0, none⟩))), (7, .v (.pointer (some ⟨(b7), 0, none⟩))), (8, .list 1 ((upK p).flatMap cB) (upK p).length)], (⟨(b7), 44, 5, [.v (.bool p.leaf), .v (.slice (a47) (highP p).keys.length (c47)), .v (.slice (a51) (highP p).kids.length (c51)), .list 1 (p.high.flatMap cB) p.high.length, .v (.int .i64 p.next)]⟩ :: ⟨b6, 44, 5, [.v (.bool p.leaf), .list 1 (p.keys.flatMap cK) p.keys.length, .v (.slice (a57) (lowP p L.length).kids.length (c57)), .list 1 (p.high.flatMap cB) p.high.length, .v (.int .i64 p.next)]⟩ :: ⟨b, 26, 2, [.v (.slice (some ⟨bx, 0, none⟩) L.length cap), .v (.int .i64 root)]⟩ :: ⟨bx, 44, cap * 5, List.flatMap gO L⟩ :: ((S57) ++ ((S51) ++ ((S47) ++ ((L.eraseIdx i.toNat).flatMap bO)))))⟩ : St), Wk.asS (n := 98) rfl (by repeat (first | exact List.Sublist.refl _ | apply List.Sublist.cons_cons | apply List.Sublist.cons)) ⟨(by (repeat (first | exact look_hit | (apply look_at; focus (first | rfl | (rw [hup]; done) | (simp; done))) | (apply look_miss; focus rfl))); done), (by (repeat (first | exact look_hit | (apply look_at; focus (first | rfl | (rw [hup]; done) | (simp; done))) | (apply look_miss; focus rfl))); done), (by (repeat (first | exact look_hit | (apply look_at; focus (first | rfl | (rw [hup]; done) | (simp; done))) | (apply look_miss; focus rfl))); done), (by (repeat (first | exact look_hit | (apply look_at; focus (first | rfl | (rw [hup]; done) | (simp; done))) | (apply look_miss; focus rfl))); done), (by (repeat (first | exact look_hit | (apply look_at; focus (first | rfl | (rw [hup]; done) | (simp; done))) | (apply look_miss; focus rfl))); done), trivial⟩, b7, a47, c47, S47, a51, c51, S51, a57, c57, S57, ho47, ho51, ho57, rfl⟩
   ·skip
    refine at_ rfl (lb_ 1) ?_
    refine a1_ 6 rfl (still_rs (l := 3) rfl ot ⟨_, opd_const⟩ trivial (by first | exact sl_tail rfl cK_len (fun h => by cases h) Try.runUnderlying22 Try.sizeOf3 (by omega) | exact sl_tail rfl cI_len (fun h => by cases h) Try.runUnderlying22 Try.sizeOf3 (by omega) | exact sl_row (fun _ => rfl) Try.runUnderlying22 Try.sizeOf3 (by omega) | exact sl_list (fun h => by cases h) (fun _ => rfl) Try.runUnderlying22 Try.sizeOf3 (by omega) (by omega))) ?_
    refine AD.one (i := 1) (by kernel_rfl) ?_
    refine at_ rfl (lb_ 1) ?_
    refine a1_ 2 rfl (still_rs (l := 3) rfl ot ⟨_, opd_const⟩ trivial (by first | exact sl_tail rfl cK_len (fun h => by cases h) Try.runUnderlying42 Try.sizeOf31 (by omega) | exact sl_tail rfl cI_len (fun h => by cases h) Try.runUnderlying42 Try.sizeOf31 (by omega) | exact sl_row (fun _ => rfl) Try.runUnderlying42 Try.sizeOf31 (by omega) | exact sl_list (fun h => by cases h) (fun _ => rfl) Try.runUnderlying42 Try.sizeOf31 (by omega) (by omega))) ?_
    refine AD.one (i := 3) (by kernel_rfl) ?_
    have hcl47 : VC Try.prog G 46 [.list 1 ((p.keys.drop 3).flatMap cK) (p.keys.drop 3).length] [] (fun r S => ∃ ad cap, r = .v (.slice ad (highP p).keys.length cap) ∧ OwnKs (highP p).keys ad cap S) := by rw [show (p.keys.drop 3) = (highP p).keys from (by show _ = p.keys.drop (if p.leaf = true then 2 else 3); rw [hlf]; rfl)]; exact cloneK_vc _ (by rw [← show (p.keys.drop 3) = (highP p).keys from (by show _ = p.keys.drop (if p.leaf = true then 2 else 3); rw [hlf]; rfl)]; simp only [List.length_take, List.length_drop]; omega)
    refine AStep.call rfl (wants_plain rfl) rfl rfl rfl Try.call46 hcl47 ⟨ot, trivial⟩ (perm_none _) (by intro b hb; simp [bks, St.put] at hb ⊢; try first | exact hb | simp [hb] | (rcases hb with hb | hb <;> simp [hb]) | (rcases hb with hb | hb | hb <;> simp [hb])) ?_
    rintro _ S47 ⟨a47, c47, rfl, ho47⟩
    refine AD.perm (perm_q12 (A := [_, _, _, _])) ?_
    refine a1_ 8 rfl (fa_ 1) ?_
    refine AD.one (i := 7) (by kernel_rfl) ?_
    have hcl51 : VC Try.prog G 39 [.list 1 ((p.kids.drop 3).flatMap cI) (p.kids.drop 3).length] [] (fun r S => ∃ ad cap, r = .v (.slice ad (highP p).kids.length cap) ∧ OwnI (highP p).kids ad cap S) := by rw [show (p.kids.drop 3) = (highP p).kids from (by show _ = p.kids.drop (if p.leaf = true then 2 else 3); rw [hlf]; rfl)]; exact cloneI_vc _ (by rw [← show (p.kids.drop 3) = (highP p).kids from (by show _ = p.kids.drop (if p.leaf = true then 2 else 3); rw [hlf]; rfl)]; simp only [List.length_take, List.length_drop]; omega)
    refine AStep.call rfl (wants_plain rfl) rfl rfl rfl Try.call39 hcl51 ⟨ot, trivial⟩ (perm_none _) (by intro b hb; simp [bks, St.put] at hb ⊢; try first | exact hb | simp [hb] | (rcases hb with hb | hb <;> simp [hb]) | (rcases hb with hb | hb | hb <;> simp [hb])) ?_
    rintro _ S51 ⟨a51, c51, rfl, ho51⟩
    refine AD.perm (perm_q12 (A := [_, _, _, _])) ?_
    refine AD.one (i := 9) (by kernel_rfl) ?_
    refine AStep.store (k := 0) (cs' := [_, _, _, _, _]) rfl (wants_plain rfl) rfl rfl ot rfl rfl ot rfl rfl Try.sizeOf42 rfl rfl rfl (by intro b hb; simp [bks, St.put] at hb ⊢; try first | exact hb | simp [hb] | (rcases hb with hb | hb <;> simp [hb]) | (rcases hb with hb | hb | hb <;> simp [hb])) ?_
    refine a1_ 10 rfl (fa_ 2) ?_
    refine AD.one (i := 11) (by kernel_rfl) ?_
    refine AStep.store (k := 0) (cs' := [_, _, _, _, _]) rfl (wants_plain rfl) rfl rfl ot rfl rfl ot rfl rfl Try.sizeOf22 rfl rfl rfl (by intro b hb; simp [bks, St.put] at hb ⊢; try first | exact hb | simp [hb] | (rcases hb with hb | hb <;> simp [hb]) | (rcases hb with hb | hb | hb <;> simp [hb])) ?_
    refine AD.wk (y := ⟨98, [(0, _), (1, _), (6, _), (7, _), (8, _)], (⟨b7, 44, 5, [_, _, _, _, _]⟩ :: ⟨b6, 44, 5, [_, _, _, _, _]⟩ :: ⟨b, 26, 2, [_, _]⟩ :: _ :: (S51 ++ (S47 ++ ((L.eraseIdx i.toNat).flatMap bO))))⟩) (Wk.as_ rfl rfl ⟨lk, lk, lk, lk, lk, trivial⟩) rfl ?_
    refine AD.done (by kernel_rfl) ?_
    refine CD.region ?_
    refine os_ (fa_ 2) ?_
    refine os_ (lb_ 1) ?_
    refine OD.still (wants_plain rfl) rfl (still_rs (l := 0) (h := 3) rfl ot trivial ⟨_, opd_const⟩ (by first | exact sl_head cK_len (fun h => by cases h) Try.runUnderlying22 Try.sizeOf3 (by omega) | exact sl_head cI_len (fun h => by cases h) Try.runUnderlying22 Try.sizeOf3 (by omega) | exact sl_row (fun h => by cases h) Try.runUnderlying22 Try.sizeOf3 (by omega) | exact sl_list (fun _ => rfl) (fun h => by cases h) Try.runUnderlying22 Try.sizeOf3 (by omega) (by omega))) ?_
    have hcl57 : VC Try.prog G 39 [.list 1 ((p.kids.take 3).flatMap cI) (p.kids.take 3).length] [] (fun r S => ∃ ad cap, r = .v (.slice ad (lowP p L.length).kids.length cap) ∧ OwnI (lowP p L.length).kids ad cap S) := by rw [show (p.kids.take 3) = (lowP p L.length).kids from (by show _ = p.kids.take (if p.leaf = true then 2 else 3); rw [hlf]; rfl)]; exact cloneI_vc _ (by rw [← show (p.kids.take 3) = (lowP p L.length).kids from (by show _ = p.kids.take (if p.leaf = true then 2 else 3); rw [hlf]; rfl)]; simp only [List.length_take, List.length_drop]; omega)
    refine OD.call (wants_plain rfl) rfl rfl rfl Try.call39 hcl57 ⟨ot, trivial⟩ (perm_none _) ?_
    rintro _ S57 ⟨a57, c57, rfl, ho57⟩
    refine OD.perm (perm_q12 (A := [_, _, _, _])) ?_
    refine os_ (fa_ 2) ?_
    refine OD.store (k := 1) (cs' := [_, _, _, _, _]) (wants_plain rfl) rfl rfl ot rfl rfl ot rfl rfl Try.sizeOf22 rfl rfl rfl ?_
    refine OD.wk (Wk.as_ (n := 98) (l' := [(0, _), (1, _), (6, _), (7, _), (8, _)]) (S' := (⟨b7, 44, 5, [_, _, _, _, _]⟩ :: ⟨b6, 44, 5, [_, _, _, _, _]⟩ :: ⟨b, 26, 2, [_, _]⟩ :: _ :: (S57 ++ (S51 ++ (S47 ++ ((L.eraseIdx i.toNat).flatMap bO)))))) rfl rfl ⟨lk, lk, lk, lk, lk, trivial⟩) ?_
    refine OD.nil ?_
    refine ⟨(⟨98, [(0, .v (.pointer (some ⟨b, 0, none⟩))), (1, .v (.int .i64 i)), (6, .v (.pointer (some ⟨b6, 0, none⟩))), (7, .v (.pointer (some ⟨(b7), 0, none⟩))), (8, .list 1 ((upK p).flatMap cB) (upK p).length)], (⟨(b7), 44, 5, [.v (.bool p.leaf), .v (.slice (a47) (highP p).keys.length (c47)), .v (.slice (a51) (highP p).kids.length (c51)), .list 1 (p.high.flatMap cB) p.high.length, .v (.int .i64 p.next)]⟩ :: ⟨b6, 44, 5, [.v (.bool p.leaf), .list 1 (p.keys.flatMap cK) p.keys.length, .v (.slice (a57) (lowP p L.length).kids.length (c57)), .list 1 (p.high.flatMap cB) p.high.length, .v (.int .i64 p.next)]⟩ :: ⟨b, 26, 2, [.v (.slice (some ⟨bx, 0, none⟩) L.length cap), .v (.int .i64 root)]⟩ :: ⟨bx, 44, cap * 5, List.flatMap gO L⟩ :: ((S57) ++ ((S51) ++ ((S47) ++ ((L.eraseIdx i.toNat).flatMap bO)))))⟩ : St), Wk.asS (n := 98) rfl (by repeat (first | exact List.Sublist.refl _ | apply List.Sublist.cons_cons | apply List.Sublist.cons)) ⟨(by (repeat (first | exact look_hit | (apply look_at; focus (first | rfl | (rw [hup]; done) | (simp; done))) | (apply look_miss; focus rfl))); done), (by (repeat (first | exact look_hit | (apply look_at; focus (first | rfl | (rw [hup]; done) | (simp; done))) | (apply look_miss; focus rfl))); done), (by (repeat (first | exact look_hit | (apply look_at; focus (first | rfl | (rw [hup]; done) | (simp; done))) | (apply look_miss; focus rfl))); done), (by (repeat (first | exact look_hit | (apply look_at; focus (first | rfl | (rw [hup]; done) | (simp; done))) | (apply look_miss; focus rfl))); done), (by (repeat (first | exact look_hit | (apply look_at; focus (first | rfl | (rw [hup]; done) | (simp; done))) | (apply look_miss; focus rfl))); done), trivial⟩, b7, a47, c47, S47, a51, c51, S51, a57, c57, S57, ho47, ho51, ho57, rfl⟩
 rintro _ ⟨b7, ak1, ck1, Sk1, ai1, ci1, Si1, ai2, ci2, Si2, hok1, hoi1, hoi2, rfl⟩
 refine CD.seq ?_
 refine CD.region ?_
 refine os_ (fa_ 1) ?_
 refine os_ (lb_ 1) ?_
 refine OD.still (wants_plain rfl) rfl (still_rs (l := 0) (h := 2) rfl ot trivial ⟨_, opd_const⟩ (by first | exact sl_head cK_len (fun h => by cases h) Try.runUnderlying42 Try.sizeOf31 (by omega) | exact sl_head cI_len (fun h => by cases h) Try.runUnderlying42 Try.sizeOf31 (by omega) | exact sl_row (fun h => by cases h) Try.runUnderlying42 Try.sizeOf31 (by omega) | exact sl_list (fun _ => rfl) (fun h => by cases h) Try.runUnderlying42 Try.sizeOf31 (by omega) (by omega))) ?_
 have hcl62 : VC Try.prog G 46 [.list 1 ((p.keys.take 2).flatMap cK) (p.keys.take 2).length] [] (fun r S => ∃ ad cap, r = .v (.slice ad (lowP p L.length).keys.length cap) ∧ OwnKs (lowP p L.length).keys ad cap S) := by rw [show (p.keys.take 2) = (lowP p L.length).keys from rfl]; exact cloneK_vc _ (by rw [← show (p.keys.take 2) = (lowP p L.length).keys from rfl]; simp only [List.length_take, List.length_drop]; omega)
 refine OD.call (wants_plain rfl) rfl rfl rfl Try.call46 hcl62 ⟨ot, trivial⟩ (perm_none _) ?_
 rintro _ S62 ⟨a62, c62, rfl, ho62⟩
 refine OD.perm (perm_q12 (A := [_, _, _, _])) ?_
 refine os_ (fa_ 1) ?_
 refine OD.store (k := 1) (cs' := [_, _, _, _, _]) (wants_plain rfl) rfl rfl ot rfl rfl ot rfl rfl Try.sizeOf42 rfl rfl rfl ?_
 refine OD.wk (Wk.as_ (n := 98) (l' := [(0, _), (1, _), (6, _), (7, _), (8, _)]) (S' := (⟨b7, 44, 5, [_, _, _, _, _]⟩ :: ⟨b6, 44, 5, [_, _, _, _, _]⟩ :: ⟨b, 26, 2, [_, _]⟩ :: _ :: (S62 ++ (Si2 ++ (Si1 ++ (Sk1 ++ ((L.eraseIdx i.toNat).flatMap bO))))))) rfl rfl ⟨lk, lk, lk, lk, lk, trivial⟩) ?_
 refine OD.nil ?_
 refine CD.seq ?_
 refine CD.draw (bks (List.take 1 (List.drop 0 _))) (by kernel_rfl) (fun _ h => (List.Sublist.map _ ((List.take_sublist _ _).trans (List.drop_sublist _ _))).subset h) ?_
 refine a0_ 0 rfl mv_ ?_
 refine a0_ 2 rfl mv_ ?_
 refine a0_ 3 rfl nc_ ?_
 refine a0_ 4 rfl (fa_ 0) ?_
 refine AD0.later rfl ?_
 refine AD.two (i := 1) (j := 5) (by kernel_rfl) ?_ ?_
 ·skip
  refine AStep.callP rfl (wants_plain rfl) rfl rfl rfl Try.call26 (cloneB_vp (upK p) (by rw [hup]; omega)) ⟨ot, trivial⟩ ?_
  refine a1_ 7 rfl (fa_ 3) ?_
  refine AD.two (i := 5) (j := 8) (by kernel_rfl) ?_ ?_
  ·skip
   refine at_ rfl (lb_ 2) ?_
   refine a1_ 6 rfl ln_ ?_
   refine AD.one (i := 8) (by kernel_rfl) ?_
   refine AStep.store (k := 1) (cs' := [_, _, _, _, _]) rfl (wants_plain rfl) rfl rfl ot rfl rfl ot rfl rfl Try.sizeOf31 rfl rfl rfl (by intro b hb; simp [bks, St.put] at hb ⊢; try first | exact hb | simp [hb] | (rcases hb with hb | hb <;> simp [hb]) | (rcases hb with hb | hb | hb <;> simp [hb])) ?_
   refine a1_ 9 rfl (fa_ 4) ?_
   refine AD.one (i := 10) (by kernel_rfl) ?_
   refine AStep.store (k := 1) (cs' := [_, _, _, _, _]) rfl (wants_plain rfl) rfl rfl ot rfl rfl ot rfl rfl Try.sizeOf3 rfl rfl rfl (by intro b hb; simp [bks, St.put] at hb ⊢; try first | exact hb | simp [hb] | (rcases hb with hb | hb <;> simp [hb]) | (rcases hb with hb | hb | hb <;> simp [hb])) ?_
   refine AD.wk (y := ⟨98, [(0, _), (1, _), (6, _), (7, _), (8, _)], (⟨b7, 44, 5, [_, _, _, _, _]⟩ :: ⟨b6, 44, 5, [_, _, _, _, _]⟩ :: ⟨b, 26, 2, [_, _]⟩ :: _ :: (S62 ++ (Si2 ++ (Si1 ++ (Sk1 ++ ((L.eraseIdx i.toNat).flatMap bO))))))⟩) (Wk.as_ rfl rfl ⟨lk, lk, lk, lk, lk, trivial⟩) rfl ?_
   refine AD.done (by kernel_rfl) ?_
   refine CD.seq ?_
   refine CD.draw (bks (List.take 3 _)) (by kernel_rfl) (fun _ h => (List.Sublist.map _ (List.take_sublist _ _)).subset h) ?_
   refine a0_ 0 rfl mv_ ?_
   refine a0_ 1 rfl nc_ ?_
   refine a0_ 2 rfl (fa_ 0) ?_
   refine a0_ 3 rfl (lb_ 2) ?_
   refine a0_ 4 rfl mv_ ?_
   refine a0_ 5 rfl (lab_ 1 [_, _, _, _, _]) ?_
   refine a0_ 6 rfl (ix_ 5 (h := by first | exact .l (j := i.toNat) (Int.toNat_of_nonneg hi.1).symm hj | exact .r (j := i.toNat) (Int.toNat_of_nonneg hi.1).symm hj)) ?_
   refine AD0.later rfl ?_
   refine AD.one (i := 7) (by kernel_rfl) ?_
   refine AStep.storeAt (k := 3) (cs' := List.flatMap gO (L.set i.toNat (⟨lowP p L.length, a62, c62, S62, ai2, ci2, Si2⟩ : PgO))) rfl (wants_plain rfl) rfl rfl ot rfl rfl ot rfl rfl Try.sizeOf44 rfl (by show 0 + i.toNat * 5 + 5 ≤ (List.flatMap gO L).length; rw [fm_len gO_len]; omega) (by show setAll (L.flatMap gO) (0 + i.toNat * 5) (gO (⟨lowP p L.length, a62, c62, S62, ai2, ci2, Si2⟩ : PgO)) = _; rw [Nat.zero_add]; exact fm_set gO_len L (⟨lowP p L.length, a62, c62, S62, ai2, ci2, Si2⟩ : PgO) hj) (by intro b hb; simp [bks, St.put] at hb ⊢; try first | exact hb | simp [hb] | (rcases hb with hb | hb <;> simp [hb]) | (rcases hb with hb | hb | hb <;> simp [hb])) ?_
   refine AD.wk (y := ⟨98, [(0, _), (7, _), (8, _)], (⟨b7, 44, 5, [_, _, _, _, _]⟩ :: ⟨b6, 44, 5, [_, _, _, _, _]⟩ :: ⟨b, 26, 2, [_, _]⟩ :: _ :: (S62 ++ (Si2 ++ (Si1 ++ (Sk1 ++ ((L.eraseIdx i.toNat).flatMap bO))))))⟩) (Wk.as_ rfl rfl ⟨lk, lk, lk, trivial⟩) rfl ?_
   refine AD.done (by kernel_rfl) ?_
   refine CD.seq ?_
   refine CD.draw (bks (List.take 2 _)) (by kernel_rfl) (fun _ h => (List.Sublist.map _ (List.take_sublist _ _)).subset h) ?_
   refine a0_ 0 rfl mv_ ?_
   refine a0_ 1 rfl mv_ ?_
   refine a0_ 2 rfl nc_ ?_
   refine a0_ 3 rfl (fa_ 0) ?_
   refine a0_ 5 rfl (lab_ 0 [_, _, _, _, _]) ?_
   refine AD0.later rfl ?_
   refine AD.two (i := 4) (j := 6) (by kernel_rfl) ?_ ?_
   ·skip
    refine at_ rfl (still_r1 (mk := Op.load 24) rfl ot (ld_blk (k := 2) (d := .v (.slice (some ⟨bx, 0, none⟩) (L.set i.toNat (⟨lowP p L.length, a62, c62, S62, ai2, ci2, Si2⟩ : PgO)).length cap)) rfl rfl Try.isAgg24 (by rw [List.length_set]; rfl))) ?_
    refine AD.one (i := 6) (by kernel_rfl) ?_
    refine AStep.bldS (pl := numD 0 [_]) (zvs := [.bool false, .slice none 0 0, .slice none 0 0, .slice none 0 0, .int .i64 0]) (ds := [_, _, _, _, _]) rfl (wants_plain rfl) rfl rfl Try.zeroValue44 Try.runUnderlying24 Try.sizeOf44 rfl rfl (by kernel_rfl) ⟨rfl, ot, trivial⟩ (by exact rfl) (fill_full (by exact rfl) (by exact rfl) (by exact rfl)) (fun b86 => ?_)
    refine AD.give (k := 0) (t := 86) (sz := 5) (m := 1) rfl lk rfl rfl rfl (Nat.le_refl _) (by decide) ?_
    refine AD.one (i := 7) (by kernel_rfl) ?_
    refine AStep.appendG (ls := (L.set i.toNat (⟨lowP p L.length, a62, c62, S62, ai2, ci2, Si2⟩ : PgO))) (new := [(⟨highP p, ak1, ck1, Sk1, ai1, ci1, Si1⟩ : PgO)]) (Sq := [⟨bx, 44, cap * 5, List.flatMap gO (L.set i.toNat (⟨lowP p L.length, a62, c62, S62, ai2, ci2, Si2⟩ : PgO))⟩]) gO_len gO_one rfl (wants_plain rfl) rfl rfl Try.underlying24 info44_Twe rfl (by decide) ot (ownL_row (by rw [List.length_set]; exact hxl) hxc) (perm_one (k := 3) rfl) ot (by simp) (by simp only [maxLen, List.length_set, List.length_cons, List.length_nil] at *; omega) (by simp only [List.length_set, List.length_cons, List.length_nil] at *; omega) (hT := by intro x0 hx0; have hx0 : x0 ∈ [b7, b6] := hx0; show x0 ∈ (b7 :: b6 :: _ : List Nat); simp only [List.mem_cons, List.not_mem_nil, or_false] at hx0 ⊢; omega) (fun b87 cp87 h187 h287 => ?_)
    refine a1_ 8 rfl nc_ ?_
    refine a1_ 9 rfl (fa_ 0) ?_
    refine AD.one (i := 10) (by kernel_rfl) ?_
    refine AStep.store (k := 3) (cs' := [_, _]) rfl (wants_plain rfl) rfl rfl ot rfl rfl ot rfl rfl Try.sizeOf24 rfl rfl rfl (by intro b hb; simp [bks, St.put] at hb ⊢; try first | exact hb | simp [hb] | (rcases hb with hb | hb <;> simp [hb]) | (rcases hb with hb | hb | hb <;> simp [hb])) ?_
    refine AD.wk (y := ⟨98, [(0, _), (8, _)], (_ :: ⟨b7, 44, 5, [_, _, _, _, _]⟩ :: ⟨b6, 44, 5, [_, _, _, _, _]⟩ :: ⟨b, 26, 2, [_, _]⟩ :: (S62 ++ (Si2 ++ (Si1 ++ (Sk1 ++ ((L.eraseIdx i.toNat).flatMap bO))))))⟩) (Wk.as_ rfl rfl ⟨lk, lk, trivial⟩) rfl ?_
    refine AD.done (by kernel_rfl) ?_
    refine CD.seq ?_
    refine CD.draw (bks _) (by kernel_rfl) (fun _ h => h) ?_
    refine a0_ 0 rfl mv_ ?_
    refine a0_ 2 rfl mv_ ?_
    refine a0_ 3 rfl nc_ ?_
    refine a0_ 4 rfl (fa_ 0) ?_
    refine a0_ 5 rfl (lb_ 3) ?_
    refine a0_ 6 rfl ln_ ?_
    refine a0_ 7 rfl (still_bin (r := .int .i64 (L.length : Nat)) rfl ot opd_const (bin_sub (by rw [List.length_append, List.length_set]; exact (show IntKind.wrap .i64 (((L.length + [(⟨highP p, ak1, ck1, Sk1, ai1, ci1, Si1⟩ : PgO)].length : Nat) : Int) - 1) = _ from by rw [show (((L.length + [(⟨highP p, ak1, ck1, Sk1, ai1, ci1, Si1⟩ : PgO)].length : Nat) : Int) - 1) = (L.length : Int) from by simp]; exact wrap_i64 (by omega) (by omega))))) ?_
    refine AD0.later rfl ?_
    refine AD.one (i := 1) (by kernel_rfl) ?_
    refine AStep.callP rfl (wants_plain rfl) rfl rfl rfl Try.call26 (cloneB_vp (upK p) (by rw [hup]; omega)) ⟨ot, trivial⟩ ?_
    have htl : (S62 ++ (Si2 ++ (Si1 ++ (Sk1 ++ ((L.eraseIdx i.toNat).flatMap bO))))).Perm (((L.set i.toNat (⟨lowP p L.length, a62, c62, S62, ai2, ci2, Si2⟩ : PgO)) ++ [(⟨highP p, ak1, ck1, Sk1, ai1, ci1, Si1⟩ : PgO)]).flatMap bO) := perm_cnt fun f__ => by have hq := perm_sum (perm_put bO hj (⟨lowP p L.length, a62, c62, S62, ai2, ci2, Si2⟩ : PgO)) f__; rw [List.flatMap_append, show [(⟨highP p, ak1, ck1, Sk1, ai1, ci1, Si1⟩ : PgO)].flatMap bO = Sk1 ++ (Si1 ++ []) from by simp [bO]]; simp only [show bO (⟨lowP p L.length, a62, c62, S62, ai2, ci2, Si2⟩ : PgO) = S62 ++ Si2 from rfl, List.map_append, List.map_cons, List.map_nil, List.sum_append, List.sum_cons, List.sum_nil] at *; omega
    refine AD.perm (S' := ⟨b7, 44, 5, gO (⟨highP p, ak1, ck1, Sk1, ai1, ci1, Si1⟩ : PgO)⟩ :: ⟨b6, 44, 5, gO (⟨lowP p L.length, a62, c62, S62, ai2, ci2, Si2⟩ : PgO)⟩ :: ⟨b, 26, 2, [.v (.slice (some ⟨b87, 0, none⟩) ((L.set i.toNat (⟨lowP p L.length, a62, c62, S62, ai2, ci2, Si2⟩ : PgO)) ++ [(⟨highP p, ak1, ck1, Sk1, ai1, ci1, Si1⟩ : PgO)]).length cp87), .v (.int .i64 root)]⟩ :: (([⟨b87, 44, cp87 * 5, List.flatMap gO ((L.set i.toNat (⟨lowP p L.length, a62, c62, S62, ai2, ci2, Si2⟩ : PgO)) ++ [(⟨highP p, ak1, ck1, Sk1, ai1, ci1, Si1⟩ : PgO)])⟩] : List Blk) ++ ((L.set i.toNat (⟨lowP p L.length, a62, c62, S62, ai2, ci2, Si2⟩ : PgO)) ++ [(⟨highP p, ak1, ck1, Sk1, ai1, ci1, Si1⟩ : PgO)]).flatMap bO)) (by exact (List.perm_middle (l₁ := [_, _, _])).symm.trans (List.Perm.cons _ (List.Perm.cons _ (List.Perm.cons _ (List.Perm.cons _ htl))))) ?_
    refine a1_ 8 rfl mv_ ?_
    refine a1_ 9 rfl mv_ ?_
    refine AD.wk (y := ⟨98, [(4, _), (5, _)], (⟨b7, 44, 5, [_, _, _, _, _]⟩ :: ⟨b6, 44, 5, [_, _, _, _, _]⟩ :: ⟨b, 26, 2, [_, _]⟩ :: (([⟨b87, 44, cp87 * 5, List.flatMap gO ((L.set i.toNat (⟨lowP p L.length, a62, c62, S62, ai2, ci2, Si2⟩ : PgO)) ++ [(⟨highP p, ak1, ck1, Sk1, ai1, ci1, Si1⟩ : PgO)])⟩] : List Blk) ++ ((L.set i.toNat (⟨lowP p L.length, a62, c62, S62, ai2, ci2, Si2⟩ : PgO)) ++ [(⟨highP p, ak1, ck1, Sk1, ai1, ci1, Si1⟩ : PgO)]).flatMap bO))⟩) (Wk.as_ rfl rfl ⟨lk, lk, trivial⟩) rfl ?_
    refine AD.done (by kernel_rfl) ?_
    refine CD.ret ?_
    refine ⟨.inr rfl, _, (⟨b, 26, 2, [.v (.slice (some ⟨b87, 0, none⟩) ((L.set i.toNat (⟨lowP p L.length, a62, c62, S62, ai2, ci2, Si2⟩ : PgO)) ++ [(⟨highP p, ak1, ck1, Sk1, ai1, ci1, Si1⟩ : PgO)]).length cp87), .v (.int .i64 root)]⟩ :: ([⟨b87, 44, cp87 * 5, List.flatMap gO ((L.set i.toNat (⟨lowP p L.length, a62, c62, S62, ai2, ci2, Si2⟩ : PgO)) ++ [(⟨highP p, ak1, ck1, Sk1, ai1, ci1, Si1⟩ : PgO)])⟩] ++ ((L.set i.toNat (⟨lowP p L.length, a62, c62, S62, ai2, ci2, Si2⟩ : PgO)) ++ [(⟨highP p, ak1, ck1, Sk1, ai1, ci1, Si1⟩ : PgO)]).flatMap bO)), (by repeat (first | exact List.Sublist.refl _ | apply List.Sublist.cons)), ret_two Try.results30 (res_tmp (Nat.le_of_ble_eq_true rfl) lk) (res_tmp (Nat.le_of_ble_eq_true rfl) lk), ?_⟩
    refine ⟨rfl, ((L.set i.toNat (⟨lowP p L.length, a62, c62, S62, ai2, ci2, Si2⟩ : PgO)) ++ [(⟨highP p, ak1, ck1, Sk1, ai1, ci1, Si1⟩ : PgO)]), some ⟨b87, 0, none⟩, cp87, [⟨b87, 44, cp87 * 5, List.flatMap gO ((L.set i.toNat (⟨lowP p L.length, a62, c62, S62, ai2, ci2, Si2⟩ : PgO)) ++ [(⟨highP p, ak1, ck1, Sk1, ai1, ci1, Si1⟩ : PgO)])⟩], ownL_row h187 h287, fun x hx => ?_, ?_, rfl⟩
    ·rcases List.mem_append.1 hx with hx | hx
     ·rcases List.mem_or_eq_of_mem_set hx with hx | rfl
      ·exact hok x hx
      ·exact ⟨ho62, hoi2⟩
     ·rw [List.mem_singleton] at hx; subst hx; exact ⟨hok1, hoi1⟩
    ·rw [List.map_append, List.map_set]; rfl
   ·skip
    refine AStep.bldS (pl := numD 0 [_]) (zvs := [.bool false, .slice none 0 0, .slice none 0 0, .slice none 0 0, .int .i64 0]) (ds := [_, _, _, _, _]) rfl (wants_plain rfl) rfl rfl Try.zeroValue44 Try.runUnderlying24 Try.sizeOf44 rfl rfl (by kernel_rfl) ⟨rfl, ot, trivial⟩ (by exact rfl) (fill_full (by exact rfl) (by exact rfl) (by exact rfl)) (fun b86 => ?_)
    refine AD.give (k := 0) (t := 86) (sz := 5) (m := 1) rfl lk rfl rfl rfl (Nat.le_refl _) (by decide) ?_
    refine AD.one (i := 4) (by kernel_rfl) ?_
    refine at_ rfl (still_r1 (mk := Op.load 24) rfl ot (ld_blk (k := 2) (d := .v (.slice (some ⟨bx, 0, none⟩) (L.set i.toNat (⟨lowP p L.length, a62, c62, S62, ai2, ci2, Si2⟩ : PgO)).length cap)) rfl rfl Try.isAgg24 (by rw [List.length_set]; rfl))) ?_
    refine AD.one (i := 7) (by kernel_rfl) ?_
    refine AStep.appendG (ls := (L.set i.toNat (⟨lowP p L.length, a62, c62, S62, ai2, ci2, Si2⟩ : PgO))) (new := [(⟨highP p, ak1, ck1, Sk1, ai1, ci1, Si1⟩ : PgO)]) (Sq := [⟨bx, 44, cap * 5, List.flatMap gO (L.set i.toNat (⟨lowP p L.length, a62, c62, S62, ai2, ci2, Si2⟩ : PgO))⟩]) gO_len gO_one rfl (wants_plain rfl) rfl rfl Try.underlying24 info44_Twe rfl (by decide) ot (ownL_row (by rw [List.length_set]; exact hxl) hxc) (perm_one (k := 3) rfl) ot (by simp) (by simp only [maxLen, List.length_set, List.length_cons, List.length_nil] at *; omega) (by simp only [List.length_set, List.length_cons, List.length_nil] at *; omega) (hT := by intro x0 hx0; have hx0 : x0 ∈ [b7, b6] := hx0; show x0 ∈ (b7 :: b6 :: _ : List Nat); simp only [List.mem_cons, List.not_mem_nil, or_false] at hx0 ⊢; omega) (fun b87 cp87 h187 h287 => ?_)
    refine a1_ 8 rfl nc_ ?_
    refine a1_ 9 rfl (fa_ 0) ?_
    refine AD.one (i := 10) (by kernel_rfl) ?_
    refine AStep.store (k := 3) (cs' := [_, _]) rfl (wants_plain rfl) rfl rfl ot rfl rfl ot rfl rfl Try.sizeOf24 rfl rfl rfl (by intro b hb; simp [bks, St.put] at hb ⊢; try first | exact hb | simp [hb] | (rcases hb with hb | hb <;> simp [hb]) | (rcases hb with hb | hb | hb <;> simp [hb])) ?_
    refine AD.wk (y := ⟨98, [(0, _), (8, _)], (_ :: ⟨b7, 44, 5, [_, _, _, _, _]⟩ :: ⟨b6, 44, 5, [_, _, _, _, _]⟩ :: ⟨b, 26, 2, [_, _]⟩ :: (S62 ++ (Si2 ++ (Si1 ++ (Sk1 ++ ((L.eraseIdx i.toNat).flatMap bO))))))⟩) (Wk.as_ rfl rfl ⟨lk, lk, trivial⟩) rfl ?_
    refine AD.done (by kernel_rfl) ?_
    refine CD.seq ?_
    refine CD.draw (bks _) (by kernel_rfl) (fun _ h => h) ?_
    refine a0_ 0 rfl mv_ ?_
    refine a0_ 2 rfl mv_ ?_
    refine a0_ 3 rfl nc_ ?_
    refine a0_ 4 rfl (fa_ 0) ?_
    refine a0_ 5 rfl (lb_ 3) ?_
    refine a0_ 6 rfl ln_ ?_
    refine a0_ 7 rfl (still_bin (r := .int .i64 (L.length : Nat)) rfl ot opd_const (bin_sub (by rw [List.length_append, List.length_set]; exact (show IntKind.wrap .i64 (((L.length + [(⟨highP p, ak1, ck1, Sk1, ai1, ci1, Si1⟩ : PgO)].length : Nat) : Int) - 1) = _ from by rw [show (((L.length + [(⟨highP p, ak1, ck1, Sk1, ai1, ci1, Si1⟩ : PgO)].length : Nat) : Int) - 1) = (L.length : Int) from by simp]; exact wrap_i64 (by omega) (by omega))))) ?_
    refine AD0.later rfl ?_
    refine AD.one (i := 1) (by kernel_rfl) ?_
    refine AStep.callP rfl (wants_plain rfl) rfl rfl rfl Try.call26 (cloneB_vp (upK p) (by rw [hup]; omega)) ⟨ot, trivial⟩ ?_
    have htl : (S62 ++ (Si2 ++ (Si1 ++ (Sk1 ++ ((L.eraseIdx i.toNat).flatMap bO))))).Perm (((L.set i.toNat (⟨lowP p L.length, a62, c62, S62, ai2, ci2, Si2⟩ : PgO)) ++ [(⟨highP p, ak1, ck1, Sk1, ai1, ci1, Si1⟩ : PgO)]).flatMap bO) := perm_cnt fun f__ => by have hq := perm_sum (perm_put bO hj (⟨lowP p L.length, a62, c62, S62, ai2, ci2, Si2⟩ : PgO)) f__; rw [List.flatMap_append, show [(⟨highP p, ak1, ck1, Sk1, ai1, ci1, Si1⟩ : PgO)].flatMap bO = Sk1 ++ (Si1 ++ []) from by simp [bO]]; simp only [show bO (⟨lowP p L.length, a62, c62, S62, ai2, ci2, Si2⟩ : PgO) = S62 ++ Si2 from rfl, List.map_append, List.map_cons, List.map_nil, List.sum_append, List.sum_cons, List.sum_nil] at *; omega
    refine AD.perm (S' := ⟨b7, 44, 5, gO (⟨highP p, ak1, ck1, Sk1, ai1, ci1, Si1⟩ : PgO)⟩ :: ⟨b6, 44, 5, gO (⟨lowP p L.length, a62, c62, S62, ai2, ci2, Si2⟩ : PgO)⟩ :: ⟨b, 26, 2, [.v (.slice (some ⟨b87, 0, none⟩) ((L.set i.toNat (⟨lowP p L.length, a62, c62, S62, ai2, ci2, Si2⟩ : PgO)) ++ [(⟨highP p, ak1, ck1, Sk1, ai1, ci1, Si1⟩ : PgO)]).length cp87), .v (.int .i64 root)]⟩ :: (([⟨b87, 44, cp87 * 5, List.flatMap gO ((L.set i.toNat (⟨lowP p L.length, a62, c62, S62, ai2, ci2, Si2⟩ : PgO)) ++ [(⟨highP p, ak1, ck1, Sk1, ai1, ci1, Si1⟩ : PgO)])⟩] : List Blk) ++ ((L.set i.toNat (⟨lowP p L.length, a62, c62, S62, ai2, ci2, Si2⟩ : PgO)) ++ [(⟨highP p, ak1, ck1, Sk1, ai1, ci1, Si1⟩ : PgO)]).flatMap bO)) (by exact (List.perm_middle (l₁ := [_, _, _])).symm.trans (List.Perm.cons _ (List.Perm.cons _ (List.Perm.cons _ (List.Perm.cons _ htl))))) ?_
    refine a1_ 8 rfl mv_ ?_
    refine a1_ 9 rfl mv_ ?_
    refine AD.wk (y := ⟨98, [(4, _), (5, _)], (⟨b7, 44, 5, [_, _, _, _, _]⟩ :: ⟨b6, 44, 5, [_, _, _, _, _]⟩ :: ⟨b, 26, 2, [_, _]⟩ :: (([⟨b87, 44, cp87 * 5, List.flatMap gO ((L.set i.toNat (⟨lowP p L.length, a62, c62, S62, ai2, ci2, Si2⟩ : PgO)) ++ [(⟨highP p, ak1, ck1, Sk1, ai1, ci1, Si1⟩ : PgO)])⟩] : List Blk) ++ ((L.set i.toNat (⟨lowP p L.length, a62, c62, S62, ai2, ci2, Si2⟩ : PgO)) ++ [(⟨highP p, ak1, ck1, Sk1, ai1, ci1, Si1⟩ : PgO)]).flatMap bO))⟩) (Wk.as_ rfl rfl ⟨lk, lk, trivial⟩) rfl ?_
    refine AD.done (by kernel_rfl) ?_
    refine CD.ret ?_
    refine ⟨.inr rfl, _, (⟨b, 26, 2, [.v (.slice (some ⟨b87, 0, none⟩) ((L.set i.toNat (⟨lowP p L.length, a62, c62, S62, ai2, ci2, Si2⟩ : PgO)) ++ [(⟨highP p, ak1, ck1, Sk1, ai1, ci1, Si1⟩ : PgO)]).length cp87), .v (.int .i64 root)]⟩ :: ([⟨b87, 44, cp87 * 5, List.flatMap gO ((L.set i.toNat (⟨lowP p L.length, a62, c62, S62, ai2, ci2, Si2⟩ : PgO)) ++ [(⟨highP p, ak1, ck1, Sk1, ai1, ci1, Si1⟩ : PgO)])⟩] ++ ((L.set i.toNat (⟨lowP p L.length, a62, c62, S62, ai2, ci2, Si2⟩ : PgO)) ++ [(⟨highP p, ak1, ck1, Sk1, ai1, ci1, Si1⟩ : PgO)]).flatMap bO)), (by repeat (first | exact List.Sublist.refl _ | apply List.Sublist.cons)), ret_two Try.results30 (res_tmp (Nat.le_of_ble_eq_true rfl) lk) (res_tmp (Nat.le_of_ble_eq_true rfl) lk), ?_⟩
    refine ⟨rfl, ((L.set i.toNat (⟨lowP p L.length, a62, c62, S62, ai2, ci2, Si2⟩ : PgO)) ++ [(⟨highP p, ak1, ck1, Sk1, ai1, ci1, Si1⟩ : PgO)]), some ⟨b87, 0, none⟩, cp87, [⟨b87, 44, cp87 * 5, List.flatMap gO ((L.set i.toNat (⟨lowP p L.length, a62, c62, S62, ai2, ci2, Si2⟩ : PgO)) ++ [(⟨highP p, ak1, ck1, Sk1, ai1, ci1, Si1⟩ : PgO)])⟩], ownL_row h187 h287, fun x hx => ?_, ?_, rfl⟩
    ·rcases List.mem_append.1 hx with hx | hx
     ·rcases List.mem_or_eq_of_mem_set hx with hx | rfl
      ·exact hok x hx
      ·exact ⟨ho62, hoi2⟩
     ·rw [List.mem_singleton] at hx; subst hx; exact ⟨hok1, hoi1⟩
    ·rw [List.map_append, List.map_set]; rfl
  ·skip
   refine AStep.store (k := 1) (cs' := [_, _, _, _, _]) rfl (wants_plain rfl) rfl rfl ot rfl rfl ot rfl rfl Try.sizeOf31 rfl rfl rfl (by intro b hb; simp [bks, St.put] at hb ⊢; try first | exact hb | simp [hb] | (rcases hb with hb | hb <;> simp [hb]) | (rcases hb with hb | hb | hb <;> simp [hb])) ?_
   refine AD.one (i := 5) (by kernel_rfl) ?_
   refine at_ rfl (lb_ 2) ?_
   refine a1_ 6 rfl ln_ ?_
   refine a1_ 9 rfl (fa_ 4) ?_
   refine AD.one (i := 10) (by kernel_rfl) ?_
   refine AStep.store (k := 1) (cs' := [_, _, _, _, _]) rfl (wants_plain rfl) rfl rfl ot rfl rfl ot rfl rfl Try.sizeOf3 rfl rfl rfl (by intro b hb; simp [bks, St.put] at hb ⊢; try first | exact hb | simp [hb] | (rcases hb with hb | hb <;> simp [hb]) | (rcases hb with hb | hb | hb <;> simp [hb])) ?_
   refine AD.wk (y := ⟨98, [(0, _), (1, _), (6, _), (7, _), (8, _)], (⟨b7, 44, 5, [_, _, _, _, _]⟩ :: ⟨b6, 44, 5, [_, _, _, _, _]⟩ :: ⟨b, 26, 2, [_, _]⟩ :: _ :: (S62 ++ (Si2 ++ (Si1 ++ (Sk1 ++ ((L.eraseIdx i.toNat).flatMap bO))))))⟩) (Wk.as_ rfl rfl ⟨lk, lk, lk, lk, lk, trivial⟩) rfl ?_
   refine AD.done (by kernel_rfl) ?_
   refine CD.seq ?_
   refine CD.draw (bks (List.take 3 _)) (by kernel_rfl) (fun _ h => (List.Sublist.map _ (List.take_sublist _ _)).subset h) ?_
   refine a0_ 0 rfl mv_ ?_
   refine a0_ 1 rfl nc_ ?_
   refine a0_ 2 rfl (fa_ 0) ?_
   refine a0_ 3 rfl (lb_ 2) ?_
   refine a0_ 4 rfl mv_ ?_
   refine a0_ 5 rfl (lab_ 1 [_, _, _, _, _]) ?_
   refine a0_ 6 rfl (ix_ 5 (h := by first | exact .l (j := i.toNat) (Int.toNat_of_nonneg hi.1).symm hj | exact .r (j := i.toNat) (Int.toNat_of_nonneg hi.1).symm hj)) ?_
   refine AD0.later rfl ?_
   refine AD.one (i := 7) (by kernel_rfl) ?_
   refine AStep.storeAt (k := 3) (cs' := List.flatMap gO (L.set i.toNat (⟨lowP p L.length, a62, c62, S62, ai2, ci2, Si2⟩ : PgO))) rfl (wants_plain rfl) rfl rfl ot rfl rfl ot rfl rfl Try.sizeOf44 rfl (by show 0 + i.toNat * 5 + 5 ≤ (List.flatMap gO L).length; rw [fm_len gO_len]; omega) (by show setAll (L.flatMap gO) (0 + i.toNat * 5) (gO (⟨lowP p L.length, a62, c62, S62, ai2, ci2, Si2⟩ : PgO)) = _; rw [Nat.zero_add]; exact fm_set gO_len L (⟨lowP p L.length, a62, c62, S62, ai2, ci2, Si2⟩ : PgO) hj) (by intro b hb; simp [bks, St.put] at hb ⊢; try first | exact hb | simp [hb] | (rcases hb with hb | hb <;> simp [hb]) | (rcases hb with hb | hb | hb <;> simp [hb])) ?_
   refine AD.wk (y := ⟨98, [(0, _), (7, _), (8, _)], (⟨b7, 44, 5, [_, _, _, _, _]⟩ :: ⟨b6, 44, 5, [_, _, _, _, _]⟩ :: ⟨b, 26, 2, [_, _]⟩ :: _ :: (S62 ++ (Si2 ++ (Si1 ++ (Sk1 ++ ((L.eraseIdx i.toNat).flatMap bO))))))⟩) (Wk.as_ rfl rfl ⟨lk, lk, lk, trivial⟩) rfl ?_
   refine AD.done (by kernel_rfl) ?_
   refine CD.seq ?_
   refine CD.draw (bks (List.take 2 _)) (by kernel_rfl) (fun _ h => (List.Sublist.map _ (List.take_sublist _ _)).subset h) ?_
   refine a0_ 0 rfl mv_ ?_
   refine a0_ 1 rfl mv_ ?_
   refine a0_ 2 rfl nc_ ?_
   refine a0_ 3 rfl (fa_ 0) ?_
   refine a0_ 5 rfl (lab_ 0 [_, _, _, _, _]) ?_
   refine AD0.later rfl ?_
   refine AD.two (i := 4) (j := 6) (by kernel_rfl) ?_ ?_
   ·skip
    refine at_ rfl (still_r1 (mk := Op.load 24) rfl ot (ld_blk (k := 2) (d := .v (.slice (some ⟨bx, 0, none⟩) (L.set i.toNat (⟨lowP p L.length, a62, c62, S62, ai2, ci2, Si2⟩ : PgO)).length cap)) rfl rfl Try.isAgg24 (by rw [List.length_set]; rfl))) ?_
    refine AD.one (i := 6) (by kernel_rfl) ?_
    refine AStep.bldS (pl := numD 0 [_]) (zvs := [.bool false, .slice none 0 0, .slice none 0 0, .slice none 0 0, .int .i64 0]) (ds := [_, _, _, _, _]) rfl (wants_plain rfl) rfl rfl Try.zeroValue44 Try.runUnderlying24 Try.sizeOf44 rfl rfl (by kernel_rfl) ⟨rfl, ot, trivial⟩ (by exact rfl) (fill_full (by exact rfl) (by exact rfl) (by exact rfl)) (fun b86 => ?_)
    refine AD.give (k := 0) (t := 86) (sz := 5) (m := 1) rfl lk rfl rfl rfl (Nat.le_refl _) (by decide) ?_
    refine AD.one (i := 7) (by kernel_rfl) ?_
    refine AStep.appendG (ls := (L.set i.toNat (⟨lowP p L.length, a62, c62, S62, ai2, ci2, Si2⟩ : PgO))) (new := [(⟨highP p, ak1, ck1, Sk1, ai1, ci1, Si1⟩ : PgO)]) (Sq := [⟨bx, 44, cap * 5, List.flatMap gO (L.set i.toNat (⟨lowP p L.length, a62, c62, S62, ai2, ci2, Si2⟩ : PgO))⟩]) gO_len gO_one rfl (wants_plain rfl) rfl rfl Try.underlying24 info44_Twe rfl (by decide) ot (ownL_row (by rw [List.length_set]; exact hxl) hxc) (perm_one (k := 3) rfl) ot (by simp) (by simp only [maxLen, List.length_set, List.length_cons, List.length_nil] at *; omega) (by simp only [List.length_set, List.length_cons, List.length_nil] at *; omega) (hT := by intro x0 hx0; have hx0 : x0 ∈ [b7, b6] := hx0; show x0 ∈ (b7 :: b6 :: _ : List Nat); simp only [List.mem_cons, List.not_mem_nil, or_false] at hx0 ⊢; omega) (fun b87 cp87 h187 h287 => ?_)
    refine a1_ 8 rfl nc_ ?_
    refine a1_ 9 rfl (fa_ 0) ?_
    refine AD.one (i := 10) (by kernel_rfl) ?_
    refine AStep.store (k := 3) (cs' := [_, _]) rfl (wants_plain rfl) rfl rfl ot rfl rfl ot rfl rfl Try.sizeOf24 rfl rfl rfl (by intro b hb; simp [bks, St.put] at hb ⊢; try first | exact hb | simp [hb] | (rcases hb with hb | hb <;> simp [hb]) | (rcases hb with hb | hb | hb <;> simp [hb])) ?_
    refine AD.wk (y := ⟨98, [(0, _), (8, _)], (_ :: ⟨b7, 44, 5, [_, _, _, _, _]⟩ :: ⟨b6, 44, 5, [_, _, _, _, _]⟩ :: ⟨b, 26, 2, [_, _]⟩ :: (S62 ++ (Si2 ++ (Si1 ++ (Sk1 ++ ((L.eraseIdx i.toNat).flatMap bO))))))⟩) (Wk.as_ rfl rfl ⟨lk, lk, trivial⟩) rfl ?_
    refine AD.done (by kernel_rfl) ?_
    refine CD.seq ?_
    refine CD.draw (bks _) (by kernel_rfl) (fun _ h => h) ?_
    refine a0_ 0 rfl mv_ ?_
    refine a0_ 2 rfl mv_ ?_
    refine a0_ 3 rfl nc_ ?_
    refine a0_ 4 rfl (fa_ 0) ?_
    refine a0_ 5 rfl (lb_ 3) ?_
    refine a0_ 6 rfl ln_ ?_
    refine a0_ 7 rfl (still_bin (r := .int .i64 (L.length : Nat)) rfl ot opd_const (bin_sub (by rw [List.length_append, List.length_set]; exact (show IntKind.wrap .i64 (((L.length + [(⟨highP p, ak1, ck1, Sk1, ai1, ci1, Si1⟩ : PgO)].length : Nat) : Int) - 1) = _ from by rw [show (((L.length + [(⟨highP p, ak1, ck1, Sk1, ai1, ci1, Si1⟩ : PgO)].length : Nat) : Int) - 1) = (L.length : Int) from by simp]; exact wrap_i64 (by omega) (by omega))))) ?_
    refine AD0.later rfl ?_
    refine AD.one (i := 1) (by kernel_rfl) ?_
    refine AStep.callP rfl (wants_plain rfl) rfl rfl rfl Try.call26 (cloneB_vp (upK p) (by rw [hup]; omega)) ⟨ot, trivial⟩ ?_
    have htl : (S62 ++ (Si2 ++ (Si1 ++ (Sk1 ++ ((L.eraseIdx i.toNat).flatMap bO))))).Perm (((L.set i.toNat (⟨lowP p L.length, a62, c62, S62, ai2, ci2, Si2⟩ : PgO)) ++ [(⟨highP p, ak1, ck1, Sk1, ai1, ci1, Si1⟩ : PgO)]).flatMap bO) := perm_cnt fun f__ => by have hq := perm_sum (perm_put bO hj (⟨lowP p L.length, a62, c62, S62, ai2, ci2, Si2⟩ : PgO)) f__; rw [List.flatMap_append, show [(⟨highP p, ak1, ck1, Sk1, ai1, ci1, Si1⟩ : PgO)].flatMap bO = Sk1 ++ (Si1 ++ []) from by simp [bO]]; simp only [show bO (⟨lowP p L.length, a62, c62, S62, ai2, ci2, Si2⟩ : PgO) = S62 ++ Si2 from rfl, List.map_append, List.map_cons, List.map_nil, List.sum_append, List.sum_cons, List.sum_nil] at *; omega
    refine AD.perm (S' := ⟨b7, 44, 5, gO (⟨highP p, ak1, ck1, Sk1, ai1, ci1, Si1⟩ : PgO)⟩ :: ⟨b6, 44, 5, gO (⟨lowP p L.length, a62, c62, S62, ai2, ci2, Si2⟩ : PgO)⟩ :: ⟨b, 26, 2, [.v (.slice (some ⟨b87, 0, none⟩) ((L.set i.toNat (⟨lowP p L.length, a62, c62, S62, ai2, ci2, Si2⟩ : PgO)) ++ [(⟨highP p, ak1, ck1, Sk1, ai1, ci1, Si1⟩ : PgO)]).length cp87), .v (.int .i64 root)]⟩ :: (([⟨b87, 44, cp87 * 5, List.flatMap gO ((L.set i.toNat (⟨lowP p L.length, a62, c62, S62, ai2, ci2, Si2⟩ : PgO)) ++ [(⟨highP p, ak1, ck1, Sk1, ai1, ci1, Si1⟩ : PgO)])⟩] : List Blk) ++ ((L.set i.toNat (⟨lowP p L.length, a62, c62, S62, ai2, ci2, Si2⟩ : PgO)) ++ [(⟨highP p, ak1, ck1, Sk1, ai1, ci1, Si1⟩ : PgO)]).flatMap bO)) (by exact (List.perm_middle (l₁ := [_, _, _])).symm.trans (List.Perm.cons _ (List.Perm.cons _ (List.Perm.cons _ (List.Perm.cons _ htl))))) ?_
    refine a1_ 8 rfl mv_ ?_
    refine a1_ 9 rfl mv_ ?_
    refine AD.wk (y := ⟨98, [(4, _), (5, _)], (⟨b7, 44, 5, [_, _, _, _, _]⟩ :: ⟨b6, 44, 5, [_, _, _, _, _]⟩ :: ⟨b, 26, 2, [_, _]⟩ :: (([⟨b87, 44, cp87 * 5, List.flatMap gO ((L.set i.toNat (⟨lowP p L.length, a62, c62, S62, ai2, ci2, Si2⟩ : PgO)) ++ [(⟨highP p, ak1, ck1, Sk1, ai1, ci1, Si1⟩ : PgO)])⟩] : List Blk) ++ ((L.set i.toNat (⟨lowP p L.length, a62, c62, S62, ai2, ci2, Si2⟩ : PgO)) ++ [(⟨highP p, ak1, ck1, Sk1, ai1, ci1, Si1⟩ : PgO)]).flatMap bO))⟩) (Wk.as_ rfl rfl ⟨lk, lk, trivial⟩) rfl ?_
    refine AD.done (by kernel_rfl) ?_
    refine CD.ret ?_
    refine ⟨.inr rfl, _, (⟨b, 26, 2, [.v (.slice (some ⟨b87, 0, none⟩) ((L.set i.toNat (⟨lowP p L.length, a62, c62, S62, ai2, ci2, Si2⟩ : PgO)) ++ [(⟨highP p, ak1, ck1, Sk1, ai1, ci1, Si1⟩ : PgO)]).length cp87), .v (.int .i64 root)]⟩ :: ([⟨b87, 44, cp87 * 5, List.flatMap gO ((L.set i.toNat (⟨lowP p L.length, a62, c62, S62, ai2, ci2, Si2⟩ : PgO)) ++ [(⟨highP p, ak1, ck1, Sk1, ai1, ci1, Si1⟩ : PgO)])⟩] ++ ((L.set i.toNat (⟨lowP p L.length, a62, c62, S62, ai2, ci2, Si2⟩ : PgO)) ++ [(⟨highP p, ak1, ck1, Sk1, ai1, ci1, Si1⟩ : PgO)]).flatMap bO)), (by repeat (first | exact List.Sublist.refl _ | apply List.Sublist.cons)), ret_two Try.results30 (res_tmp (Nat.le_of_ble_eq_true rfl) lk) (res_tmp (Nat.le_of_ble_eq_true rfl) lk), ?_⟩
    refine ⟨rfl, ((L.set i.toNat (⟨lowP p L.length, a62, c62, S62, ai2, ci2, Si2⟩ : PgO)) ++ [(⟨highP p, ak1, ck1, Sk1, ai1, ci1, Si1⟩ : PgO)]), some ⟨b87, 0, none⟩, cp87, [⟨b87, 44, cp87 * 5, List.flatMap gO ((L.set i.toNat (⟨lowP p L.length, a62, c62, S62, ai2, ci2, Si2⟩ : PgO)) ++ [(⟨highP p, ak1, ck1, Sk1, ai1, ci1, Si1⟩ : PgO)])⟩], ownL_row h187 h287, fun x hx => ?_, ?_, rfl⟩
    ·rcases List.mem_append.1 hx with hx | hx
     ·rcases List.mem_or_eq_of_mem_set hx with hx | rfl
      ·exact hok x hx
      ·exact ⟨ho62, hoi2⟩
     ·rw [List.mem_singleton] at hx; subst hx; exact ⟨hok1, hoi1⟩
    ·rw [List.map_append, List.map_set]; rfl
   ·skip
    refine AStep.bldS (pl := numD 0 [_]) (zvs := [.bool false, .slice none 0 0, .slice none 0 0, .slice none 0 0, .int .i64 0]) (ds := [_, _, _, _, _]) rfl (wants_plain rfl) rfl rfl Try.zeroValue44 Try.runUnderlying24 Try.sizeOf44 rfl rfl (by kernel_rfl) ⟨rfl, ot, trivial⟩ (by exact rfl) (fill_full (by exact rfl) (by exact rfl) (by exact rfl)) (fun b86 => ?_)
    refine AD.give (k := 0) (t := 86) (sz := 5) (m := 1) rfl lk rfl rfl rfl (Nat.le_refl _) (by decide) ?_
    refine AD.one (i := 4) (by kernel_rfl) ?_
    refine at_ rfl (still_r1 (mk := Op.load 24) rfl ot (ld_blk (k := 2) (d := .v (.slice (some ⟨bx, 0, none⟩) (L.set i.toNat (⟨lowP p L.length, a62, c62, S62, ai2, ci2, Si2⟩ : PgO)).length cap)) rfl rfl Try.isAgg24 (by rw [List.length_set]; rfl))) ?_
    refine AD.one (i := 7) (by kernel_rfl) ?_
    refine AStep.appendG (ls := (L.set i.toNat (⟨lowP p L.length, a62, c62, S62, ai2, ci2, Si2⟩ : PgO))) (new := [(⟨highP p, ak1, ck1, Sk1, ai1, ci1, Si1⟩ : PgO)]) (Sq := [⟨bx, 44, cap * 5, List.flatMap gO (L.set i.toNat (⟨lowP p L.length, a62, c62, S62, ai2, ci2, Si2⟩ : PgO))⟩]) gO_len gO_one rfl (wants_plain rfl) rfl rfl Try.underlying24 info44_Twe rfl (by decide) ot (ownL_row (by rw [List.length_set]; exact hxl) hxc) (perm_one (k := 3) rfl) ot (by simp) (by simp only [maxLen, List.length_set, List.length_cons, List.length_nil] at *; omega) (by simp only [List.length_set, List.length_cons, List.length_nil] at *; omega) (hT := by intro x0 hx0; have hx0 : x0 ∈ [b7, b6] := hx0; show x0 ∈ (b7 :: b6 :: _ : List Nat); simp only [List.mem_cons, List.not_mem_nil, or_false] at hx0 ⊢; omega) (fun b87 cp87 h187 h287 => ?_)
    refine a1_ 8 rfl nc_ ?_
    refine a1_ 9 rfl (fa_ 0) ?_
    refine AD.one (i := 10) (by kernel_rfl) ?_
    refine AStep.store (k := 3) (cs' := [_, _]) rfl (wants_plain rfl) rfl rfl ot rfl rfl ot rfl rfl Try.sizeOf24 rfl rfl rfl (by intro b hb; simp [bks, St.put] at hb ⊢; try first | exact hb | simp [hb] | (rcases hb with hb | hb <;> simp [hb]) | (rcases hb with hb | hb | hb <;> simp [hb])) ?_
    refine AD.wk (y := ⟨98, [(0, _), (8, _)], (_ :: ⟨b7, 44, 5, [_, _, _, _, _]⟩ :: ⟨b6, 44, 5, [_, _, _, _, _]⟩ :: ⟨b, 26, 2, [_, _]⟩ :: (S62 ++ (Si2 ++ (Si1 ++ (Sk1 ++ ((L.eraseIdx i.toNat).flatMap bO))))))⟩) (Wk.as_ rfl rfl ⟨lk, lk, trivial⟩) rfl ?_
    refine AD.done (by kernel_rfl) ?_
    refine CD.seq ?_
    refine CD.draw (bks _) (by kernel_rfl) (fun _ h => h) ?_
    refine a0_ 0 rfl mv_ ?_
    refine a0_ 2 rfl mv_ ?_
    refine a0_ 3 rfl nc_ ?_
    refine a0_ 4 rfl (fa_ 0) ?_
    refine a0_ 5 rfl (lb_ 3) ?_
    refine a0_ 6 rfl ln_ ?_
    refine a0_ 7 rfl (still_bin (r := .int .i64 (L.length : Nat)) rfl ot opd_const (bin_sub (by rw [List.length_append, List.length_set]; exact (show IntKind.wrap .i64 (((L.length + [(⟨highP p, ak1, ck1, Sk1, ai1, ci1, Si1⟩ : PgO)].length : Nat) : Int) - 1) = _ from by rw [show (((L.length + [(⟨highP p, ak1, ck1, Sk1, ai1, ci1, Si1⟩ : PgO)].length : Nat) : Int) - 1) = (L.length : Int) from by simp]; exact wrap_i64 (by omega) (by omega))))) ?_
    refine AD0.later rfl ?_
    refine AD.one (i := 1) (by kernel_rfl) ?_
    refine AStep.callP rfl (wants_plain rfl) rfl rfl rfl Try.call26 (cloneB_vp (upK p) (by rw [hup]; omega)) ⟨ot, trivial⟩ ?_
    have htl : (S62 ++ (Si2 ++ (Si1 ++ (Sk1 ++ ((L.eraseIdx i.toNat).flatMap bO))))).Perm (((L.set i.toNat (⟨lowP p L.length, a62, c62, S62, ai2, ci2, Si2⟩ : PgO)) ++ [(⟨highP p, ak1, ck1, Sk1, ai1, ci1, Si1⟩ : PgO)]).flatMap bO) := perm_cnt fun f__ => by have hq := perm_sum (perm_put bO hj (⟨lowP p L.length, a62, c62, S62, ai2, ci2, Si2⟩ : PgO)) f__; rw [List.flatMap_append, show [(⟨highP p, ak1, ck1, Sk1, ai1, ci1, Si1⟩ : PgO)].flatMap bO = Sk1 ++ (Si1 ++ []) from by simp [bO]]; simp only [show bO (⟨lowP p L.length, a62, c62, S62, ai2, ci2, Si2⟩ : PgO) = S62 ++ Si2 from rfl, List.map_append, List.map_cons, List.map_nil, List.sum_append, List.sum_cons, List.sum_nil] at *; omega
    refine AD.perm (S' := ⟨b7, 44, 5, gO (⟨highP p, ak1, ck1, Sk1, ai1, ci1, Si1⟩ : PgO)⟩ :: ⟨b6, 44, 5, gO (⟨lowP p L.length, a62, c62, S62, ai2, ci2, Si2⟩ : PgO)⟩ :: ⟨b, 26, 2, [.v (.slice (some ⟨b87, 0, none⟩) ((L.set i.toNat (⟨lowP p L.length, a62, c62, S62, ai2, ci2, Si2⟩ : PgO)) ++ [(⟨highP p, ak1, ck1, Sk1, ai1, ci1, Si1⟩ : PgO)]).length cp87), .v (.int .i64 root)]⟩ :: (([⟨b87, 44, cp87 * 5, List.flatMap gO ((L.set i.toNat (⟨lowP p L.length, a62, c62, S62, ai2, ci2, Si2⟩ : PgO)) ++ [(⟨highP p, ak1, ck1, Sk1, ai1, ci1, Si1⟩ : PgO)])⟩] : List Blk) ++ ((L.set i.toNat (⟨lowP p L.length, a62, c62, S62, ai2, ci2, Si2⟩ : PgO)) ++ [(⟨highP p, ak1, ck1, Sk1, ai1, ci1, Si1⟩ : PgO)]).flatMap bO)) (by exact (List.perm_middle (l₁ := [_, _, _])).symm.trans (List.Perm.cons _ (List.Perm.cons _ (List.Perm.cons _ (List.Perm.cons _ htl))))) ?_
    refine a1_ 8 rfl mv_ ?_
    refine a1_ 9 rfl mv_ ?_
    refine AD.wk (y := ⟨98, [(4, _), (5, _)], (⟨b7, 44, 5, [_, _, _, _, _]⟩ :: ⟨b6, 44, 5, [_, _, _, _, _]⟩ :: ⟨b, 26, 2, [_, _]⟩ :: (([⟨b87, 44, cp87 * 5, List.flatMap gO ((L.set i.toNat (⟨lowP p L.length, a62, c62, S62, ai2, ci2, Si2⟩ : PgO)) ++ [(⟨highP p, ak1, ck1, Sk1, ai1, ci1, Si1⟩ : PgO)])⟩] : List Blk) ++ ((L.set i.toNat (⟨lowP p L.length, a62, c62, S62, ai2, ci2, Si2⟩ : PgO)) ++ [(⟨highP p, ak1, ck1, Sk1, ai1, ci1, Si1⟩ : PgO)]).flatMap bO))⟩) (Wk.as_ rfl rfl ⟨lk, lk, trivial⟩) rfl ?_
    refine AD.done (by kernel_rfl) ?_
    refine CD.ret ?_
    refine ⟨.inr rfl, _, (⟨b, 26, 2, [.v (.slice (some ⟨b87, 0, none⟩) ((L.set i.toNat (⟨lowP p L.length, a62, c62, S62, ai2, ci2, Si2⟩ : PgO)) ++ [(⟨highP p, ak1, ck1, Sk1, ai1, ci1, Si1⟩ : PgO)]).length cp87), .v (.int .i64 root)]⟩ :: ([⟨b87, 44, cp87 * 5, List.flatMap gO ((L.set i.toNat (⟨lowP p L.length, a62, c62, S62, ai2, ci2, Si2⟩ : PgO)) ++ [(⟨highP p, ak1, ck1, Sk1, ai1, ci1, Si1⟩ : PgO)])⟩] ++ ((L.set i.toNat (⟨lowP p L.length, a62, c62, S62, ai2, ci2, Si2⟩ : PgO)) ++ [(⟨highP p, ak1, ck1, Sk1, ai1, ci1, Si1⟩ : PgO)]).flatMap bO)), (by repeat (first | exact List.Sublist.refl _ | apply List.Sublist.cons)), ret_two Try.results30 (res_tmp (Nat.le_of_ble_eq_true rfl) lk) (res_tmp (Nat.le_of_ble_eq_true rfl) lk), ?_⟩
    refine ⟨rfl, ((L.set i.toNat (⟨lowP p L.length, a62, c62, S62, ai2, ci2, Si2⟩ : PgO)) ++ [(⟨highP p, ak1, ck1, Sk1, ai1, ci1, Si1⟩ : PgO)]), some ⟨b87, 0, none⟩, cp87, [⟨b87, 44, cp87 * 5, List.flatMap gO ((L.set i.toNat (⟨lowP p L.length, a62, c62, S62, ai2, ci2, Si2⟩ : PgO)) ++ [(⟨highP p, ak1, ck1, Sk1, ai1, ci1, Si1⟩ : PgO)])⟩], ownL_row h187 h287, fun x hx => ?_, ?_, rfl⟩
    ·rcases List.mem_append.1 hx with hx | hx
     ·rcases List.mem_or_eq_of_mem_set hx with hx | rfl
      ·exact hok x hx
      ·exact ⟨ho62, hoi2⟩
     ·rw [List.mem_singleton] at hx; subst hx; exact ⟨hok1, hoi1⟩
    ·rw [List.map_append, List.map_set]; rfl
 ·skip
  refine at_ rfl (lb_ 2) ?_
  refine a1_ 6 rfl ln_ ?_
  refine AD.one (i := 1) (by kernel_rfl) ?_
  refine AStep.callP rfl (wants_plain rfl) rfl rfl rfl Try.call26 (cloneB_vp (upK p) (by rw [hup]; omega)) ⟨ot, trivial⟩ ?_
  refine a1_ 7 rfl (fa_ 3) ?_
  refine AD.one (i := 8) (by kernel_rfl) ?_
  refine AStep.store (k := 1) (cs' := [_, _, _, _, _]) rfl (wants_plain rfl) rfl rfl ot rfl rfl ot rfl rfl Try.sizeOf31 rfl rfl rfl (by intro b hb; simp [bks, St.put] at hb ⊢; try first | exact hb | simp [hb] | (rcases hb with hb | hb <;> simp [hb]) | (rcases hb with hb | hb | hb <;> simp [hb])) ?_
  refine a1_ 9 rfl (fa_ 4) ?_
  refine AD.one (i := 10) (by kernel_rfl) ?_
  refine AStep.store (k := 1) (cs' := [_, _, _, _, _]) rfl (wants_plain rfl) rfl rfl ot rfl rfl ot rfl rfl Try.sizeOf3 rfl rfl rfl (by intro b hb; simp [bks, St.put] at hb ⊢; try first | exact hb | simp [hb] | (rcases hb with hb | hb <;> simp [hb]) | (rcases hb with hb | hb | hb <;> simp [hb])) ?_
  refine AD.wk (y := ⟨98, [(0, _), (1, _), (6, _), (7, _), (8, _)], (⟨b7, 44, 5, [_, _, _, _, _]⟩ :: ⟨b6, 44, 5, [_, _, _, _, _]⟩ :: ⟨b, 26, 2, [_, _]⟩ :: _ :: (S62 ++ (Si2 ++ (Si1 ++ (Sk1 ++ ((L.eraseIdx i.toNat).flatMap bO))))))⟩) (Wk.as_ rfl rfl ⟨lk, lk, lk, lk, lk, trivial⟩) rfl ?_
  refine AD.done (by kernel_rfl) ?_
  refine CD.seq ?_
  refine CD.draw (bks (List.take 3 _)) (by kernel_rfl) (fun _ h => (List.Sublist.map _ (List.take_sublist _ _)).subset h) ?_
  refine a0_ 0 rfl mv_ ?_
  refine a0_ 1 rfl nc_ ?_
  refine a0_ 2 rfl (fa_ 0) ?_
  refine a0_ 3 rfl (lb_ 2) ?_
  refine a0_ 4 rfl mv_ ?_
  refine a0_ 5 rfl (lab_ 1 [_, _, _, _, _]) ?_
  refine a0_ 6 rfl (ix_ 5 (h := by first | exact .l (j := i.toNat) (Int.toNat_of_nonneg hi.1).symm hj | exact .r (j := i.toNat) (Int.toNat_of_nonneg hi.1).symm hj)) ?_
  refine AD0.later rfl ?_
  refine AD.one (i := 7) (by kernel_rfl) ?_
  refine AStep.storeAt (k := 3) (cs' := List.flatMap gO (L.set i.toNat (⟨lowP p L.length, a62, c62, S62, ai2, ci2, Si2⟩ : PgO))) rfl (wants_plain rfl) rfl rfl ot rfl rfl ot rfl rfl Try.sizeOf44 rfl (by show 0 + i.toNat * 5 + 5 ≤ (List.flatMap gO L).length; rw [fm_len gO_len]; omega) (by show setAll (L.flatMap gO) (0 + i.toNat * 5) (gO (⟨lowP p L.length, a62, c62, S62, ai2, ci2, Si2⟩ : PgO)) = _; rw [Nat.zero_add]; exact fm_set gO_len L (⟨lowP p L.length, a62, c62, S62, ai2, ci2, Si2⟩ : PgO) hj) (by intro b hb; simp [bks, St.put] at hb ⊢; try first | exact hb | simp [hb] | (rcases hb with hb | hb <;> simp [hb]) | (rcases hb with hb | hb | hb <;> simp [hb])) ?_
  refine AD.wk (y := ⟨98, [(0, _), (7, _), (8, _)], (⟨b7, 44, 5, [_, _, _, _, _]⟩ :: ⟨b6, 44, 5, [_, _, _, _, _]⟩ :: ⟨b, 26, 2, [_, _]⟩ :: _ :: (S62 ++ (Si2 ++ (Si1 ++ (Sk1 ++ ((L.eraseIdx i.toNat).flatMap bO))))))⟩) (Wk.as_ rfl rfl ⟨lk, lk, lk, trivial⟩) rfl ?_
  refine AD.done (by kernel_rfl) ?_
  refine CD.seq ?_
  refine CD.draw (bks (List.take 2 _)) (by kernel_rfl) (fun _ h => (List.Sublist.map _ (List.take_sublist _ _)).subset h) ?_
  refine a0_ 0 rfl mv_ ?_
  refine a0_ 1 rfl mv_ ?_
  refine a0_ 2 rfl nc_ ?_
  refine a0_ 3 rfl (fa_ 0) ?_
  refine a0_ 5 rfl (lab_ 0 [_, _, _, _, _]) ?_
  refine AD0.later rfl ?_
  refine AD.two (i := 4) (j := 6) (by kernel_rfl) ?_ ?_
  ·skip
   refine at_ rfl (still_r1 (mk := Op.load 24) rfl ot (ld_blk (k := 2) (d := .v (.slice (some ⟨bx, 0, none⟩) (L.set i.toNat (⟨lowP p L.length, a62, c62, S62, ai2, ci2, Si2⟩ : PgO)).length cap)) rfl rfl Try.isAgg24 (by rw [List.length_set]; rfl))) ?_
   refine AD.one (i := 6) (by kernel_rfl) ?_
   refine AStep.bldS (pl := numD 0 [_]) (zvs := [.bool false, .slice none 0 0, .slice none 0 0, .slice none 0 0, .int .i64 0]) (ds := [_, _, _, _, _]) rfl (wants_plain rfl) rfl rfl Try.zeroValue44 Try.runUnderlying24 Try.sizeOf44 rfl rfl (by kernel_rfl) ⟨rfl, ot, trivial⟩ (by exact rfl) (fill_full (by exact rfl) (by exact rfl) (by exact rfl)) (fun b86 => ?_)
   refine AD.give (k := 0) (t := 86) (sz := 5) (m := 1) rfl lk rfl rfl rfl (Nat.le_refl _) (by decide) ?_
   refine AD.one (i := 7) (by kernel_rfl) ?_
   refine AStep.appendG (ls := (L.set i.toNat (⟨lowP p L.length, a62, c62, S62, ai2, ci2, Si2⟩ : PgO))) (new := [(⟨highP p, ak1, ck1, Sk1, ai1, ci1, Si1⟩ : PgO)]) (Sq := [⟨bx, 44, cap * 5, List.flatMap gO (L.set i.toNat (⟨lowP p L.length, a62, c62, S62, ai2, ci2, Si2⟩ : PgO))⟩]) gO_len gO_one rfl (wants_plain rfl) rfl rfl Try.underlying24 info44_Twe rfl (by decide) ot (ownL_row (by rw [List.length_set]; exact hxl) hxc) (perm_one (k := 3) rfl) ot (by simp) (by simp only [maxLen, List.length_set, List.length_cons, List.length_nil] at *; omega) (by simp only [List.length_set, List.length_cons, List.length_nil] at *; omega) (hT := by intro x0 hx0; have hx0 : x0 ∈ [b7, b6] := hx0; show x0 ∈ (b7 :: b6 :: _ : List Nat); simp only [List.mem_cons, List.not_mem_nil, or_false] at hx0 ⊢; omega) (fun b87 cp87 h187 h287 => ?_)
   refine a1_ 8 rfl nc_ ?_
   refine a1_ 9 rfl (fa_ 0) ?_
   refine AD.one (i := 10) (by kernel_rfl) ?_
   refine AStep.store (k := 3) (cs' := [_, _]) rfl (wants_plain rfl) rfl rfl ot rfl rfl ot rfl rfl Try.sizeOf24 rfl rfl rfl (by intro b hb; simp [bks, St.put] at hb ⊢; try first | exact hb | simp [hb] | (rcases hb with hb | hb <;> simp [hb]) | (rcases hb with hb | hb | hb <;> simp [hb])) ?_
   refine AD.wk (y := ⟨98, [(0, _), (8, _)], (_ :: ⟨b7, 44, 5, [_, _, _, _, _]⟩ :: ⟨b6, 44, 5, [_, _, _, _, _]⟩ :: ⟨b, 26, 2, [_, _]⟩ :: (S62 ++ (Si2 ++ (Si1 ++ (Sk1 ++ ((L.eraseIdx i.toNat).flatMap bO))))))⟩) (Wk.as_ rfl rfl ⟨lk, lk, trivial⟩) rfl ?_
   refine AD.done (by kernel_rfl) ?_
   refine CD.seq ?_
   refine CD.draw (bks _) (by kernel_rfl) (fun _ h => h) ?_
   refine a0_ 0 rfl mv_ ?_
   refine a0_ 2 rfl mv_ ?_
   refine a0_ 3 rfl nc_ ?_
   refine a0_ 4 rfl (fa_ 0) ?_
   refine a0_ 5 rfl (lb_ 3) ?_
   refine a0_ 6 rfl ln_ ?_
   refine a0_ 7 rfl (still_bin (r := .int .i64 (L.length : Nat)) rfl ot opd_const (bin_sub (by rw [List.length_append, List.length_set]; exact (show IntKind.wrap .i64 (((L.length + [(⟨highP p, ak1, ck1, Sk1, ai1, ci1, Si1⟩ : PgO)].length : Nat) : Int) - 1) = _ from by rw [show (((L.length + [(⟨highP p, ak1, ck1, Sk1, ai1, ci1, Si1⟩ : PgO)].length : Nat) : Int) - 1) = (L.length : Int) from by simp]; exact wrap_i64 (by omega) (by omega))))) ?_
   refine AD0.later rfl ?_
   refine AD.one (i := 1) (by kernel_rfl) ?_
   refine AStep.callP rfl (wants_plain rfl) rfl rfl rfl Try.call26 (cloneB_vp (upK p) (by rw [hup]; omega)) ⟨ot, trivial⟩ ?_
   have htl : (S62 ++ (Si2 ++ (Si1 ++ (Sk1 ++ ((L.eraseIdx i.toNat).flatMap bO))))).Perm (((L.set i.toNat (⟨lowP p L.length, a62, c62, S62, ai2, ci2, Si2⟩ : PgO)) ++ [(⟨highP p, ak1, ck1, Sk1, ai1, ci1, Si1⟩ : PgO)]).flatMap bO) := perm_cnt fun f__ => by have hq := perm_sum (perm_put bO hj (⟨lowP p L.length, a62, c62, S62, ai2, ci2, Si2⟩ : PgO)) f__; rw [List.flatMap_append, show [(⟨highP p, ak1, ck1, Sk1, ai1, ci1, Si1⟩ : PgO)].flatMap bO = Sk1 ++ (Si1 ++ []) from by simp [bO]]; simp only [show bO (⟨lowP p L.length, a62, c62, S62, ai2, ci2, Si2⟩ : PgO) = S62 ++ Si2 from rfl, List.map_append, List.map_cons, List.map_nil, List.sum_append, List.sum_cons, List.sum_nil] at *; omega
   refine AD.perm (S' := ⟨b7, 44, 5, gO (⟨highP p, ak1, ck1, Sk1, ai1, ci1, Si1⟩ : PgO)⟩ :: ⟨b6, 44, 5, gO (⟨lowP p L.length, a62, c62, S62, ai2, ci2, Si2⟩ : PgO)⟩ :: ⟨b, 26, 2, [.v (.slice (some ⟨b87, 0, none⟩) ((L.set i.toNat (⟨lowP p L.length, a62, c62, S62, ai2, ci2, Si2⟩ : PgO)) ++ [(⟨highP p, ak1, ck1, Sk1, ai1, ci1, Si1⟩ : PgO)]).length cp87), .v (.int .i64 root)]⟩ :: (([⟨b87, 44, cp87 * 5, List.flatMap gO ((L.set i.toNat (⟨lowP p L.length, a62, c62, S62, ai2, ci2, Si2⟩ : PgO)) ++ [(⟨highP p, ak1, ck1, Sk1, ai1, ci1, Si1⟩ : PgO)])⟩] : List Blk) ++ ((L.set i.toNat (⟨lowP p L.length, a62, c62, S62, ai2, ci2, Si2⟩ : PgO)) ++ [(⟨highP p, ak1, ck1, Sk1, ai1, ci1, Si1⟩ : PgO)]).flatMap bO)) (by exact (List.perm_middle (l₁ := [_, _, _])).symm.trans (List.Perm.cons _ (List.Perm.cons _ (List.Perm.cons _ (List.Perm.cons _ htl))))) ?_
   refine a1_ 8 rfl mv_ ?_
   refine a1_ 9 rfl mv_ ?_
   refine AD.wk (y := ⟨98, [(4, _), (5, _)], (⟨b7, 44, 5, [_, _, _, _, _]⟩ :: ⟨b6, 44, 5, [_, _, _, _, _]⟩ :: ⟨b, 26, 2, [_, _]⟩ :: (([⟨b87, 44, cp87 * 5, List.flatMap gO ((L.set i.toNat (⟨lowP p L.length, a62, c62, S62, ai2, ci2, Si2⟩ : PgO)) ++ [(⟨highP p, ak1, ck1, Sk1, ai1, ci1, Si1⟩ : PgO)])⟩] : List Blk) ++ ((L.set i.toNat (⟨lowP p L.length, a62, c62, S62, ai2, ci2, Si2⟩ : PgO)) ++ [(⟨highP p, ak1, ck1, Sk1, ai1, ci1, Si1⟩ : PgO)]).flatMap bO))⟩) (Wk.as_ rfl rfl ⟨lk, lk, trivial⟩) rfl ?_
   refine AD.done (by kernel_rfl) ?_
   refine CD.ret ?_
   refine ⟨.inr rfl, _, (⟨b, 26, 2, [.v (.slice (some ⟨b87, 0, none⟩) ((L.set i.toNat (⟨lowP p L.length, a62, c62, S62, ai2, ci2, Si2⟩ : PgO)) ++ [(⟨highP p, ak1, ck1, Sk1, ai1, ci1, Si1⟩ : PgO)]).length cp87), .v (.int .i64 root)]⟩ :: ([⟨b87, 44, cp87 * 5, List.flatMap gO ((L.set i.toNat (⟨lowP p L.length, a62, c62, S62, ai2, ci2, Si2⟩ : PgO)) ++ [(⟨highP p, ak1, ck1, Sk1, ai1, ci1, Si1⟩ : PgO)])⟩] ++ ((L.set i.toNat (⟨lowP p L.length, a62, c62, S62, ai2, ci2, Si2⟩ : PgO)) ++ [(⟨highP p, ak1, ck1, Sk1, ai1, ci1, Si1⟩ : PgO)]).flatMap bO)), (by repeat (first | exact List.Sublist.refl _ | apply List.Sublist.cons)), ret_two Try.results30 (res_tmp (Nat.le_of_ble_eq_true rfl) lk) (res_tmp (Nat.le_of_ble_eq_true rfl) lk), ?_⟩
   refine ⟨rfl, ((L.set i.toNat (⟨lowP p L.length, a62, c62, S62, ai2, ci2, Si2⟩ : PgO)) ++ [(⟨highP p, ak1, ck1, Sk1, ai1, ci1, Si1⟩ : PgO)]), some ⟨b87, 0, none⟩, cp87, [⟨b87, 44, cp87 * 5, List.flatMap gO ((L.set i.toNat (⟨lowP p L.length, a62, c62, S62, ai2, ci2, Si2⟩ : PgO)) ++ [(⟨highP p, ak1, ck1, Sk1, ai1, ci1, Si1⟩ : PgO)])⟩], ownL_row h187 h287, fun x hx => ?_, ?_, rfl⟩
   ·rcases List.mem_append.1 hx with hx | hx
    ·rcases List.mem_or_eq_of_mem_set hx with hx | rfl
     ·exact hok x hx
     ·exact ⟨ho62, hoi2⟩
    ·rw [List.mem_singleton] at hx; subst hx; exact ⟨hok1, hoi1⟩
   ·rw [List.map_append, List.map_set]; rfl
  ·skip
   refine AStep.bldS (pl := numD 0 [_]) (zvs := [.bool false, .slice none 0 0, .slice none 0 0, .slice none 0 0, .int .i64 0]) (ds := [_, _, _, _, _]) rfl (wants_plain rfl) rfl rfl Try.zeroValue44 Try.runUnderlying24 Try.sizeOf44 rfl rfl (by kernel_rfl) ⟨rfl, ot, trivial⟩ (by exact rfl) (fill_full (by exact rfl) (by exact rfl) (by exact rfl)) (fun b86 => ?_)
   refine AD.give (k := 0) (t := 86) (sz := 5) (m := 1) rfl lk rfl rfl rfl (Nat.le_refl _) (by decide) ?_
   refine AD.one (i := 4) (by kernel_rfl) ?_
   refine at_ rfl (still_r1 (mk := Op.load 24) rfl ot (ld_blk (k := 2) (d := .v (.slice (some ⟨bx, 0, none⟩) (L.set i.toNat (⟨lowP p L.length, a62, c62, S62, ai2, ci2, Si2⟩ : PgO)).length cap)) rfl rfl Try.isAgg24 (by rw [List.length_set]; rfl))) ?_
   refine AD.one (i := 7) (by kernel_rfl) ?_
   refine AStep.appendG (ls := (L.set i.toNat (⟨lowP p L.length, a62, c62, S62, ai2, ci2, Si2⟩ : PgO))) (new := [(⟨highP p, ak1, ck1, Sk1, ai1, ci1, Si1⟩ : PgO)]) (Sq := [⟨bx, 44, cap * 5, List.flatMap gO (L.set i.toNat (⟨lowP p L.length, a62, c62, S62, ai2, ci2, Si2⟩ : PgO))⟩]) gO_len gO_one rfl (wants_plain rfl) rfl rfl Try.underlying24 info44_Twe rfl (by decide) ot (ownL_row (by rw [List.length_set]; exact hxl) hxc) (perm_one (k := 3) rfl) ot (by simp) (by simp only [maxLen, List.length_set, List.length_cons, List.length_nil] at *; omega) (by simp only [List.length_set, List.length_cons, List.length_nil] at *; omega) (hT := by intro x0 hx0; have hx0 : x0 ∈ [b7, b6] := hx0; show x0 ∈ (b7 :: b6 :: _ : List Nat); simp only [List.mem_cons, List.not_mem_nil, or_false] at hx0 ⊢; omega) (fun b87 cp87 h187 h287 => ?_)
   refine a1_ 8 rfl nc_ ?_
   refine a1_ 9 rfl (fa_ 0) ?_
   refine AD.one (i := 10) (by kernel_rfl) ?_
   refine AStep.store (k := 3) (cs' := [_, _]) rfl (wants_plain rfl) rfl rfl ot rfl rfl ot rfl rfl Try.sizeOf24 rfl rfl rfl (by intro b hb; simp [bks, St.put] at hb ⊢; try first | exact hb | simp [hb] | (rcases hb with hb | hb <;> simp [hb]) | (rcases hb with hb | hb | hb <;> simp [hb])) ?_
   refine AD.wk (y := ⟨98, [(0, _), (8, _)], (_ :: ⟨b7, 44, 5, [_, _, _, _, _]⟩ :: ⟨b6, 44, 5, [_, _, _, _, _]⟩ :: ⟨b, 26, 2, [_, _]⟩ :: (S62 ++ (Si2 ++ (Si1 ++ (Sk1 ++ ((L.eraseIdx i.toNat).flatMap bO))))))⟩) (Wk.as_ rfl rfl ⟨lk, lk, trivial⟩) rfl ?_
   refine AD.done (by kernel_rfl) ?_
   refine CD.seq ?_
   refine CD.draw (bks _) (by kernel_rfl) (fun _ h => h) ?_
   refine a0_ 0 rfl mv_ ?_
   refine a0_ 2 rfl mv_ ?_
   refine a0_ 3 rfl nc_ ?_
   refine a0_ 4 rfl (fa_ 0) ?_
   refine a0_ 5 rfl (lb_ 3) ?_
   refine a0_ 6 rfl ln_ ?_
   refine a0_ 7 rfl (still_bin (r := .int .i64 (L.length : Nat)) rfl ot opd_const (bin_sub (by rw [List.length_append, List.length_set]; exact (show IntKind.wrap .i64 (((L.length + [(⟨highP p, ak1, ck1, Sk1, ai1, ci1, Si1⟩ : PgO)].length : Nat) : Int) - 1) = _ from by rw [show (((L.length + [(⟨highP p, ak1, ck1, Sk1, ai1, ci1, Si1⟩ : PgO)].length : Nat) : Int) - 1) = (L.length : Int) from by simp]; exact wrap_i64 (by omega) (by omega))))) ?_
   refine AD0.later rfl ?_
   refine AD.one (i := 1) (by kernel_rfl) ?_
   refine AStep.callP rfl (wants_plain rfl) rfl rfl rfl Try.call26 (cloneB_vp (upK p) (by rw [hup]; omega)) ⟨ot, trivial⟩ ?_
   have htl : (S62 ++ (Si2 ++ (Si1 ++ (Sk1 ++ ((L.eraseIdx i.toNat).flatMap bO))))).Perm (((L.set i.toNat (⟨lowP p L.length, a62, c62, S62, ai2, ci2, Si2⟩ : PgO)) ++ [(⟨highP p, ak1, ck1, Sk1, ai1, ci1, Si1⟩ : PgO)]).flatMap bO) := perm_cnt fun f__ => by have hq := perm_sum (perm_put bO hj (⟨lowP p L.length, a62, c62, S62, ai2, ci2, Si2⟩ : PgO)) f__; rw [List.flatMap_append, show [(⟨highP p, ak1, ck1, Sk1, ai1, ci1, Si1⟩ : PgO)].flatMap bO = Sk1 ++ (Si1 ++ []) from by simp [bO]]; simp only [show bO (⟨lowP p L.length, a62, c62, S62, ai2, ci2, Si2⟩ : PgO) = S62 ++ Si2 from rfl, List.map_append, List.map_cons, List.map_nil, List.sum_append, List.sum_cons, List.sum_nil] at *; omega
   refine AD.perm (S' := ⟨b7, 44, 5, gO (⟨highP p, ak1, ck1, Sk1, ai1, ci1, Si1⟩ : PgO)⟩ :: ⟨b6, 44, 5, gO (⟨lowP p L.length, a62, c62, S62, ai2, ci2, Si2⟩ : PgO)⟩ :: ⟨b, 26, 2, [.v (.slice (some ⟨b87, 0, none⟩) ((L.set i.toNat (⟨lowP p L.length, a62, c62, S62, ai2, ci2, Si2⟩ : PgO)) ++ [(⟨highP p, ak1, ck1, Sk1, ai1, ci1, Si1⟩ : PgO)]).length cp87), .v (.int .i64 root)]⟩ :: (([⟨b87, 44, cp87 * 5, List.flatMap gO ((L.set i.toNat (⟨lowP p L.length, a62, c62, S62, ai2, ci2, Si2⟩ : PgO)) ++ [(⟨highP p, ak1, ck1, Sk1, ai1, ci1, Si1⟩ : PgO)])⟩] : List Blk) ++ ((L.set i.toNat (⟨lowP p L.length, a62, c62, S62, ai2, ci2, Si2⟩ : PgO)) ++ [(⟨highP p, ak1, ck1, Sk1, ai1, ci1, Si1⟩ : PgO)]).flatMap bO)) (by exact (List.perm_middle (l₁ := [_, _, _])).symm.trans (List.Perm.cons _ (List.Perm.cons _ (List.Perm.cons _ (List.Perm.cons _ htl))))) ?_
   refine a1_ 8 rfl mv_ ?_
   refine a1_ 9 rfl mv_ ?_
   refine AD.wk (y := ⟨98, [(4, _), (5, _)], (⟨b7, 44, 5, [_, _, _, _, _]⟩ :: ⟨b6, 44, 5, [_, _, _, _, _]⟩ :: ⟨b, 26, 2, [_, _]⟩ :: (([⟨b87, 44, cp87 * 5, List.flatMap gO ((L.set i.toNat (⟨lowP p L.length, a62, c62, S62, ai2, ci2, Si2⟩ : PgO)) ++ [(⟨highP p, ak1, ck1, Sk1, ai1, ci1, Si1⟩ : PgO)])⟩] : List Blk) ++ ((L.set i.toNat (⟨lowP p L.length, a62, c62, S62, ai2, ci2, Si2⟩ : PgO)) ++ [(⟨highP p, ak1, ck1, Sk1, ai1, ci1, Si1⟩ : PgO)]).flatMap bO))⟩) (Wk.as_ rfl rfl ⟨lk, lk, trivial⟩) rfl ?_
   refine AD.done (by kernel_rfl) ?_
   refine CD.ret ?_
   refine ⟨.inr rfl, _, (⟨b, 26, 2, [.v (.slice (some ⟨b87, 0, none⟩) ((L.set i.toNat (⟨lowP p L.length, a62, c62, S62, ai2, ci2, Si2⟩ : PgO)) ++ [(⟨highP p, ak1, ck1, Sk1, ai1, ci1, Si1⟩ : PgO)]).length cp87), .v (.int .i64 root)]⟩ :: ([⟨b87, 44, cp87 * 5, List.flatMap gO ((L.set i.toNat (⟨lowP p L.length, a62, c62, S62, ai2, ci2, Si2⟩ : PgO)) ++ [(⟨highP p, ak1, ck1, Sk1, ai1, ci1, Si1⟩ : PgO)])⟩] ++ ((L.set i.toNat (⟨lowP p L.length, a62, c62, S62, ai2, ci2, Si2⟩ : PgO)) ++ [(⟨highP p, ak1, ck1, Sk1, ai1, ci1, Si1⟩ : PgO)]).flatMap bO)), (by repeat (first | exact List.Sublist.refl _ | apply List.Sublist.cons)), ret_two Try.results30 (res_tmp (Nat.le_of_ble_eq_true rfl) lk) (res_tmp (Nat.le_of_ble_eq_true rfl) lk), ?_⟩
   refine ⟨rfl, ((L.set i.toNat (⟨lowP p L.length, a62, c62, S62, ai2, ci2, Si2⟩ : PgO)) ++ [(⟨highP p, ak1, ck1, Sk1, ai1, ci1, Si1⟩ : PgO)]), some ⟨b87, 0, none⟩, cp87, [⟨b87, 44, cp87 * 5, List.flatMap gO ((L.set i.toNat (⟨lowP p L.length, a62, c62, S62, ai2, ci2, Si2⟩ : PgO)) ++ [(⟨highP p, ak1, ck1, Sk1, ai1, ci1, Si1⟩ : PgO)])⟩], ownL_row h187 h287, fun x hx => ?_, ?_, rfl⟩
   ·rcases List.mem_append.1 hx with hx | hx
    ·rcases List.mem_or_eq_of_mem_set hx with hx | rfl
     ·exact hok x hx
     ·exact ⟨ho62, hoi2⟩
    ·rw [List.mem_singleton] at hx; subst hx; exact ⟨hok1, hoi1⟩
   ·rw [List.map_append, List.map_set]; rfl

end Go.Proofs.Ythnobhekodiciaa.Tw

namespace Go.Proofs.Ythnobhekodiciaa.V
open Go.RowKit
set_option linter.unusedVariables false
set_option linter.unusedSimpArgs false

variable {P : Program} {C : Ctx} {G : List (Nat × List Value)} {Q : Exit → St → Prop} {x : St} {ops : Array Oper} {l : List Oper} {o : Oper} {S1 T : List Nat} {fuel i : Nat} {ld : Array Bool}

/-- A row is told to its end: what is behind what one knows, is something. -/
def toEnd (B : Blk) : Blk := { B with cs := B.cs ++ List.replicate (B.size - B.cs.length) .junk }
theorem Wk.toEnd {n : Nat} {l : List (Nat × D)} {S : List Blk} {k : Nat} {B : Blk} (hk : S[k]? = some B) : Wk ⟨n, l, S⟩ ⟨n, l, S.set k (V.toEnd B)⟩ := fun C a w h => by
 have hbk : bks (S.set k (V.toEnd B)) = bks S := by
  unfold bks
  rw [List.map_set]
  have hlt : k < S.length := (List.getElem?_eq_some_iff.1 hk).1
  have : (S.map Blk.b)[k]'(by simpa using hlt) = B.b := by rw [List.getElem_map]; rw [(List.getElem?_eq_some_iff.1 hk).2]
  show (S.map Blk.b).set k B.b = _
  rw [← this, List.set_getElem_self]
 have hl : live C.X (S.set k (V.toEnd B)) = live C.X S := by funext b; unfold live; rw [hbk]
 refine ⟨h.defers, h.size, by simpa only [hl] using h.env, ⟨fun B' hB' => ?_, by rw [hbk]; exact h.own.apart⟩, by simpa only [hbk] using h.fr, h.ex, h.tab⟩
 rw [hl]
 rcases List.mem_or_eq_of_mem_set hB' with hB' | rfl
 ·exact h.own.at_ B' hB'
 ·obtain ⟨r0, cur, r1, r2, r3, r4⟩ := h.own.at_ B (List.mem_of_getElem? hk)
  have key : ∀ i (hi : i < (B.cs ++ List.replicate (B.size - B.cs.length) D.junk).length), ∃ u, cur[i]? = some u ∧ Rep w (live C.X S) (B.cs ++ List.replicate (B.size - B.cs.length) D.junk)[i] u := fun i hi => by
   have hi' := hi
   rw [List.length_append, List.length_replicate] at hi'
   rcases Nat.lt_or_ge i B.cs.length with q | q
   ·obtain ⟨u, hu, hq⟩ := r4 i q
    exact ⟨u, hu, by rw [List.getElem_append_left q]; exact hq⟩
   ·exact ⟨cur[i]'(by omega), Array.getElem?_eq_getElem (by omega), by rw [List.getElem_append_right q, List.getElem_replicate]; exact .junk _⟩
  refine ⟨r0, cur, r1, r2, ?_, key⟩
  show (B.cs ++ List.replicate (B.size - B.cs.length) D.junk).length ≤ B.size
  rw [List.length_append, List.length_replicate]; omega

/-- copy from one's own row to one's own row (which may be the same). -/
theorem eff_copy {d y : Operand} {t t2 e tt m m2 c b b2 k k2 od oy c2 : Nat} {B B2 : Blk} {new cs' : List D} (ho : o.op = .call { callee := .builtin .copy, args := #[d, y], argTypes := #[t, t2] }) (hd : o.dst = some tt)
    (ht : P.underlying t = some (.slice e)) (hi : (P.info? e).map (fun i => i.size) = some 1)
    (hs : opd x d = .v (.slice (some ⟨b, od, none⟩) m c)) (hk : x.S[k]? = some B) (hb : B.b = b) (hy : opd x y = .v (.slice (some ⟨b2, oy, none⟩) m2 c2)) (hk2 : x.S[k2]? = some B2) (hb2 : B2.b = b2)
    (hnew : (B2.cs.drop oy).take (Nat.min m2 m) = new) (hlen : new.length = Nat.min m2 m) (hone : ∀ d ∈ new, one d = true) (hl : od + new.length ≤ B.cs.length) (hcs : setAll B.cs od new = cs') (hne : isMap B.e = false := by rfl) (hne2 : isMap B2.e = false := by rfl) :
    Eff P G x o [b] (fun y => y = ⟨x.n, (tt, .v (.int .i64 (new.length : Nat))) :: x.env, x.S.set k { B with cs := cs' }⟩) := fun C a w K Q hG h hK => by
  subst hcs hb hb2
  obtain ⟨h0, cur, q1, q2, q3, q4⟩ := h.blk hk
  rw [ob_cells hne] at q1
  obtain ⟨h02, cur2, p1, p2, p3, p4⟩ := h.blk hk2
  rw [ob_cells hne2] at p1
  have hin : ∀ j, (hj : j < new.length) → ∃ hj2 : oy + j < B2.cs.length, new[j] = B2.cs[oy + j] := fun j hj => by
    have h2 : oy + j < B2.cs.length := by
      have := congrArg List.length hnew
      rw [List.length_take, List.length_drop] at this
      omega
    refine ⟨h2, ?_⟩
    have e2 : new[j]? = some B2.cs[oy + j] := by rw [← hnew, List.getElem?_take, if_pos (by omega), List.getElem?_drop, List.getElem?_eq_getElem h2]
    rw [List.getElem?_eq_getElem hj] at e2
    exact Option.some.inj e2
  let vs : List Value := (List.range new.length).map fun j => cur2.getD (oy + j) undef
  have hvl : vs.length = new.length := by simp [vs]
  have hv : ∀ j (hj : j < new.length), ∃ u, cur2[oy + j]? = some u ∧ vs[j]? = some u ∧ Rep w (live C.X x.S) new[j] u := fun j hj => by
    obtain ⟨h1, h3⟩ := hin j hj
    obtain ⟨u, hu, hq⟩ := p4 (oy + j) h1
    refine ⟨u, hu, ?_, h3 ▸ hq⟩
    simp [vs, hj, hu]
  have hr : RepL w (live C.X x.S) new vs := ⟨by rw [hvl], fun j h1 h2 => by
    obtain ⟨u, _, hu, hq⟩ := hv j h1
    rw [List.getElem?_eq_getElem h2] at hu
    rw [Option.some.inj hu]; exact hq⟩
  obtain ⟨s1, s2, s3⟩ := h.store (hne := hne) hk hr (o' := od) hl
  have hrun := run_copy_cells (P := P) w t t2 o.type e B.b od m c ⟨B2.b, oy, none⟩ m2 c2 vs ht hi (by rw [hvl, hlen]) (fun j u hu => by
      rw [Addr.add_mid]
      have hj : j < new.length := by rw [← hvl]; exact (List.getElem?_eq_some_iff.1 hu).1
      obtain ⟨u', hu1, hu2, _⟩ := hv j hj
      rw [hu2] at hu
      rw [← hu]; exact cell_blk p1 hu1) (fun j hj => by
      have : od + j < cur.size := by rw [hvl] at hj; omega
      rw [cell_blk q1 (u := cur[od + j]) (by simp [this])]; rfl) (fun j hj => by unfold World.frozen?; simp [q1]) (fun u hu => by
      obtain ⟨j, hj, rfl⟩ := List.mem_iff_getElem.1 hu
      have hj' : j < new.length := by omega
      exact (hr.2 j hj' hj).one_cell (hone _ (List.getElem_mem hj')))
  have hrun2 : (execOp a.eval o).run P w = .ok (.value (goInt vs.length)) (w.setCells B.b od vs) := by
    unfold execOp
    simp only [ho, resolve, invoke, builtin, Sem.run_bind, Sem.run_pure, Result.andThen_ok, List.map_toArray, List.map_cons, List.map_nil, h.flat hs, h.flat hy, hrun]
  unfold Oper.wp
  rw [hrun2, Oper.upon_value, hd]
  exact hK _ _ _ rfl (s1.put (by rw [hvl]; exact .v _)) s2 s3

theorem OD.copy {d y : Operand} {t t2 e tt m m2 c b b2 k k2 od oy c2 : Nat} {B B2 : Blk} {new cs' : List D} (hw : Wants ops x o true) (ho : o.op = .call { callee := .builtin .copy, args := #[d, y], argTypes := #[t, t2] }) (hd : o.dst = some tt)
  (ht : P.underlying t = some (.slice e)) (hi : (P.info? e).map (fun i => i.size) = some 1)
  (hs : opd x d = .v (.slice (some ⟨b, od, none⟩) m c)) (hk : x.S[k]? = some B) (hb : B.b = b) (hy : opd x y = .v (.slice (some ⟨b2, oy, none⟩) m2 c2)) (hk2 : x.S[k2]? = some B2) (hb2 : B2.b = b2)
  (hnew : (B2.cs.drop oy).take (Nat.min m2 m) = new) (hlen : new.length = Nat.min m2 m) (hone : ∀ d ∈ new, one d = true) (hl : od + new.length ≤ B.cs.length) (hcs : setAll B.cs od new = cs')
  (K : OD P C ops l ⟨x.n, (tt, .v (.int .i64 (new.length : Nat))) :: x.env, x.S.set k { B with cs := cs' }⟩ Q) (hne : isMap B.e = false := by rfl) (hne2 : isMap B2.e = false := by rfl) : OD P C ops (o :: l) x Q :=
 OD.eff hw (eff_copy (hne := hne) (hne2 := hne2) ho hd ht hi hs hk hb hy hk2 hb2 hnew hlen hone hl hcs) fun y hy => hy ▸ K

theorem AStep.copy {d y : Operand} {t t2 e tt m m2 c b b2 k k2 od oy c2 : Nat} {B B2 : Blk} {new cs' : List D} (hi' : ops[i]? = some o) (hw : Wants ops x o true) (ho : o.op = .call { callee := .builtin .copy, args := #[d, y], argTypes := #[t, t2] }) (hd : o.dst = some tt)
  (ht : P.underlying t = some (.slice e)) (hi : (P.info? e).map (fun i => i.size) = some 1)
  (hs : opd x d = .v (.slice (some ⟨b, od, none⟩) m c)) (hk : x.S[k]? = some B) (hb : B.b = b) (hy : opd x y = .v (.slice (some ⟨b2, oy, none⟩) m2 c2)) (hk2 : x.S[k2]? = some B2) (hb2 : B2.b = b2)
  (hnew : (B2.cs.drop oy).take (Nat.min m2 m) = new) (hlen : new.length = Nat.min m2 m) (hone : ∀ d ∈ new, one d = true) (hl : od + new.length ≤ B.cs.length) (hcs : setAll B.cs od new = cs') (hT : ∀ b ∈ T, b ∈ bks (x.S.eraseIdx k))
  (K : AD P C ops S1 T fuel (ld.setIfInBounds i true) ⟨x.n, (tt, .v (.int .i64 (new.length : Nat))) :: x.env, x.S.set k { B with cs := cs' }⟩ Q) (hne : isMap B.e = false := by rfl) (hne2 : isMap B2.e = false := by rfl) : AStep P C ops S1 T fuel ld x Q i :=
 AStep.eff hi' hw (eff_copy (hne := hne) (hne2 := hne2) ho hd ht hi hs hk hb hy hk2 hb2 hnew hlen hone hl hcs) (fun C a w hs b' hb' => hb ▸ away hs hk hT b' hb') (fun b' hb' => by
  have : b' = b := by simpa using hb'
  subst this; rw [← hb]; exact mem_bks hk) fun y hy => hy ▸ K

/-- append of a make where there is no room: a new row; what is behind what was there, is something. -/
theorem eff_appendZ {s y : Operand} {t tn e tt n m b cap bytes k : Nat} {kq kn : IntKind} {z : Value} {B : Blk} (ho : o.op = .call { callee := .builtin .append, args := #[s, y], argTypes := #[t, tn] }) (hd : o.dst = some tt)
    (ht : P.underlying t = some (.slice e)) (htn : P.underlying tn = some (.int kn)) (hi : (P.info? e).map (fun i => (i.zero, i.size, i.bytes)) = some (some z, 1, bytes)) (hzs : z.cells.size = 1)
    (hs : opd x s = .v (.slice (some ⟨b, 0, none⟩) n cap)) (hk : x.S[k]? = some B) (hb : B.b = b) (hl : n ≤ B.cs.length) (hy : opd x y = .v (.int kq m)) (hg : cap < n + m) (h0 : 0 < m) (h63 : n + m ≤ maxLen) (hbytes : (n + m) * bytes ≤ 140737488355328) (hne : isMap B.e = false := by rfl) (hne2 : isMap e = false := by rfl) :
    Eff P G x o [] (fun y => ∃ b' cap', n + m ≤ cap' ∧ cap' ≤ maxLen ∧ y = ⟨x.n, (tt, .v (.slice (some ⟨b', 0, none⟩) (n + m) cap')) :: x.env, ⟨b', e, cap' * 1, B.cs.take n⟩ :: x.S⟩) := fun C a w K Q hG h hK => by
  subst hb
  obtain ⟨i, hi1, hi2, hi3, hi4⟩ := info_at hi
  obtain ⟨r0, cur, r1, r2, r3, r4⟩ := h.blk hk
  rw [ob_cells hne] at r1
  have hcl : n ≤ cur.size := by omega
  have hold : (Builtin.firstCells i.size n (.slice (some ⟨B.b, 0, none⟩) n cap)).run P w.drew = .ok (cur.toList.take n).toArray w.drew := by
    rw [hi3]
    exact run_firstCells_some w.drew 1 n ⟨B.b, 0, none⟩ n cap (cur.toList.take n) (by simp; omega) (fun j v hj => by
      rw [Addr.add_mid]
      rw [List.getElem?_take] at hj
      split at hj
      · rw [Array.getElem?_toList] at hj
        have : w.drew.heap[B.b]? = some (.cells cur B.e (0, 0)) := r1
        exact cell_blk this (by rw [Nat.zero_add]; exact hj)
      · cases hj)
  have hrun := Lib.run_append_grow_zeros (P := P) w t tn o.type e i z kq kn ht htn hi1 hi2 (some ⟨B.b, 0, none⟩) n cap _ hold m h0 (by omega) hg (by simp only [maxLen] at h63; omega) (by rw [hi4]; exact Nat.le_trans (Nat.mul_le_mul_right _ (Nat.le_add_left m n)) (by omega)) (by rw [hi4]; exact growslice_fits hg hbytes)
  have h1 := grownCap_ge w (n + m) cap e
  have h2 := grownCap_le_maxLen w (n + m) cap e h63
  generalize grownCap w (n + m) cap e = cap' at hrun h1 h2
  generalize hROW : (cur.toList.take n).toArray ++ Builtin.zeroCells z.cells m ++ Builtin.zeroCells z.cells (cap' - (n + m)) = ROW at hrun
  have hzc : ∀ q, (Builtin.zeroCells z.cells q).size = q := fun q => by
    obtain ⟨u, hu⟩ : ∃ u, z.cells = #[u] := by
      have : z.cells.toList.length = 1 := by simpa using hzs
      obtain ⟨u, hu⟩ := List.length_eq_one_iff.1 this
      exact ⟨u, by rw [← Array.toArray_toList (xs := z.cells), hu]⟩
    simp [Builtin.zeroCells, hu]
  have hsz : ROW.size = cap' * 1 := by
    rw [← hROW, Array.size_append, Array.size_append, hzc, hzc]
    simp; omega
  have hrun2 : (execOp a.eval o).run P w = .ok (.value (.slice (some ⟨w.heap.size, 0, none⟩) (n + m) cap')) (w.drew.alloc (.cells ROW e)) := by
    unfold execOp
    simp only [ho, resolve, invoke, builtin, Sem.run_bind, Sem.run_pure, Result.andThen_ok, List.map_toArray, List.map_cons, List.map_nil, h.flat hs, h.flat hy, hrun]
  obtain ⟨s1, s2, s3⟩ := h.grown (w' := w.drew.alloc (.cells ROW e)) (t := tt) (m := n + m) (e := e) (sz := 1) (S := x.S) (cs := B.cs.take n) (row := none) (g := w.heap.size) (cap := cap') (cur := ROW) (hne := hne2) (List.Sublist.refl _) (fun k hk => by cases hk)
    ⟨rfl, rfl, rfl, by show w.heap.size ≤ (w.heap.push _).size; simp, fun k hk _ => getElem?_push_lt (w := w.drew) hk⟩ (.inr rfl) (by show w.heap.size < (w.heap.push _).size; simp) (by show (w.heap.push _)[w.heap.size]? = _; simp) hsz (by rw [List.length_take]; omega) (fun j hj => by
      have hj' : j < n := by rw [List.length_take] at hj; omega
      obtain ⟨u, hu, hq⟩ := r4 j (by omega)
      refine ⟨u, ?_, by rw [List.getElem_take]; exact hq⟩
      rw [← hROW, Array.append_assoc, Array.getElem?_append_left (by simp; omega)]
      simp [hj', hu])
  unfold Oper.wp
  rw [hrun2, Oper.upon_value, hd]
  exact hK _ _ _ ⟨_, _, h1, h2, rfl⟩ s1 s2 s3

theorem OD.appendZ {s y : Operand} {t tn e tt n m b cap bytes k : Nat} {kq kn : IntKind} {z : Value} {B : Blk} (hw : Wants ops x o true) (ho : o.op = .call { callee := .builtin .append, args := #[s, y], argTypes := #[t, tn] }) (hd : o.dst = some tt)
  (ht : P.underlying t = some (.slice e)) (htn : P.underlying tn = some (.int kn)) (hi : (P.info? e).map (fun i => (i.zero, i.size, i.bytes)) = some (some z, 1, bytes)) (hzs : z.cells.size = 1)
  (hs : opd x s = .v (.slice (some ⟨b, 0, none⟩) n cap)) (hk : x.S[k]? = some B) (hb : B.b = b) (hl : n ≤ B.cs.length) (hy : opd x y = .v (.int kq m)) (hg : cap < n + m) (h0 : 0 < m) (h63 : n + m ≤ maxLen) (hbytes : (n + m) * bytes ≤ 140737488355328)
  (K : ∀ b' cap', n + m ≤ cap' → cap' ≤ maxLen → OD P C ops l ⟨x.n, (tt, .v (.slice (some ⟨b', 0, none⟩) (n + m) cap')) :: x.env, ⟨b', e, cap' * 1, B.cs.take n⟩ :: x.S⟩ Q) (hne : isMap B.e = false := by rfl) (hne2 : isMap e = false := by rfl) : OD P C ops (o :: l) x Q :=
 OD.eff hw (eff_appendZ (hne := hne) (hne2 := hne2) ho hd ht htn hi hzs hs hk hb hl hy hg h0 h63 hbytes) fun y ⟨b', cap', h1, h2, hy⟩ => hy ▸ K b' cap' h1 h2

/-- slices.overlaps of two rows of one's own. -/
theorem eff_overlaps {f : FuncId} {fn : Func} {y z : Operand} {ts : Array TypeId} {t r e tt b oy m c b2 oz m2 c2 k k2 : Nat} {B B2 : Blk} (ho : o.op = .call { callee := .value (.func f), args := #[y, z], argTypes := ts }) (hd : o.dst = some tt)
    (hf : P.funcs[f]? = some fn) (hname : (fn.name == "runtime.NumGoroutine") = false) (hbd : fn.body.isNone = true) (hn : Extern.findNext fn = none) (he : Extern.find fn = some (Extern.SlicesOverlaps.overlaps #[t, t] #[r])) (ht : P.underlying t = some (.slice e)) (hz1 : ∀ w, (sizeOf e).run P w = .ok 1 w)
    (hy : opd x y = .v (.slice (some ⟨b, oy, none⟩) m c)) (hk : x.S[k]? = some B) (hb : B.b = b) (hz : opd x z = .v (.slice (some ⟨b2, oz, none⟩) m2 c2)) (hk2 : x.S[k2]? = some B2) (hb2 : B2.b = b2) (hkk : k ≠ k2) (hs2 : B2.size ≠ 0) (hne : isMap B.e = false := by rfl) (hne2 : isMap B2.e = false := by rfl) :
    Eff P G x o [] (fun s => s = x.put tt (.v (.bool false))) := fun C a w K Q hG h hK => by
  subst hb hb2
  obtain ⟨r0, cur, r1, r2, r3, r4⟩ := h.blk hk
  rw [ob_cells hne] at r1
  obtain ⟨p0, cur2, p1, p2, p3, p4⟩ := h.blk hk2
  rw [ob_cells hne2] at p1
  have hnb : B.b ≠ B2.b := fun e => by
    have hnd := h.own.apart
    have l1 := (List.getElem?_eq_some_iff.1 hk).1
    have l2 := (List.getElem?_eq_some_iff.1 hk2).1
    have e1 : (bks x.S)[k]? = some B.b := by unfold bks; rw [List.getElem?_map, hk]; rfl
    have e2 : (bks x.S)[k2]? = some B2.b := by unfold bks; rw [List.getElem?_map, hk2]; rfl
    obtain ⟨q1, e1⟩ := List.getElem?_eq_some_iff.1 e1
    obtain ⟨q2, e2⟩ := List.getElem?_eq_some_iff.1 e2
    rcases Nat.lt_trichotomy k k2 with q | q | q
    · exact List.pairwise_iff_getElem.1 hnd k k2 q1 q2 q (by rw [e1, e2, e])
    · exact hkk q
    · exact List.pairwise_iff_getElem.1 hnd k2 k q2 q1 q (by rw [e1, e2, e])
  have hc : (callFunc f #[a.eval y, a.eval z]).run P w = .ok (.value (.bool false)) w := by
    rw [h.flat hy, h.flat hz, run_callFunc_extern hf hname hbd hn he, Lib.run_overlaps_apart w t r e ht 1 hz1 ⟨B.b, oy, none⟩ ⟨B2.b, oz, none⟩ m c m2 c2 hnb B.e B2.e cur.size cur2.size (by simp [World.shape?, r1]) (by simp [World.shape?, p1]) (by omega) (by unfold World.frozen?; simp [r1]) (by unfold World.frozen?; simp [r1])]
    rfl
  unfold Oper.wp
  have hrun : (execOp a.eval o).run P w = .ok (.value (.bool false)) w := by
    unfold execOp
    have ef : a.eval (.func f) = .func (.func f) #[] #[] := rfl
    simp only [ho, resolve, ef, Deferred.ofValue, Sem.run_bind, Sem.run_pure, Result.andThen_ok, invoke]
    simp [hc]
  rw [hrun, Oper.upon_value, hd]
  exact hK _ _ _ rfl (h.put (.v _)) (Chg.refl _ _) (Fr.refl _ _)

theorem OD.overlaps {f : FuncId} {fn : Func} {y z : Operand} {ts : Array TypeId} {t r e tt b oy m c b2 oz m2 c2 k k2 : Nat} {B B2 : Blk} (hw : Wants ops x o true) (ho : o.op = .call { callee := .value (.func f), args := #[y, z], argTypes := ts }) (hd : o.dst = some tt)
  (hf : P.funcs[f]? = some fn) (hname : (fn.name == "runtime.NumGoroutine") = false) (hbd : fn.body.isNone = true) (hn : Extern.findNext fn = none) (he : Extern.find fn = some (Extern.SlicesOverlaps.overlaps #[t, t] #[r])) (ht : P.underlying t = some (.slice e)) (hz1 : ∀ w, (sizeOf e).run P w = .ok 1 w)
  (hy : opd x y = .v (.slice (some ⟨b, oy, none⟩) m c)) (hk : x.S[k]? = some B) (hb : B.b = b) (hz : opd x z = .v (.slice (some ⟨b2, oz, none⟩) m2 c2)) (hk2 : x.S[k2]? = some B2) (hb2 : B2.b = b2) (hkk : k ≠ k2) (hs2 : B2.size ≠ 0)
  (K : OD P C ops l (x.put tt (.v (.bool false))) Q) (hne : isMap B.e = false := by rfl) (hne2 : isMap B2.e = false := by rfl) : OD P C ops (o :: l) x Q :=
 OD.eff hw (eff_overlaps (hne := hne) (hne2 := hne2) ho hd hf hname hbd hn he ht hz1 hy hk hb hz hk2 hb2 hkk hs2) fun y hy => hy ▸ K

/-- How much room a row has. -/
theorem still_cap {t e : TypeId} {ad : Option Addr} {len cap : Nat} {y : Operand} {ts : Array TypeId} (ho : o.op = .call { callee := .builtin .cap, args := #[y], argTypes := ts }) (ht : ts = #[t]) (hy : opd x y = .v (.slice ad len cap))
    (hu : ∀ w, (underlying t).run P w = .ok (.slice e) w) : Still P G x o .none (.v (.int .i64 cap)) := fun C a w _ h => ⟨_, .v _, fun w' _ => by
  subst ht
  unfold execOp
  simp [ho, resolve, invoke, builtin, Builtin.cap_, h.flat hy, hu, goInt]⟩

end Go.Proofs.Ythnobhekodiciaa.V

namespace Go.Proofs.Ythnobhekodiciaa.Tw
open Go.RowKit V Go.Proofs.Ythnobhekodiciaa.Tr Pk
set_option linter.unusedVariables false
set_option linter.unusedSimpArgs false

/-- A list with one more at a place. -/
def insF {α : Type} (q : List α) (i : Nat) (a : α) : List α := q.take i ++ a :: q.drop i
theorem insF_len {α : Type} {q : List α} {i : Nat} {a : α} (hi : i ≤ q.length) : (insF q i a).length = q.length + 1 := by unfold insF; rw [List.length_append, List.length_take, List.length_cons, List.length_drop]; omega
theorem insF_end {α : Type} {q : List α} {a : α} : insF q q.length a = q ++ [a] := by unfold insF; rw [List.take_length, List.drop_length]
theorem insF_flat {α : Type} {g : α → List D} (hg : ∀ a, (g a).length = 1) {q : List α} {i : Nat} {a : α} : (insF q i a).flatMap g = (q.flatMap g).take i ++ (g a ++ (q.flatMap g).drop i) := by
 have h1 := fm_take hg q i; have h2 := fm_drop hg q i
 rw [Nat.mul_one] at h1 h2
 unfold insF; rw [List.flatMap_append, List.flatMap_cons, h1, h2]
theorem setAll_mid {A J ds : List D} {off : Nat} (hA : A.length = off) (hl : ds.length ≤ J.length) : setAll (A ++ J) off ds = A ++ (ds ++ J.drop ds.length) := by
 rw [setAll_eq _ _ _ (by rw [List.length_append]; omega), List.take_left' hA, List.append_assoc, ← List.drop_drop, List.drop_left' hA]
theorem fill_new {T R c J : List D} {i : Nat} (hT : T.length = i) (hc : c.length = 1) (hJ : R.length + 1 ≤ J.length) : T ++ (c ++ R) <+: setAll (setAll (T ++ J) i c) (i + 1) R := by
 rw [setAll_mid hT (by omega), show T ++ (c ++ J.drop c.length) = (T ++ c) ++ J.drop c.length from (List.append_assoc _ _ _).symm, setAll_mid (A := T ++ c) (by rw [List.length_append]; omega) (by rw [List.length_drop]; omega)]
 exact ⟨_, by simp only [List.append_assoc]; rfl⟩
theorem fill_in {T R c J : List D} {i : Nat} (hT : T.length = i) (hc : c.length = 1) (hJ : 1 ≤ J.length) : T ++ (c ++ R) <+: setAll (setAll ((T ++ R) ++ J) (i + 1) R) i c := by
 obtain ⟨X1, X2, hX, h1⟩ : ∃ X1 X2, R ++ J = X1 ++ X2 ∧ X1.length = 1 := ⟨(R ++ J).take 1, (R ++ J).drop 1, (List.take_append_drop 1 _).symm, by rw [List.length_take, List.length_append]; omega⟩
 have h2 : R.length ≤ X2.length := by have := congrArg List.length hX; rw [List.length_append, List.length_append] at this; omega
 have e1 : (T ++ R) ++ J = (T ++ X1) ++ X2 := by rw [List.append_assoc, hX, ← List.append_assoc]
 have e2 : (T ++ X1) ++ (R ++ X2.drop R.length) = T ++ (X1 ++ (R ++ X2.drop R.length)) := List.append_assoc _ _ _
 rw [e1, setAll_mid (A := T ++ X1) (by rw [List.length_append]; omega) h2, e2, setAll_mid hT (by rw [List.length_append]; omega), List.drop_left' (by omega)]
 exact ⟨X2.drop R.length, by simp only [List.append_assoc]⟩
theorem junk_len {α : Type} (n : Nat) (x : α) : (List.replicate n x).length = n := List.length_replicate
variable {G : List (Nat × List Value)}

theorem infsinsertK_vc : (Try.prog.info? 31).map (fun i => i.size) = some 1 := by kernel_rfl

theorem info31_Tw8 : (Try.prog.info? 31).map (fun i => (i.zero, i.size, i.bytes)) = some (some (.slice none 0 0), 1, 24) := by kernel_rfl

set_option maxHeartbeats 4000000 in
set_option maxRecDepth 100000 in
theorem insertK_vc (q : List K) (i : Nat) (a : K) (cap b bv : Nat) (hi : i ≤ q.length) (hc : q.length ≤ cap) (hm : cap ≤ maxLen) (hs : q.length ≤ 1000) : VC Try.prog G 28 [.v (.slice (some ⟨b, 0, none⟩) q.length cap), .v (.int .i64 (i : Nat)), .v (.slice (some ⟨bv, 0, none⟩) 1 1)] [⟨bv, 31, 1 * 1, cK a⟩, ⟨b, 31, cap * 1, q.flatMap cK⟩] (fun r S => ∃ ad cap', r = .v (.slice ad (q.length + 1) cap') ∧ OwnL 31 1 ((insF q i a).flatMap cK) (insF q i a).length ad cap' S) := by
 refine VC.body Try.func28 rfl Try.ntmps28 (Nat.le_of_ble_eq_true rfl) fun X0 w0 S00 => ?_
 refine sr_ ?_
 refine os_ mv_ ?_
 refine nm_ [0, 1, 2] ?_
 refine sr_ ?_
 refine os_ mv_ ?_
 refine os_ mv_ ?_
 refine OD.still (wants_plain rfl) rfl (still_rs (l := i) rfl ot ⟨_, ot⟩ trivial (by first | exact sl_tail rfl cK_len (fun h => by cases h) Try.runUnderlying42 Try.sizeOf31 (by omega) | exact sl_row (fun _ => rfl) Try.runUnderlying42 Try.sizeOf31 (by omega) | exact sl_rowG (fun h => by cases h) (fun _ => rfl) Try.runUnderlying42 Try.sizeOf31 (by omega) (by omega) | exact sl_list (fun h => by cases h) (fun _ => rfl) Try.runUnderlying42 Try.sizeOf31 (by omega) (by omega))) ?_
 refine OD.wk (Wk.as_ (n := 95) (l' := [(0, _), (1, _), (2, _)]) (S' := (⟨bv, 31, 1, [_]⟩ :: [⟨b, 31, cap * 1, q.flatMap cK⟩])) rfl rfl ⟨lk, lk, lk, trivial⟩) ?_
 refine OD.nil ?_
 refine sr_ ?_
 refine os_ mv_ ?_
 refine os_ ln_ ?_
 refine os_ mv_ ?_
 refine nm_ [0, 1, 2, 7] ?_
 refine CD.seq ?_
 refine sr_ ?_
 refine os_ mv_ ?_
 refine os_ bn_ ?_
 refine nm_ [0, 1, 2, 7, 16] ?_
 refine CD.cond ot (fun hc0 => ?_) (fun hc0 => ?_)
 ·exact absurd hc0 (by simp at *)
 ·have hc0' := hc0
  (try simp only [V.cnd, ne_eq] at hc0')
  refine CD.skip ?_
  refine sr_ ?_
  refine os_ mv_ ?_
  refine os_ ln_ ?_
  refine os_ mv_ ?_
  refine nm_ [0, 1, 2, 7, 8] ?_
  refine CD.seq ?_
  refine sr_ ?_
  refine os_ mv_ ?_
  refine os_ mv_ ?_
  refine os_ bn_ ?_
  refine nm_ [0, 1, 2, 7, 8, 22] ?_
  refine CD.cond ot (fun hc1 => ?_) (fun hc1 => ?_)
  ·have hc1' := hc1
   (try simp only [V.cnd, ne_eq] at hc1')
   obtain rfl : i = q.length := by simp at *; omega
   refine sr_ ?_
   refine os_ mv_ ?_
   refine os_ mv_ ?_
   refine OD.give (k := 0) (t := 24) (sz := 1) (m := 1) rfl lk rfl rfl rfl (Nat.le_refl _) (by decide) ?_
   refine OD.appendG (ls := q) (new := [a]) (Sq := [⟨b, 31, cap * 1, q.flatMap cK⟩]) cK_len cK_one (wants_plain rfl) rfl rfl Try.underlying42 info31_Tw8 rfl (by decide) ot (ownL_row hc hm) (perm_r11 (A := [])) ot (by simp) (by simp [maxLen]; omega) (by simp; omega) (fun b25 cp25 h125 h225 => ?_)
   refine OD.perm (perm_q11 (S1 := [⟨b25, 31, cp25 * 1, List.flatMap cK (q ++ [a])⟩]) (A := [])) ?_
   refine os_ mv_ ?_
   refine OD.wk (Wk.as_ (n := 95) (l' := [(6, _)]) (S' := ([⟨b25, 31, cp25 * 1, List.flatMap cK (q ++ [a])⟩])) rfl rfl ⟨lk, trivial⟩) ?_
   refine OD.nil ?_
   refine CD.ret ?_
   refine ⟨.inr rfl, _, [⟨b25, 31, cp25 * 1, List.flatMap cK (q ++ [a])⟩], List.Sublist.refl _, ret_one Try.results28 (res_tmp (Nat.le_of_ble_eq_true rfl) lk), ?_⟩
   exact ⟨_, _, by rw [List.length_append]; rfl, by rw [insF_end]; exact ownL_row h125 h225⟩
  ·have hc1' := hc1
   (try simp only [V.cnd, ne_eq] at hc1')
   have hlt : i < q.length := by omega
   have hQ : (q.flatMap cK).length = q.length := by rw [fm_len cK_len]; omega
   have hTl : ((q.flatMap cK).take i).length = i := by rw [List.length_take]; omega
   have hRl : ((q.flatMap cK).drop i).length = q.length - i := by rw [List.length_drop]; omega
   have hon : ∀ d ∈ (q.flatMap cK), V.one d = true := fm_one cK_one _
   refine CD.skip ?_
   refine CD.seq ?_
   refine sr_ ?_
   refine os_ mv_ ?_
   refine os_ mv_ ?_
   refine os_ bn_ ?_
   refine os_ mv_ ?_
   refine OD.still (wants_plain rfl) rfl (still_cap rfl rfl ot Try.runUnderlying42) ?_
   refine os_ bn_ ?_
   refine OD.wk (Wk.as_ (n := 95) (l' := [(0, _), (1, _), (2, _), (7, _), (8, _), (31, _)]) (S' := (⟨bv, 31, 1, [_]⟩ :: [⟨b, 31, cap * 1, q.flatMap cK⟩])) rfl rfl ⟨lk, lk, lk, lk, lk, lk, trivial⟩) ?_
   refine OD.nil ?_
   refine CD.cond ot (fun hc2 => ?_) (fun hc2 => ?_)
   ·have hc2' := hc2
    (try simp only [V.cnd, ne_eq] at hc2')
    have hof3 : offs cap (i) 1 0 = i := by unfold offs; rw [if_neg (by omega)]; omega
    have hmn : Nat.min (q.length - i) (q.length + 1 - (i + 1)) = q.length - i := Nat.min_eq_left (by omega)
    refine sr_ ?_
    refine os_ mv_ ?_
    refine os_ mv_ ?_
    refine OD.still (wants_plain rfl) rfl (still_rs (l := 0) (h := i) rfl ot trivial ⟨_, ot⟩ (by first | exact sl_head cK_len (fun h => by cases h) Try.runUnderlying42 Try.sizeOf31 (by omega) | exact sl_row (fun h => by cases h) Try.runUnderlying42 Try.sizeOf31 (by omega) | exact sl_rowG (fun _ => rfl) (fun h => by cases h) Try.runUnderlying42 Try.sizeOf31 (by omega) (by omega) | exact sl_list (fun _ => rfl) (fun h => by cases h) Try.runUnderlying42 Try.sizeOf31 (by omega) (by omega))) ?_
    refine os_ mv_ ?_
    refine os_ mv_ ?_
    refine os_ bn_ ?_
    refine os_ mv_ ?_
    refine os_ bn_ ?_
    refine OD.appendZ (n := i) (m := q.length + 1 - i) (k := 1) (wants_plain rfl) rfl rfl Try.underlying42 Try.underlying3 info31_Tw8 rfl ot rfl rfl (by show i ≤ (q.flatMap cK).length; omega) (Eq.trans ot (congrArg (fun z => D.v (.int .i64 z)) (show ((q.length : Int) + (1 : Nat) - (i : Int)) = ((q.length + 1 - i : Nat) : Int) by omega))) (by omega) (by omega) (by simp only [maxLen]; omega) (by omega) (fun b40 cp40 h140 h240 => ?_)
    have hnn : i + (q.length + 1 - i) = q.length + 1 := by omega
    rw [hnn] at h140 ⊢
    refine os_ mv_ ?_
    refine OD.wk (Wk.as_ (n := 95) (l' := [(0, _), (1, _), (2, _), (7, _), (9, _)]) (S' := (_ :: ⟨bv, 31, 1, [_]⟩ :: [⟨b, 31, cap * 1, q.flatMap cK⟩])) rfl rfl ⟨lk, lk, lk, lk, lk, trivial⟩) ?_
    refine OD.nil ?_
    refine sr_ ?_
    refine os_ mv_ ?_
    refine os_ mv_ ?_
    refine OD.still (wants_plain rfl) rfl (still_rs (l := i) (h := q.length + 1) rfl ot ⟨_, ot⟩ trivial (by first | exact sl_tail rfl cK_len (fun h => by cases h) Try.runUnderlying42 Try.sizeOf31 (by omega) | exact sl_row (fun _ => rfl) Try.runUnderlying42 Try.sizeOf31 (by omega) | exact sl_rowG (fun h => by cases h) (fun _ => rfl) Try.runUnderlying42 Try.sizeOf31 (by omega) (by omega) | exact sl_list (fun h => by cases h) (fun _ => rfl) Try.runUnderlying42 Try.sizeOf31 (by omega) (by omega))) ?_
    have hof : offs cp40 (i) 1 0 = i := by unfold offs; rw [if_neg (by omega)]; omega
    rw [hof]
    refine os_ mv_ ?_
    have hof2 : offs cp40 (i + 1) 1 0 = i + 1 := by unfold offs; rw [if_neg (by omega)]; omega
    refine OD.wk (Wk.toEnd (k := 0) rfl) ?_
    refine OD.copy (k := 0) (k2 := 1) (od := i) (new := cK a) (cs' := setAll ((q.flatMap cK).take i ++ List.replicate (cp40 * 1 - ((q.flatMap cK).take i).length) D.junk) i (cK a)) (wants_plain rfl) rfl rfl Try.underlying42 infsinsertK_vc ot rfl rfl ot rfl rfl (by show List.take (Nat.min 1 (q.length + 1 - i)) (cK a) = _; rw [show Nat.min 1 (q.length + 1 - i) = 1 from Nat.min_eq_left (by omega)]; rfl) (Nat.min_eq_left (by omega : 1 ≤ q.length + 1 - i)).symm (fun d hd => List.all_eq_true.1 (cK_one a) d hd) (by show i + 1 ≤ ((q.flatMap cK).take i ++ List.replicate (cp40 * 1 - ((q.flatMap cK).take i).length) D.junk).length; rw [List.length_append, junk_len, hTl]; omega) rfl ?_
    refine OD.wk (Wk.as_ (n := 95) (l' := [(0, _), (1, _), (7, _), (9, _)]) (S' := (_ :: ⟨bv, 31, 1, [_]⟩ :: [⟨b, 31, cap * 1, q.flatMap cK⟩])) rfl rfl ⟨lk, lk, lk, lk, trivial⟩) ?_
    refine OD.nil ?_
    refine CD.seq ?_
    refine CD.draw (bks (List.eraseIdx _ 0)) (by kernel_rfl) (fun _ h => (List.Sublist.map _ (List.eraseIdx_sublist _ 0)).subset h) ?_
    refine a0_ 0 rfl mv_ ?_
    refine a0_ 1 rfl mv_ ?_
    refine a0_ 2 rfl mv_ ?_
    refine a0_ 3 rfl bn_ ?_
    refine a0_ 4 rfl (still_rs (l := i + 1) (h := q.length + 1) rfl ot ⟨_, ot⟩ trivial (by first | exact sl_tail rfl cK_len (fun h => by cases h) Try.runUnderlying42 Try.sizeOf31 (by omega) | exact sl_row (fun _ => rfl) Try.runUnderlying42 Try.sizeOf31 (by omega) | exact sl_rowG (fun h => by cases h) (fun _ => rfl) Try.runUnderlying42 Try.sizeOf31 (by omega) (by omega) | exact sl_list (fun h => by cases h) (fun _ => rfl) Try.runUnderlying42 Try.sizeOf31 (by omega) (by omega))) ?_
    refine a0_ 5 rfl mv_ ?_
    refine a0_ 6 rfl mv_ ?_
    refine a0_ 7 rfl (still_rs (l := i) (h := q.length) rfl ot ⟨_, ot⟩ trivial (by first | exact sl_tail rfl cK_len (fun h => by cases h) Try.runUnderlying42 Try.sizeOf31 (by omega) | exact sl_row (fun _ => rfl) Try.runUnderlying42 Try.sizeOf31 (by omega) | exact sl_rowG (fun h => by cases h) (fun _ => rfl) Try.runUnderlying42 Try.sizeOf31 (by omega) (by omega) | exact sl_list (fun h => by cases h) (fun _ => rfl) Try.runUnderlying42 Try.sizeOf31 (by omega) (by omega))) ?_
    refine AD0.later rfl ?_
    refine AD.one (i := 8) (by kernel_rfl) ?_
    refine AStep.copy (k := 0) (k2 := 2) (od := offs cp40 (i + 1) 1 0) (oy := offs cap i 1 0) (new := (q.flatMap cK).drop i) (cs' := setAll (setAll ((q.flatMap cK).take i ++ List.replicate (cp40 * 1 - ((q.flatMap cK).take i).length) D.junk) i (cK a)) (i + 1) ((q.flatMap cK).drop i)) rfl (wants_plain rfl) rfl rfl Try.underlying42 infsinsertK_vc ot rfl rfl ot rfl rfl (by show List.take (Nat.min (q.length - i) (q.length + 1 - (i + 1))) (List.drop (offs cap i 1 0) (q.flatMap cK)) = _; rw [hof3, hmn, List.take_of_length_le (by omega)]) (by show _ = Nat.min (q.length - i) (q.length + 1 - (i + 1)); rw [hmn, hRl]) (fun d hd => hon d (List.mem_of_mem_drop hd)) (by show offs cp40 (i + 1) 1 0 + _ ≤ (setAll ((q.flatMap cK).take i ++ List.replicate (cp40 * 1 - ((q.flatMap cK).take i).length) D.junk) i (cK a)).length; rw [hof2, hRl, setAll_length, List.length_append, junk_len, hTl]; omega) (by show setAll (setAll ((q.flatMap cK).take i ++ List.replicate (cp40 * 1 - ((q.flatMap cK).take i).length) D.junk) i (cK a)) (offs cp40 (i + 1) 1 0) _ = _; rw [hof2]) (by intro b hb; simp [bks, St.put] at hb ⊢; try first | exact hb | simp [hb] | (rcases hb with hb | hb <;> simp [hb]) | (rcases hb with hb | hb | hb <;> simp [hb])) ?_
    refine AD.wk (y := ⟨95, [(9, _)], (_ :: ⟨bv, 31, 1, [_]⟩ :: [⟨b, 31, cap * 1, q.flatMap cK⟩])⟩) (Wk.as_ rfl rfl ⟨lk, trivial⟩) rfl ?_
    refine AD.done (by kernel_rfl) ?_
    refine sr_ ?_
    refine os_ mv_ ?_
    refine OD.shrink (k := 0) (cs' := (insF q i a).flatMap cK) rfl (by rw [insF_flat cK_len]; exact fill_new hTl rfl (by rw [junk_len, hRl, hTl]; omega)) ?_
    refine os_ mv_ ?_
    refine OD.wk (Wk.as_ (n := 95) (l' := [(6, _)]) (S' := (_ :: ⟨bv, 31, 1, [_]⟩ :: [⟨b, 31, cap * 1, q.flatMap cK⟩])) rfl rfl ⟨lk, trivial⟩) ?_
    refine OD.nil ?_
    refine CD.ret ?_
    refine ⟨.inr rfl, _, [⟨b40, 31, cp40 * 1, (insF q i a).flatMap cK⟩], (List.Sublist.cons_cons _ (List.nil_sublist _)), ret_one Try.results28 (res_tmp (Nat.le_of_ble_eq_true rfl) lk), ?_⟩
    exact ⟨_, _, rfl, ownL_row (by rw [insF_len hi]; exact h140) h240⟩
   ·have hc2' := hc2
    (try simp only [V.cnd, ne_eq] at hc2')
    have hof3 : offs cap (i) 1 0 = i := by unfold offs; rw [if_neg (by omega)]; omega
    have hof2 : offs cap (i + 1) 1 0 = i + 1 := by unfold offs; rw [if_neg (by omega)]; omega
    have hmn : Nat.min (q.length + 1 - i) (q.length + 1 - (i + 1)) = q.length - i := by rw [show q.length + 1 - (i + 1) = q.length - i from by omega]; exact Nat.min_eq_right (by omega)
    refine CD.skip ?_
    refine sr_ ?_
    refine os_ mv_ ?_
    refine os_ mv_ ?_
    refine os_ mv_ ?_
    refine os_ bn_ ?_
    refine OD.still (wants_plain rfl) rfl (still_rs (l := 0) (h := q.length + 1) rfl ot trivial ⟨_, ot⟩ (by first | exact sl_head cK_len (fun h => by cases h) Try.runUnderlying42 Try.sizeOf31 (by omega) | exact sl_row (fun h => by cases h) Try.runUnderlying42 Try.sizeOf31 (by omega) | exact sl_rowG (fun _ => rfl) (fun h => by cases h) Try.runUnderlying42 Try.sizeOf31 (by omega) (by omega) | exact sl_list (fun _ => rfl) (fun h => by cases h) Try.runUnderlying42 Try.sizeOf31 (by omega) (by omega))) ?_
    refine os_ mv_ ?_
    refine OD.wk (Wk.as_ (n := 95) (l' := [(0, _), (1, _), (2, _), (7, _), (8, _)]) (S' := (⟨bv, 31, 1, [_]⟩ :: [⟨b, 31, cap * 1, q.flatMap cK⟩])) rfl rfl ⟨lk, lk, lk, lk, lk, trivial⟩) ?_
    refine OD.nil ?_
    refine CD.seq ?_
    refine sr_ ?_
    refine os_ mv_ ?_
    refine os_ mv_ ?_
    refine os_ mv_ ?_
    refine os_ mv_ ?_
    refine os_ bn_ ?_
    refine OD.still (wants_plain rfl) rfl (still_rs (l := i + 1) (h := q.length + 1) rfl ot ⟨_, ot⟩ trivial (by first | exact sl_tail rfl cK_len (fun h => by cases h) Try.runUnderlying42 Try.sizeOf31 (by omega) | exact sl_row (fun _ => rfl) Try.runUnderlying42 Try.sizeOf31 (by omega) | exact sl_rowG (fun h => by cases h) (fun _ => rfl) Try.runUnderlying42 Try.sizeOf31 (by omega) (by omega) | exact sl_list (fun h => by cases h) (fun _ => rfl) Try.runUnderlying42 Try.sizeOf31 (by omega) (by omega))) ?_
    refine OD.wk (Wk.toEnd (k := 1) rfl) ?_
    refine OD.overlaps (r := 4) (k := 0) (k2 := 1) (wants_plain rfl) rfl rfl Try.func42 (by kernel_rfl) (by kernel_rfl) (by kernel_rfl) (by kernel_rfl) Try.underlying42 Try.sizeOf31 ot rfl rfl ot rfl rfl (by decide) (by show cap * 1 ≠ 0; omega) ?_
    refine os_ un_ ?_
    refine OD.wk (Wk.as_ (n := 95) (l' := [(0, _), (1, _), (2, _), (7, _), (8, _), (68, _)]) (S' := [⟨bv, 31, 1, [_]⟩, _]) rfl rfl ⟨lk, lk, lk, lk, lk, lk, trivial⟩) ?_
    refine OD.nil ?_
    refine CD.cond ot (fun hc3 => ?_) (fun hc3 => ?_)
    ·have hc3' := hc3
     (try simp only [V.cnd, ne_eq] at hc3')
     refine CD.seq ?_
     refine CD.draw (bks (List.eraseIdx _ 1)) (by kernel_rfl) (fun _ h => (List.Sublist.map _ (List.eraseIdx_sublist _ 1)).subset h) ?_
     refine a0_ 0 rfl mv_ ?_
     refine a0_ 1 rfl mv_ ?_
     refine a0_ 2 rfl mv_ ?_
     refine a0_ 3 rfl bn_ ?_
     refine a0_ 4 rfl (still_rs (l := i + 1) (h := q.length + 1) rfl ot ⟨_, ot⟩ trivial (by first | exact sl_tail rfl cK_len (fun h => by cases h) Try.runUnderlying42 Try.sizeOf31 (by omega) | exact sl_row (fun _ => rfl) Try.runUnderlying42 Try.sizeOf31 (by omega) | exact sl_rowG (fun h => by cases h) (fun _ => rfl) Try.runUnderlying42 Try.sizeOf31 (by omega) (by omega) | exact sl_list (fun h => by cases h) (fun _ => rfl) Try.runUnderlying42 Try.sizeOf31 (by omega) (by omega))) ?_
     refine a0_ 5 rfl mv_ ?_
     refine a0_ 6 rfl mv_ ?_
     refine a0_ 7 rfl (still_rs (l := i) (h := q.length + 1) rfl ot ⟨_, ot⟩ trivial (by first | exact sl_tail rfl cK_len (fun h => by cases h) Try.runUnderlying42 Try.sizeOf31 (by omega) | exact sl_row (fun _ => rfl) Try.runUnderlying42 Try.sizeOf31 (by omega) | exact sl_rowG (fun h => by cases h) (fun _ => rfl) Try.runUnderlying42 Try.sizeOf31 (by omega) (by omega) | exact sl_list (fun h => by cases h) (fun _ => rfl) Try.runUnderlying42 Try.sizeOf31 (by omega) (by omega))) ?_
     refine AD0.later rfl ?_
     refine AD.one (i := 8) (by kernel_rfl) ?_
     refine AStep.copy (k := 1) (k2 := 1) (od := offs cap (i + 1) 1 0) (oy := offs cap i 1 0) (new := (q.flatMap cK).drop i) (cs' := setAll ((q.flatMap cK) ++ List.replicate (cap * 1 - (q.flatMap cK).length) D.junk) (i + 1) ((q.flatMap cK).drop i)) rfl (wants_plain rfl) rfl rfl Try.underlying42 infsinsertK_vc ot rfl rfl ot rfl rfl (by show List.take (Nat.min (q.length + 1 - i) (q.length + 1 - (i + 1))) (List.drop (offs cap i 1 0) ((q.flatMap cK) ++ List.replicate (cap * 1 - (q.flatMap cK).length) D.junk)) = _; rw [hof3, hmn, List.drop_append_of_le_length (by omega), List.take_left' hRl]) (by show _ = Nat.min (q.length + 1 - i) (q.length + 1 - (i + 1)); rw [hmn, hRl]) (fun d hd => hon d (List.mem_of_mem_drop hd)) (by show offs cap (i + 1) 1 0 + _ ≤ ((q.flatMap cK) ++ List.replicate (cap * 1 - (q.flatMap cK).length) D.junk).length; rw [hof2, hRl, List.length_append, junk_len, hQ]; omega) (by show setAll ((q.flatMap cK) ++ List.replicate (cap * 1 - (q.flatMap cK).length) D.junk) (offs cap (i + 1) 1 0) _ = _; rw [hof2]) (by intro b hb; simp [bks, St.put] at hb ⊢; try first | exact hb | simp [hb] | (rcases hb with hb | hb <;> simp [hb]) | (rcases hb with hb | hb | hb <;> simp [hb])) ?_
     refine AD.wk (y := ⟨95, [(0, _), (1, _), (2, _)], [⟨bv, 31, 1, [_]⟩, _]⟩) (Wk.as_ rfl rfl ⟨lk, lk, lk, trivial⟩) rfl ?_
     refine AD.done (by kernel_rfl) ?_
     refine sr_ ?_
     refine os_ mv_ ?_
     refine os_ mv_ ?_
     refine OD.still (wants_plain rfl) rfl (still_rs (l := i) (h := q.length + 1) rfl ot ⟨_, ot⟩ trivial (by first | exact sl_tail rfl cK_len (fun h => by cases h) Try.runUnderlying42 Try.sizeOf31 (by omega) | exact sl_row (fun _ => rfl) Try.runUnderlying42 Try.sizeOf31 (by omega) | exact sl_rowG (fun h => by cases h) (fun _ => rfl) Try.runUnderlying42 Try.sizeOf31 (by omega) (by omega) | exact sl_list (fun h => by cases h) (fun _ => rfl) Try.runUnderlying42 Try.sizeOf31 (by omega) (by omega))) ?_
     refine os_ mv_ ?_
     refine OD.copy (k := 1) (k2 := 0) (od := offs cap i 1 0) (new := cK a) (cs' := setAll (setAll ((q.flatMap cK) ++ List.replicate (cap * 1 - (q.flatMap cK).length) D.junk) (i + 1) ((q.flatMap cK).drop i)) i (cK a)) (wants_plain rfl) rfl rfl Try.underlying42 infsinsertK_vc ot rfl rfl ot rfl rfl (by show List.take (Nat.min 1 (q.length + 1 - i)) (cK a) = _; rw [show Nat.min 1 (q.length + 1 - i) = 1 from Nat.min_eq_left (by omega)]; rfl) (Nat.min_eq_left (by omega : 1 ≤ q.length + 1 - i)).symm (fun d hd => List.all_eq_true.1 (cK_one a) d hd) (by show offs cap i 1 0 + 1 ≤ (setAll ((q.flatMap cK) ++ List.replicate (cap * 1 - (q.flatMap cK).length) D.junk) (i + 1) ((q.flatMap cK).drop i)).length; rw [hof3, setAll_length, List.length_append, junk_len, hQ]; omega) (by show setAll (setAll ((q.flatMap cK) ++ List.replicate (cap * 1 - (q.flatMap cK).length) D.junk) (i + 1) ((q.flatMap cK).drop i)) (offs cap i 1 0) _ = _; rw [hof3]) ?_
     refine OD.wk (Wk.as_ (n := 95) (l' := [(0, _)]) (S' := [⟨bv, 31, 1, [_]⟩, _]) rfl rfl ⟨lk, trivial⟩) ?_
     refine OD.nil ?_
     refine sr_ ?_
     refine os_ mv_ ?_
     refine OD.shrink (k := 1) (cs' := (insF q i a).flatMap cK) rfl (by rw [insF_flat cK_len]; show _ <+: setAll (setAll ((q.flatMap cK) ++ _) (i + 1) ((q.flatMap cK).drop i)) i (cK a); rw [show (q.flatMap cK) ++ List.replicate (cap * 1 - (q.flatMap cK).length) D.junk = ((q.flatMap cK).take i ++ (q.flatMap cK).drop i) ++ List.replicate (cap * 1 - (q.flatMap cK).length) D.junk from by rw [List.take_append_drop]]; exact fill_in hTl rfl (by rw [junk_len, hQ]; omega)) ?_
     refine os_ mv_ ?_
     refine OD.wk (Wk.as_ (n := 95) (l' := [(6, _)]) (S' := [⟨bv, 31, 1, [_]⟩, _]) rfl rfl ⟨lk, trivial⟩) ?_
     refine OD.nil ?_
     refine CD.ret ?_
     refine ⟨.inr rfl, _, [⟨b, 31, cap * 1, (insF q i a).flatMap cK⟩], (List.Sublist.cons _ (List.Sublist.refl _)), ret_one Try.results28 (res_tmp (Nat.le_of_ble_eq_true rfl) lk), ?_⟩
     exact ⟨_, _, rfl, ownL_row (by rw [insF_len hi]; omega) hm⟩
    ·exact absurd hc3 (by simp at *)

theorem infsinsertI_vc : (Try.prog.info? 3).map (fun i => i.size) = some 1 := by kernel_rfl

theorem info3_Tw8 : (Try.prog.info? 3).map (fun i => (i.zero, i.size, i.bytes)) = some (some (.int .i64 0), 1, 8) := by kernel_rfl

set_option maxHeartbeats 4000000 in
set_option maxRecDepth 100000 in
theorem insertI_vc (q : List Int) (i : Nat) (a : Int) (cap b bv : Nat) (hi : i ≤ q.length) (hc : q.length ≤ cap) (hm : cap ≤ maxLen) (hs : q.length ≤ 1000) : VC Try.prog G 29 [.v (.slice (some ⟨b, 0, none⟩) q.length cap), .v (.int .i64 (i : Nat)), .v (.slice (some ⟨bv, 0, none⟩) 1 1)] [⟨bv, 3, 1 * 1, cI a⟩, ⟨b, 3, cap * 1, q.flatMap cI⟩] (fun r S => ∃ ad cap', r = .v (.slice ad (q.length + 1) cap') ∧ OwnL 3 1 ((insF q i a).flatMap cI) (insF q i a).length ad cap' S) := by
 refine VC.body Try.func29 rfl Try.ntmps29 (Nat.le_of_ble_eq_true rfl) fun X0 w0 S00 => ?_
 refine sr_ ?_
 refine os_ mv_ ?_
 refine nm_ [0, 1, 2] ?_
 refine sr_ ?_
 refine os_ mv_ ?_
 refine os_ mv_ ?_
 refine OD.still (wants_plain rfl) rfl (still_rs (l := i) rfl ot ⟨_, ot⟩ trivial (by first | exact sl_tail rfl cI_len (fun h => by cases h) Try.runUnderlying22 Try.sizeOf3 (by omega) | exact sl_row (fun _ => rfl) Try.runUnderlying22 Try.sizeOf3 (by omega) | exact sl_rowG (fun h => by cases h) (fun _ => rfl) Try.runUnderlying22 Try.sizeOf3 (by omega) (by omega) | exact sl_list (fun h => by cases h) (fun _ => rfl) Try.runUnderlying22 Try.sizeOf3 (by omega) (by omega))) ?_
 refine OD.wk (Wk.as_ (n := 95) (l' := [(0, _), (1, _), (2, _)]) (S' := (⟨bv, 3, 1, [_]⟩ :: [⟨b, 3, cap * 1, q.flatMap cI⟩])) rfl rfl ⟨lk, lk, lk, trivial⟩) ?_
 refine OD.nil ?_
 refine sr_ ?_
 refine os_ mv_ ?_
 refine os_ ln_ ?_
 refine os_ mv_ ?_
 refine nm_ [0, 1, 2, 7] ?_
 refine CD.seq ?_
 refine sr_ ?_
 refine os_ mv_ ?_
 refine os_ bn_ ?_
 refine nm_ [0, 1, 2, 7, 16] ?_
 refine CD.cond ot (fun hc0 => ?_) (fun hc0 => ?_)
 ·exact absurd hc0 (by simp at *)
 ·have hc0' := hc0
  (try simp only [V.cnd, ne_eq] at hc0')
  refine CD.skip ?_
  refine sr_ ?_
  refine os_ mv_ ?_
  refine os_ ln_ ?_
  refine os_ mv_ ?_
  refine nm_ [0, 1, 2, 7, 8] ?_
  refine CD.seq ?_
  refine sr_ ?_
  refine os_ mv_ ?_
  refine os_ mv_ ?_
  refine os_ bn_ ?_
  refine nm_ [0, 1, 2, 7, 8, 22] ?_
  refine CD.cond ot (fun hc1 => ?_) (fun hc1 => ?_)
  ·have hc1' := hc1
   (try simp only [V.cnd, ne_eq] at hc1')
   obtain rfl : i = q.length := by simp at *; omega
   refine sr_ ?_
   refine os_ mv_ ?_
   refine os_ mv_ ?_
   refine OD.give (k := 0) (t := 24) (sz := 1) (m := 1) rfl lk rfl rfl rfl (Nat.le_refl _) (by decide) ?_
   refine OD.appendG (ls := q) (new := [a]) (Sq := [⟨b, 3, cap * 1, q.flatMap cI⟩]) cI_len cI_one (wants_plain rfl) rfl rfl Try.underlying22 info3_Tw8 rfl (by decide) ot (ownL_row hc hm) (perm_r11 (A := [])) ot (by simp) (by simp [maxLen]; omega) (by simp; omega) (fun b25 cp25 h125 h225 => ?_)
   refine OD.perm (perm_q11 (S1 := [⟨b25, 3, cp25 * 1, List.flatMap cI (q ++ [a])⟩]) (A := [])) ?_
   refine os_ mv_ ?_
   refine OD.wk (Wk.as_ (n := 95) (l' := [(6, _)]) (S' := ([⟨b25, 3, cp25 * 1, List.flatMap cI (q ++ [a])⟩])) rfl rfl ⟨lk, trivial⟩) ?_
   refine OD.nil ?_
   refine CD.ret ?_
   refine ⟨.inr rfl, _, [⟨b25, 3, cp25 * 1, List.flatMap cI (q ++ [a])⟩], List.Sublist.refl _, ret_one Try.results29 (res_tmp (Nat.le_of_ble_eq_true rfl) lk), ?_⟩
   exact ⟨_, _, by rw [List.length_append]; rfl, by rw [insF_end]; exact ownL_row h125 h225⟩
  ·have hc1' := hc1
   (try simp only [V.cnd, ne_eq] at hc1')
   have hlt : i < q.length := by omega
   have hQ : (q.flatMap cI).length = q.length := by rw [fm_len cI_len]; omega
   have hTl : ((q.flatMap cI).take i).length = i := by rw [List.length_take]; omega
   have hRl : ((q.flatMap cI).drop i).length = q.length - i := by rw [List.length_drop]; omega
   have hon : ∀ d ∈ (q.flatMap cI), V.one d = true := fm_one cI_one _
   refine CD.skip ?_
   refine CD.seq ?_
   refine sr_ ?_
   refine os_ mv_ ?_
   refine os_ mv_ ?_
   refine os_ bn_ ?_
   refine os_ mv_ ?_
   refine OD.still (wants_plain rfl) rfl (still_cap rfl rfl ot Try.runUnderlying22) ?_
   refine os_ bn_ ?_
   refine OD.wk (Wk.as_ (n := 95) (l' := [(0, _), (1, _), (2, _), (7, _), (8, _), (31, _)]) (S' := (⟨bv, 3, 1, [_]⟩ :: [⟨b, 3, cap * 1, q.flatMap cI⟩])) rfl rfl ⟨lk, lk, lk, lk, lk, lk, trivial⟩) ?_
   refine OD.nil ?_
   refine CD.cond ot (fun hc2 => ?_) (fun hc2 => ?_)
   ·have hc2' := hc2
    (try simp only [V.cnd, ne_eq] at hc2')
    have hof3 : offs cap (i) 1 0 = i := by unfold offs; rw [if_neg (by omega)]; omega
    have hmn : Nat.min (q.length - i) (q.length + 1 - (i + 1)) = q.length - i := Nat.min_eq_left (by omega)
    refine sr_ ?_
    refine os_ mv_ ?_
    refine os_ mv_ ?_
    refine OD.still (wants_plain rfl) rfl (still_rs (l := 0) (h := i) rfl ot trivial ⟨_, ot⟩ (by first | exact sl_head cI_len (fun h => by cases h) Try.runUnderlying22 Try.sizeOf3 (by omega) | exact sl_row (fun h => by cases h) Try.runUnderlying22 Try.sizeOf3 (by omega) | exact sl_rowG (fun _ => rfl) (fun h => by cases h) Try.runUnderlying22 Try.sizeOf3 (by omega) (by omega) | exact sl_list (fun _ => rfl) (fun h => by cases h) Try.runUnderlying22 Try.sizeOf3 (by omega) (by omega))) ?_
    refine os_ mv_ ?_
    refine os_ mv_ ?_
    refine os_ bn_ ?_
    refine os_ mv_ ?_
    refine os_ bn_ ?_
    refine OD.appendZ (n := i) (m := q.length + 1 - i) (k := 1) (wants_plain rfl) rfl rfl Try.underlying22 Try.underlying3 info3_Tw8 rfl ot rfl rfl (by show i ≤ (q.flatMap cI).length; omega) (Eq.trans ot (congrArg (fun z => D.v (.int .i64 z)) (show ((q.length : Int) + (1 : Nat) - (i : Int)) = ((q.length + 1 - i : Nat) : Int) by omega))) (by omega) (by omega) (by simp only [maxLen]; omega) (by omega) (fun b40 cp40 h140 h240 => ?_)
    have hnn : i + (q.length + 1 - i) = q.length + 1 := by omega
    rw [hnn] at h140 ⊢
    refine os_ mv_ ?_
    refine OD.wk (Wk.as_ (n := 95) (l' := [(0, _), (1, _), (2, _), (7, _), (9, _)]) (S' := (_ :: ⟨bv, 3, 1, [_]⟩ :: [⟨b, 3, cap * 1, q.flatMap cI⟩])) rfl rfl ⟨lk, lk, lk, lk, lk, trivial⟩) ?_
    refine OD.nil ?_
    refine sr_ ?_
    refine os_ mv_ ?_
    refine os_ mv_ ?_
    refine OD.still (wants_plain rfl) rfl (still_rs (l := i) (h := q.length + 1) rfl ot ⟨_, ot⟩ trivial (by first | exact sl_tail rfl cI_len (fun h => by cases h) Try.runUnderlying22 Try.sizeOf3 (by omega) | exact sl_row (fun _ => rfl) Try.runUnderlying22 Try.sizeOf3 (by omega) | exact sl_rowG (fun h => by cases h) (fun _ => rfl) Try.runUnderlying22 Try.sizeOf3 (by omega) (by omega) | exact sl_list (fun h => by cases h) (fun _ => rfl) Try.runUnderlying22 Try.sizeOf3 (by omega) (by omega))) ?_
    have hof : offs cp40 (i) 1 0 = i := by unfold offs; rw [if_neg (by omega)]; omega
    rw [hof]
    refine os_ mv_ ?_
    have hof2 : offs cp40 (i + 1) 1 0 = i + 1 := by unfold offs; rw [if_neg (by omega)]; omega
    refine OD.wk (Wk.toEnd (k := 0) rfl) ?_
    refine OD.copy (k := 0) (k2 := 1) (od := i) (new := cI a) (cs' := setAll ((q.flatMap cI).take i ++ List.replicate (cp40 * 1 - ((q.flatMap cI).take i).length) D.junk) i (cI a)) (wants_plain rfl) rfl rfl Try.underlying22 infsinsertI_vc ot rfl rfl ot rfl rfl (by show List.take (Nat.min 1 (q.length + 1 - i)) (cI a) = _; rw [show Nat.min 1 (q.length + 1 - i) = 1 from Nat.min_eq_left (by omega)]; rfl) (Nat.min_eq_left (by omega : 1 ≤ q.length + 1 - i)).symm (fun d hd => List.all_eq_true.1 (cI_one a) d hd) (by show i + 1 ≤ ((q.flatMap cI).take i ++ List.replicate (cp40 * 1 - ((q.flatMap cI).take i).length) D.junk).length; rw [List.length_append, junk_len, hTl]; omega) rfl ?_
    refine OD.wk (Wk.as_ (n := 95) (l' := [(0, _), (1, _), (7, _), (9, _)]) (S' := (_ :: ⟨bv, 3, 1, [_]⟩ :: [⟨b, 3, cap * 1, q.flatMap cI⟩])) rfl rfl ⟨lk, lk, lk, lk, trivial⟩) ?_
    refine OD.nil ?_
    refine CD.seq ?_
    refine CD.draw (bks (List.eraseIdx _ 0)) (by kernel_rfl) (fun _ h => (List.Sublist.map _ (List.eraseIdx_sublist _ 0)).subset h) ?_
    refine a0_ 0 rfl mv_ ?_
    refine a0_ 1 rfl mv_ ?_
    refine a0_ 2 rfl mv_ ?_
    refine a0_ 3 rfl bn_ ?_
    refine a0_ 4 rfl (still_rs (l := i + 1) (h := q.length + 1) rfl ot ⟨_, ot⟩ trivial (by first | exact sl_tail rfl cI_len (fun h => by cases h) Try.runUnderlying22 Try.sizeOf3 (by omega) | exact sl_row (fun _ => rfl) Try.runUnderlying22 Try.sizeOf3 (by omega) | exact sl_rowG (fun h => by cases h) (fun _ => rfl) Try.runUnderlying22 Try.sizeOf3 (by omega) (by omega) | exact sl_list (fun h => by cases h) (fun _ => rfl) Try.runUnderlying22 Try.sizeOf3 (by omega) (by omega))) ?_
    refine a0_ 5 rfl mv_ ?_
    refine a0_ 6 rfl mv_ ?_
    refine a0_ 7 rfl (still_rs (l := i) (h := q.length) rfl ot ⟨_, ot⟩ trivial (by first | exact sl_tail rfl cI_len (fun h => by cases h) Try.runUnderlying22 Try.sizeOf3 (by omega) | exact sl_row (fun _ => rfl) Try.runUnderlying22 Try.sizeOf3 (by omega) | exact sl_rowG (fun h => by cases h) (fun _ => rfl) Try.runUnderlying22 Try.sizeOf3 (by omega) (by omega) | exact sl_list (fun h => by cases h) (fun _ => rfl) Try.runUnderlying22 Try.sizeOf3 (by omega) (by omega))) ?_
    refine AD0.later rfl ?_
    refine AD.one (i := 8) (by kernel_rfl) ?_
    refine AStep.copy (k := 0) (k2 := 2) (od := offs cp40 (i + 1) 1 0) (oy := offs cap i 1 0) (new := (q.flatMap cI).drop i) (cs' := setAll (setAll ((q.flatMap cI).take i ++ List.replicate (cp40 * 1 - ((q.flatMap cI).take i).length) D.junk) i (cI a)) (i + 1) ((q.flatMap cI).drop i)) rfl (wants_plain rfl) rfl rfl Try.underlying22 infsinsertI_vc ot rfl rfl ot rfl rfl (by show List.take (Nat.min (q.length - i) (q.length + 1 - (i + 1))) (List.drop (offs cap i 1 0) (q.flatMap cI)) = _; rw [hof3, hmn, List.take_of_length_le (by omega)]) (by show _ = Nat.min (q.length - i) (q.length + 1 - (i + 1)); rw [hmn, hRl]) (fun d hd => hon d (List.mem_of_mem_drop hd)) (by show offs cp40 (i + 1) 1 0 + _ ≤ (setAll ((q.flatMap cI).take i ++ List.replicate (cp40 * 1 - ((q.flatMap cI).take i).length) D.junk) i (cI a)).length; rw [hof2, hRl, setAll_length, List.length_append, junk_len, hTl]; omega) (by show setAll (setAll ((q.flatMap cI).take i ++ List.replicate (cp40 * 1 - ((q.flatMap cI).take i).length) D.junk) i (cI a)) (offs cp40 (i + 1) 1 0) _ = _; rw [hof2]) (by intro b hb; simp [bks, St.put] at hb ⊢; try first | exact hb | simp [hb] | (rcases hb with hb | hb <;> simp [hb]) | (rcases hb with hb | hb | hb <;> simp [hb])) ?_
    refine AD.wk (y := ⟨95, [(9, _)], (_ :: ⟨bv, 3, 1, [_]⟩ :: [⟨b, 3, cap * 1, q.flatMap cI⟩])⟩) (Wk.as_ rfl rfl ⟨lk, trivial⟩) rfl ?_
    refine AD.done (by kernel_rfl) ?_
    refine sr_ ?_
    refine os_ mv_ ?_
    refine OD.shrink (k := 0) (cs' := (insF q i a).flatMap cI) rfl (by rw [insF_flat cI_len]; exact fill_new hTl rfl (by rw [junk_len, hRl, hTl]; omega)) ?_
    refine os_ mv_ ?_
    refine OD.wk (Wk.as_ (n := 95) (l' := [(6, _)]) (S' := (_ :: ⟨bv, 3, 1, [_]⟩ :: [⟨b, 3, cap * 1, q.flatMap cI⟩])) rfl rfl ⟨lk, trivial⟩) ?_
    refine OD.nil ?_
    refine CD.ret ?_
    refine ⟨.inr rfl, _, [⟨b40, 3, cp40 * 1, (insF q i a).flatMap cI⟩], (List.Sublist.cons_cons _ (List.nil_sublist _)), ret_one Try.results29 (res_tmp (Nat.le_of_ble_eq_true rfl) lk), ?_⟩
    exact ⟨_, _, rfl, ownL_row (by rw [insF_len hi]; exact h140) h240⟩
   ·have hc2' := hc2
    (try simp only [V.cnd, ne_eq] at hc2')
    have hof3 : offs cap (i) 1 0 = i := by unfold offs; rw [if_neg (by omega)]; omega
    have hof2 : offs cap (i + 1) 1 0 = i + 1 := by unfold offs; rw [if_neg (by omega)]; omega
    have hmn : Nat.min (q.length + 1 - i) (q.length + 1 - (i + 1)) = q.length - i := by rw [show q.length + 1 - (i + 1) = q.length - i from by omega]; exact Nat.min_eq_right (by omega)
    refine CD.skip ?_
    refine sr_ ?_
    refine os_ mv_ ?_
    refine os_ mv_ ?_
    refine os_ mv_ ?_
    refine os_ bn_ ?_
    refine OD.still (wants_plain rfl) rfl (still_rs (l := 0) (h := q.length + 1) rfl ot trivial ⟨_, ot⟩ (by first | exact sl_head cI_len (fun h => by cases h) Try.runUnderlying22 Try.sizeOf3 (by omega) | exact sl_row (fun h => by cases h) Try.runUnderlying22 Try.sizeOf3 (by omega) | exact sl_rowG (fun _ => rfl) (fun h => by cases h) Try.runUnderlying22 Try.sizeOf3 (by omega) (by omega) | exact sl_list (fun _ => rfl) (fun h => by cases h) Try.runUnderlying22 Try.sizeOf3 (by omega) (by omega))) ?_
    refine os_ mv_ ?_
    refine OD.wk (Wk.as_ (n := 95) (l' := [(0, _), (1, _), (2, _), (7, _), (8, _)]) (S' := (⟨bv, 3, 1, [_]⟩ :: [⟨b, 3, cap * 1, q.flatMap cI⟩])) rfl rfl ⟨lk, lk, lk, lk, lk, trivial⟩) ?_
    refine OD.nil ?_
    refine CD.seq ?_
    refine sr_ ?_
    refine os_ mv_ ?_
    refine os_ mv_ ?_
    refine os_ mv_ ?_
    refine os_ mv_ ?_
    refine os_ bn_ ?_
    refine OD.still (wants_plain rfl) rfl (still_rs (l := i + 1) (h := q.length + 1) rfl ot ⟨_, ot⟩ trivial (by first | exact sl_tail rfl cI_len (fun h => by cases h) Try.runUnderlying22 Try.sizeOf3 (by omega) | exact sl_row (fun _ => rfl) Try.runUnderlying22 Try.sizeOf3 (by omega) | exact sl_rowG (fun h => by cases h) (fun _ => rfl) Try.runUnderlying22 Try.sizeOf3 (by omega) (by omega) | exact sl_list (fun h => by cases h) (fun _ => rfl) Try.runUnderlying22 Try.sizeOf3 (by omega) (by omega))) ?_
    refine OD.wk (Wk.toEnd (k := 1) rfl) ?_
    refine OD.overlaps (r := 4) (k := 0) (k2 := 1) (wants_plain rfl) rfl rfl Try.func44 (by kernel_rfl) (by kernel_rfl) (by kernel_rfl) (by kernel_rfl) Try.underlying22 Try.sizeOf3 ot rfl rfl ot rfl rfl (by decide) (by show cap * 1 ≠ 0; omega) ?_
    refine os_ un_ ?_
    refine OD.wk (Wk.as_ (n := 95) (l' := [(0, _), (1, _), (2, _), (7, _), (8, _), (68, _)]) (S' := [⟨bv, 3, 1, [_]⟩, _]) rfl rfl ⟨lk, lk, lk, lk, lk, lk, trivial⟩) ?_
    refine OD.nil ?_
    refine CD.cond ot (fun hc3 => ?_) (fun hc3 => ?_)
    ·have hc3' := hc3
     (try simp only [V.cnd, ne_eq] at hc3')
     refine CD.seq ?_
     refine CD.draw (bks (List.eraseIdx _ 1)) (by kernel_rfl) (fun _ h => (List.Sublist.map _ (List.eraseIdx_sublist _ 1)).subset h) ?_
     refine a0_ 0 rfl mv_ ?_
     refine a0_ 1 rfl mv_ ?_
     refine a0_ 2 rfl mv_ ?_
     refine a0_ 3 rfl bn_ ?_
     refine a0_ 4 rfl (still_rs (l := i + 1) (h := q.length + 1) rfl ot ⟨_, ot⟩ trivial (by first | exact sl_tail rfl cI_len (fun h => by cases h) Try.runUnderlying22 Try.sizeOf3 (by omega) | exact sl_row (fun _ => rfl) Try.runUnderlying22 Try.sizeOf3 (by omega) | exact sl_rowG (fun h => by cases h) (fun _ => rfl) Try.runUnderlying22 Try.sizeOf3 (by omega) (by omega) | exact sl_list (fun h => by cases h) (fun _ => rfl) Try.runUnderlying22 Try.sizeOf3 (by omega) (by omega))) ?_
     refine a0_ 5 rfl mv_ ?_
     refine a0_ 6 rfl mv_ ?_
     refine a0_ 7 rfl (still_rs (l := i) (h := q.length + 1) rfl ot ⟨_, ot⟩ trivial (by first | exact sl_tail rfl cI_len (fun h => by cases h) Try.runUnderlying22 Try.sizeOf3 (by omega) | exact sl_row (fun _ => rfl) Try.runUnderlying22 Try.sizeOf3 (by omega) | exact sl_rowG (fun h => by cases h) (fun _ => rfl) Try.runUnderlying22 Try.sizeOf3 (by omega) (by omega) | exact sl_list (fun h => by cases h) (fun _ => rfl) Try.runUnderlying22 Try.sizeOf3 (by omega) (by omega))) ?_
     refine AD0.later rfl ?_
     refine AD.one (i := 8) (by kernel_rfl) ?_
     refine AStep.copy (k := 1) (k2 := 1) (od := offs cap (i + 1) 1 0) (oy := offs cap i 1 0) (new := (q.flatMap cI).drop i) (cs' := setAll ((q.flatMap cI) ++ List.replicate (cap * 1 - (q.flatMap cI).length) D.junk) (i + 1) ((q.flatMap cI).drop i)) rfl (wants_plain rfl) rfl rfl Try.underlying22 infsinsertI_vc ot rfl rfl ot rfl rfl (by show List.take (Nat.min (q.length + 1 - i) (q.length + 1 - (i + 1))) (List.drop (offs cap i 1 0) ((q.flatMap cI) ++ List.replicate (cap * 1 - (q.flatMap cI).length) D.junk)) = _; rw [hof3, hmn, List.drop_append_of_le_length (by omega), List.take_left' hRl]) (by show _ = Nat.min (q.length + 1 - i) (q.length + 1 - (i + 1)); rw [hmn, hRl]) (fun d hd => hon d (List.mem_of_mem_drop hd)) (by show offs cap (i + 1) 1 0 + _ ≤ ((q.flatMap cI) ++ List.replicate (cap * 1 - (q.flatMap cI).length) D.junk).length; rw [hof2, hRl, List.length_append, junk_len, hQ]; omega) (by show setAll ((q.flatMap cI) ++ List.replicate (cap * 1 - (q.flatMap cI).length) D.junk) (offs cap (i + 1) 1 0) _ = _; rw [hof2]) (by intro b hb; simp [bks, St.put] at hb ⊢; try first | exact hb | simp [hb] | (rcases hb with hb | hb <;> simp [hb]) | (rcases hb with hb | hb | hb <;> simp [hb])) ?_
     refine AD.wk (y := ⟨95, [(0, _), (1, _), (2, _)], [⟨bv, 3, 1, [_]⟩, _]⟩) (Wk.as_ rfl rfl ⟨lk, lk, lk, trivial⟩) rfl ?_
     refine AD.done (by kernel_rfl) ?_
     refine sr_ ?_
     refine os_ mv_ ?_
     refine os_ mv_ ?_
     refine OD.still (wants_plain rfl) rfl (still_rs (l := i) (h := q.length + 1) rfl ot ⟨_, ot⟩ trivial (by first | exact sl_tail rfl cI_len (fun h => by cases h) Try.runUnderlying22 Try.sizeOf3 (by omega) | exact sl_row (fun _ => rfl) Try.runUnderlying22 Try.sizeOf3 (by omega) | exact sl_rowG (fun h => by cases h) (fun _ => rfl) Try.runUnderlying22 Try.sizeOf3 (by omega) (by omega) | exact sl_list (fun h => by cases h) (fun _ => rfl) Try.runUnderlying22 Try.sizeOf3 (by omega) (by omega))) ?_
     refine os_ mv_ ?_
     refine OD.copy (k := 1) (k2 := 0) (od := offs cap i 1 0) (new := cI a) (cs' := setAll (setAll ((q.flatMap cI) ++ List.replicate (cap * 1 - (q.flatMap cI).length) D.junk) (i + 1) ((q.flatMap cI).drop i)) i (cI a)) (wants_plain rfl) rfl rfl Try.underlying22 infsinsertI_vc ot rfl rfl ot rfl rfl (by show List.take (Nat.min 1 (q.length + 1 - i)) (cI a) = _; rw [show Nat.min 1 (q.length + 1 - i) = 1 from Nat.min_eq_left (by omega)]; rfl) (Nat.min_eq_left (by omega : 1 ≤ q.length + 1 - i)).symm (fun d hd => List.all_eq_true.1 (cI_one a) d hd) (by show offs cap i 1 0 + 1 ≤ (setAll ((q.flatMap cI) ++ List.replicate (cap * 1 - (q.flatMap cI).length) D.junk) (i + 1) ((q.flatMap cI).drop i)).length; rw [hof3, setAll_length, List.length_append, junk_len, hQ]; omega) (by show setAll (setAll ((q.flatMap cI) ++ List.replicate (cap * 1 - (q.flatMap cI).length) D.junk) (i + 1) ((q.flatMap cI).drop i)) (offs cap i 1 0) _ = _; rw [hof3]) ?_
     refine OD.wk (Wk.as_ (n := 95) (l' := [(0, _)]) (S' := [⟨bv, 3, 1, [_]⟩, _]) rfl rfl ⟨lk, trivial⟩) ?_
     refine OD.nil ?_
     refine sr_ ?_
     refine os_ mv_ ?_
     refine OD.shrink (k := 1) (cs' := (insF q i a).flatMap cI) rfl (by rw [insF_flat cI_len]; show _ <+: setAll (setAll ((q.flatMap cI) ++ _) (i + 1) ((q.flatMap cI).drop i)) i (cI a); rw [show (q.flatMap cI) ++ List.replicate (cap * 1 - (q.flatMap cI).length) D.junk = ((q.flatMap cI).take i ++ (q.flatMap cI).drop i) ++ List.replicate (cap * 1 - (q.flatMap cI).length) D.junk from by rw [List.take_append_drop]]; exact fill_in hTl rfl (by rw [junk_len, hQ]; omega)) ?_
     refine os_ mv_ ?_
     refine OD.wk (Wk.as_ (n := 95) (l' := [(6, _)]) (S' := [⟨bv, 3, 1, [_]⟩, _]) rfl rfl ⟨lk, trivial⟩) ?_
     refine OD.nil ?_
     refine CD.ret ?_
     refine ⟨.inr rfl, _, [⟨b, 3, cap * 1, (insF q i a).flatMap cI⟩], (List.Sublist.cons _ (List.Sublist.refl _)), ret_one Try.results29 (res_tmp (Nat.le_of_ble_eq_true rfl) lk), ?_⟩
     exact ⟨_, _, rfl, ownL_row (by rw [insF_len hi]; omega) hm⟩
    ·exact absurd hc3 (by simp at *)

set_option maxHeartbeats 4000000 in
set_option maxRecDepth 100000 in
theorem insertK_v (a : K) (bv : Nat) : VC Try.prog G 28 [.v (.slice none 0 0), .v (.int .i64 (0 : Nat)), .v (.slice (some ⟨bv, 0, none⟩) 1 1)] [⟨bv, 31, 1 * 1, cK a⟩] (fun r S => ∃ ad cap', r = .v (.slice ad 1 cap') ∧ OwnL 31 1 ((insF ([] : List K) 0 a).flatMap cK) (insF ([] : List K) 0 a).length ad cap' S) := by
 refine VC.body Try.func28 rfl Try.ntmps28 (Nat.le_of_ble_eq_true rfl) fun X0 w0 S00 => ?_
 refine sr_ ?_
 refine os_ mv_ ?_
 refine nm_ [0, 1, 2] ?_
 refine sr_ ?_
 refine os_ mv_ ?_
 refine os_ mv_ ?_
 refine OD.still (wants_plain rfl) rfl (still_nslice rfl ot ⟨_, _, ot, rfl⟩ rfl Try.runUnderlying42 Try.sizeOf31) ?_
 refine OD.wk (Wk.as_ (n := 95) (l' := [(0, _), (1, _), (2, _)]) (S' := (⟨bv, 31, 1, [_]⟩ :: [])) rfl rfl ⟨lk, lk, lk, trivial⟩) ?_
 refine OD.nil ?_
 refine sr_ ?_
 refine os_ mv_ ?_
 refine os_ ln_ ?_
 refine os_ mv_ ?_
 refine nm_ [0, 1, 2, 7] ?_
 refine CD.seq ?_
 refine sr_ ?_
 refine os_ mv_ ?_
 refine os_ bn_ ?_
 refine nm_ [0, 1, 2, 7, 16] ?_
 refine CD.cond ot (fun hc0 => ?_) (fun hc0 => ?_)
 ·exact absurd hc0 (by simp at *)
 ·have hc0' := hc0
  (try simp only [V.cnd, ne_eq] at hc0')
  refine CD.skip ?_
  refine sr_ ?_
  refine os_ mv_ ?_
  refine os_ ln_ ?_
  refine os_ mv_ ?_
  refine nm_ [0, 1, 2, 7, 8] ?_
  refine CD.seq ?_
  refine sr_ ?_
  refine os_ mv_ ?_
  refine os_ mv_ ?_
  refine os_ bn_ ?_
  refine nm_ [0, 1, 2, 7, 8, 22] ?_
  refine CD.cond ot (fun hc1 => ?_) (fun hc1 => ?_)
  ·have hc1' := hc1
   (try simp only [V.cnd, ne_eq] at hc1')
   refine sr_ ?_
   refine os_ mv_ ?_
   refine os_ mv_ ?_
   refine OD.give (k := 0) (t := 24) (sz := 1) (m := 1) rfl lk rfl rfl rfl (Nat.le_refl _) (by decide) ?_
   refine OD.appendG (ls := ([] : List K)) (new := [a]) (Sq := []) cK_len cK_one (wants_plain rfl) rfl rfl Try.underlying42 info31_Tw8 rfl (by decide) ot ownL_nil (perm_r11 (A := [])) ot (by simp) (by simp [maxLen]) (by simp) (fun b25 cp25 h125 h225 => ?_)
   refine OD.perm (perm_q11 (S1 := [⟨b25, 31, cp25 * 1, List.flatMap cK (([] : List K) ++ [a])⟩]) (A := [])) ?_
   refine os_ mv_ ?_
   refine OD.wk (Wk.as_ (n := 95) (l' := [(6, _)]) (S' := ([⟨b25, 31, cp25 * 1, List.flatMap cK (([] : List K) ++ [a])⟩])) rfl rfl ⟨lk, trivial⟩) ?_
   refine OD.nil ?_
   refine CD.ret ?_
   refine ⟨.inr rfl, _, [⟨b25, 31, cp25 * 1, List.flatMap cK (([] : List K) ++ [a])⟩], List.Sublist.refl _, ret_one Try.results28 (res_tmp (Nat.le_of_ble_eq_true rfl) lk), ?_⟩
   exact ⟨_, _, rfl, ownL_row h125 h225⟩
  ·exact absurd hc1 (by simp at *)

/-- .. into a list of one's own, nil or a row. -/
theorem insertK_vw (q : List K) (i : Nat) (a : K) (ad : Option Addr) (cap : Nat) (Sq : List Blk) (bv : Nat) (hi : i ≤ q.length) (hs : q.length ≤ 1000) (ho : OwnL 31 1 (q.flatMap cK) q.length ad cap Sq) : VC Try.prog G 28 [.v (.slice ad q.length cap), .v (.int .i64 (i : Nat)), .v (.slice (some ⟨bv, 0, none⟩) 1 1)] (⟨bv, 31, 1 * 1, cK a⟩ :: Sq) (fun r S => ∃ ad cap', r = .v (.slice ad (q.length + 1) cap') ∧ OwnL 31 1 ((insF q i a).flatMap cK) (insF q i a).length ad cap' S) := by
  rcases ho with ⟨h1, h2, rfl, rfl, rfl⟩ | ⟨b, rfl, h1, h2, rfl⟩
  · obtain rfl := List.length_eq_zero_iff.1 h1
    obtain rfl : i = 0 := Nat.le_zero.1 hi
    exact insertK_v a bv
  · exact insertK_vc q i a cap b bv hi h1 h2 hs

set_option maxHeartbeats 4000000 in
set_option maxRecDepth 100000 in
theorem insertI_v (a : Int) (bv : Nat) : VC Try.prog G 29 [.v (.slice none 0 0), .v (.int .i64 (0 : Nat)), .v (.slice (some ⟨bv, 0, none⟩) 1 1)] [⟨bv, 3, 1 * 1, cI a⟩] (fun r S => ∃ ad cap', r = .v (.slice ad 1 cap') ∧ OwnL 3 1 ((insF ([] : List Int) 0 a).flatMap cI) (insF ([] : List Int) 0 a).length ad cap' S) := by
 refine VC.body Try.func29 rfl Try.ntmps29 (Nat.le_of_ble_eq_true rfl) fun X0 w0 S00 => ?_
 refine sr_ ?_
 refine os_ mv_ ?_
 refine nm_ [0, 1, 2] ?_
 refine sr_ ?_
 refine os_ mv_ ?_
 refine os_ mv_ ?_
 refine OD.still (wants_plain rfl) rfl (still_nslice rfl ot ⟨_, _, ot, rfl⟩ rfl Try.runUnderlying22 Try.sizeOf3) ?_
 refine OD.wk (Wk.as_ (n := 95) (l' := [(0, _), (1, _), (2, _)]) (S' := (⟨bv, 3, 1, [_]⟩ :: [])) rfl rfl ⟨lk, lk, lk, trivial⟩) ?_
 refine OD.nil ?_
 refine sr_ ?_
 refine os_ mv_ ?_
 refine os_ ln_ ?_
 refine os_ mv_ ?_
 refine nm_ [0, 1, 2, 7] ?_
 refine CD.seq ?_
 refine sr_ ?_
 refine os_ mv_ ?_
 refine os_ bn_ ?_
 refine nm_ [0, 1, 2, 7, 16] ?_
 refine CD.cond ot (fun hc0 => ?_) (fun hc0 => ?_)
 ·exact absurd hc0 (by simp at *)
 ·have hc0' := hc0
  (try simp only [V.cnd, ne_eq] at hc0')
  refine CD.skip ?_
  refine sr_ ?_
  refine os_ mv_ ?_
  refine os_ ln_ ?_
  refine os_ mv_ ?_
  refine nm_ [0, 1, 2, 7, 8] ?_
  refine CD.seq ?_
  refine sr_ ?_
  refine os_ mv_ ?_
  refine os_ mv_ ?_
  refine os_ bn_ ?_
  refine nm_ [0, 1, 2, 7, 8, 22] ?_
  refine CD.cond ot (fun hc1 => ?_) (fun hc1 => ?_)
  ·have hc1' := hc1
   (try simp only [V.cnd, ne_eq] at hc1')
   refine sr_ ?_
   refine os_ mv_ ?_
   refine os_ mv_ ?_
   refine OD.give (k := 0) (t := 24) (sz := 1) (m := 1) rfl lk rfl rfl rfl (Nat.le_refl _) (by decide) ?_
   refine OD.appendG (ls := ([] : List Int)) (new := [a]) (Sq := []) cI_len cI_one (wants_plain rfl) rfl rfl Try.underlying22 info3_Tw8 rfl (by decide) ot ownL_nil (perm_r11 (A := [])) ot (by simp) (by simp [maxLen]) (by simp) (fun b25 cp25 h125 h225 => ?_)
   refine OD.perm (perm_q11 (S1 := [⟨b25, 3, cp25 * 1, List.flatMap cI (([] : List Int) ++ [a])⟩]) (A := [])) ?_
   refine os_ mv_ ?_
   refine OD.wk (Wk.as_ (n := 95) (l' := [(6, _)]) (S' := ([⟨b25, 3, cp25 * 1, List.flatMap cI (([] : List Int) ++ [a])⟩])) rfl rfl ⟨lk, trivial⟩) ?_
   refine OD.nil ?_
   refine CD.ret ?_
   refine ⟨.inr rfl, _, [⟨b25, 3, cp25 * 1, List.flatMap cI (([] : List Int) ++ [a])⟩], List.Sublist.refl _, ret_one Try.results29 (res_tmp (Nat.le_of_ble_eq_true rfl) lk), ?_⟩
   exact ⟨_, _, rfl, ownL_row h125 h225⟩
  ·exact absurd hc1 (by simp at *)

/-- .. into a list of one's own, nil or a row. -/
theorem insertI_vw (q : List Int) (i : Nat) (a : Int) (ad : Option Addr) (cap : Nat) (Sq : List Blk) (bv : Nat) (hi : i ≤ q.length) (hs : q.length ≤ 1000) (ho : OwnL 3 1 (q.flatMap cI) q.length ad cap Sq) : VC Try.prog G 29 [.v (.slice ad q.length cap), .v (.int .i64 (i : Nat)), .v (.slice (some ⟨bv, 0, none⟩) 1 1)] (⟨bv, 3, 1 * 1, cI a⟩ :: Sq) (fun r S => ∃ ad cap', r = .v (.slice ad (q.length + 1) cap') ∧ OwnL 3 1 ((insF q i a).flatMap cI) (insF q i a).length ad cap' S) := by
  rcases ho with ⟨h1, h2, rfl, rfl, rfl⟩ | ⟨b, rfl, h1, h2, rfl⟩
  · obtain rfl := List.length_eq_zero_iff.1 h1
    obtain rfl : i = 0 := Nat.le_zero.1 hi
    exact insertI_v a bv
  · exact insertI_vc q i a cap b bv hi h1 h2 hs

end Go.Proofs.Ythnobhekodiciaa.Tw
