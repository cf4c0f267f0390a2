/-
  What the proof of TreeModel leans on, part 5 of 5: walks of the program's functions at the level of values, and plain facts of what they compute.
-/
import Derived.Test.YthnobhekodiciaaPTreeModel4
namespace Go.Proofs.Ythnobhekodiciaa.Tw
open Go.RowKit V Go.Proofs.Ythnobhekodiciaa.Tr Pk
set_option linter.unusedVariables false
set_option linter.unusedSimpArgs false

noncomputable def insE (t : TreeL) (k : K) (row : Int) (h : Nat) : TreeL × Int := if refF t k = 0 then (if row < 0 then (noT, 3) else if thereB t k h = true then (noT, 9) else if 4000 < (insT t h k row).pages.length then (noT, 10) else (insT t h k row, 0)) else (noT, refF t k)
theorem flat_cI {ls : List Int} {r : D} {S : List Blk} (h : RetL cI 3 1 ls r S) : flatD r = true ∧ ∀ B ∈ S, ∀ d ∈ B.cs, flatD d = true := by
 obtain ⟨ad, cap, rfl, ho⟩ := h
 refine ⟨rfl, fun B hB d hd => ?_⟩
 rcases ho with ⟨_, _, _, _, rfl⟩ | ⟨b, _, _, _, rfl⟩
 ·cases hB
 ·rw [List.mem_singleton] at hB; subst hB
  obtain ⟨n, _, hn⟩ := List.mem_flatMap.1 hd
  rw [cI, List.mem_singleton] at hn; subst hn; rfl
theorem not_there {t : TreeL} {h : Nat} (v : Valid t h) {k : K} (hf : thereB t k h = false) : ∀ x ∈ allE t h, x.1 ≠ k := fun x hx e => by
 have : thereB t k h = true := (thereB_iff v k).2 ((there_iff v k).2 ⟨x.2, by rw [← e]; exact hx⟩)
 rw [hf] at this; cases this
theorem split_vcp {G : List (Nat × List Value)} (L : List PgO) (b : Nat) (root i : Int) (ad : Option Addr) (cap : Nat) (Sx : List Blk) (hi : 0 ≤ i ∧ i < L.length) (p : PgL) (hpp : (L[i.toNat]'(by omega)).p = p) (hn : L.length ≤ 10000) (hox : OwnP L ad cap Sx) (hok : ∀ o ∈ L, okO o) (h5 : p.keys.length = 5) (hkl : p.leaf = true → p.kids.length = 5) (hkn : p.leaf = false → p.kids.length = 6) (hks : ∀ k ∈ p.keys, k.length ≤ 100) (hh : p.high.length ≤ 100) :
 VC Try.prog G 30 [.v (.pointer (some ⟨b, 0, none⟩)), .v (.int .i64 i)] (⟨b, 26, 2, [.v (.slice ad L.length cap), .v (.int .i64 root)]⟩ :: (Sx ++ L.flatMap bO)) (RetS L b root i.toNat p) := by
 subst hpp; exact split_vc L b root i ad cap Sx hi hn hox hok h5 hkl hkn hks hh
theorem root_ins {t u : TreeL} {k up : K} {row kid : Int} {h : Nat} (e : pendF t k row h (h + 1) = (u, some (up, kid))) (hr : u.root = t.root) : insT t h k row = ⟨u.pages ++ [⟨false, [up], [t.root, kid], [], -1⟩], u.pages.length⟩ := by
 unfold insT; rw [← pend_top, e]; show (⟨u.pages ++ [⟨false, [up], [u.root, kid], [], -1⟩], u.pages.length⟩ : TreeL) = _; rw [hr]
theorem few_ins {t u : TreeL} {k up : K} {row kid : Int} {h m : Nat} (hm : m ≤ h) (e : pendF t k row h m = (u, some (up, kid))) (h4 : (putP (u.pg (nodeF t k h t.root m)) up kid).keys.length ≤ 4) : insT t h k row = u.set (nodeF t k h t.root m) (putP (u.pg (nodeF t k h t.root m)) up kid) := by
 have := pend_next hm e
 rw [putT_few h4] at this
 unfold insT; rw [pend_none (h - m) (m + 1) (by omega) (by omega) this]; rfl
theorem full_ins {t u : TreeL} {k up : K} {row kid : Int} {h m : Nat} (hm : m ≤ h) (e : pendF t k row h m = (u, some (up, kid))) (h4 : ¬ (putP (u.pg (nodeF t k h t.root m)) up kid).keys.length ≤ 4) :
  pendF t k row h (m + 1) = (addT u (nodeF t k h t.root m) (lowP (putP (u.pg (nodeF t k h t.root m)) up kid) u.pages.length) (highP (putP (u.pg (nodeF t k h t.root m)) up kid)), some (upK (putP (u.pg (nodeF t k h t.root m)) up kid), (u.pages.length : Int))) := by
 rw [pend_next hm e, putT_full h4]
variable {G : List (Nat × List Value)}

theorem info44_Twf : (Try.prog.info? 44).map (fun i => (i.zero, i.size, i.bytes)) = some (some (.agg #[.bool false, .slice none 0 0, .slice none 0 0, .slice none 0 0, .int .i64 0]), 5, 88) := by kernel_rfl

theorem places26_Twf : ∀ w, ((#[{ name := "Pages", type := 24, offset := 0, embedded := false, tag := "", pkgPath := "", byteOffset := 0 }, { name := "Root", type := 3, offset := 1, embedded := false, tag := "", pkgPath := "", byteOffset := 24 }] : Array Field).mapM fun f => do pure (f.offset, ← sizeOf f.type) : Sem (Array (Nat × Nat))).run Try.prog w = .ok #[(0, 1), (1, 1)] w := fun w => by simp [Try.sizeOf24, Try.sizeOf3]

theorem places44_Twf : ∀ w, ((#[{ name := "Leaf", type := 4, offset := 0, embedded := false, tag := "", pkgPath := "", byteOffset := 0 }, { name := "Keys", type := 42, offset := 1, embedded := false, tag := "", pkgPath := "", byteOffset := 8 }, { name := "Kids", type := 22, offset := 2, embedded := false, tag := "", pkgPath := "", byteOffset := 32 }, { name := "High", type := 31, offset := 3, embedded := false, tag := "", pkgPath := "", byteOffset := 56 }, { name := "Next", type := 3, offset := 4, embedded := false, tag := "", pkgPath := "", byteOffset := 80 }] : Array Field).mapM fun f => do pure (f.offset, ← sizeOf f.type) : Sem (Array (Nat × Nat))).run Try.prog w = .ok #[(0, 1), (1, 1), (2, 1), (3, 1), (4, 1)] w := fun w => by simp [Try.sizeOf22, Try.sizeOf3, Try.sizeOf31, Try.sizeOf4, Try.sizeOf42]

set_option maxHeartbeats 4000000 in
set_option maxRecDepth 100000 in
theorem insert_vc (t : TreeL) (h : Nat) (k : K) (row : Int) (hb : ∀ p ∈ t.pages, p.keys.length ≤ maxLen ∧ p.kids.length ≤ maxLen) (hv : checkF t = 0 → Valid t h) : VC Try.prog G 14 [.agg [.list 5 (t.pages.flatMap cP) t.pages.length, .v (.int .i64 t.root)], .list 1 (k.flatMap cB) k.length, .v (.int .i64 row)] [] (RetE (insE t k row h)) := by
 refine VC.body Try.func14 rfl Try.ntmps14 (Nat.le_of_ble_eq_true rfl) fun X0 w0 S00 => ?_
 have hcv := checked_vp (G := G) t k hb
 unfold cT at hcv
 have hmx : maxLen = 9223372036854775807 := rfl
 refine sr_ ?_
 refine OD.box (ds := [_, _]) (wants_plain rfl) rfl rfl ot rfl rfl (fun b3 => ?_)
 refine OD.alloc (ds := [_, _]) (wants_plain rfl) rfl rfl Try.zeroValue26 rfl (fun b6 => ?_)
 refine os_ mv_ ?_
 refine OD.wk (Wk.as_ (n := 131) (l' := [(1, _), (2, _), (3, _), (6, _)]) (S' := [⟨b6, 26, 2, [_, _]⟩, ⟨b3, 26, 2, [_, _]⟩]) rfl rfl ⟨lk, lk, lk, lk, trivial⟩) ?_
 refine OD.nil ?_
 refine CD.seq ?_
 refine sr_ ?_
 refine os_ (lab_ 1 [_, _]) ?_
 refine os_ mv_ ?_
 refine OD.callP (wants_plain rfl) rfl rfl rfl Try.call22 (hcv) ⟨ot, ot, trivial⟩ ?_
 refine os_ mv_ ?_
 refine OD.wk (Wk.as_ (n := 131) (l' := [(1, _), (2, _), (3, _), (6, _), (8, _)]) (S' := [⟨b6, 26, 2, [_, _]⟩, ⟨b3, 26, 2, [_, _]⟩]) rfl rfl ⟨lk, lk, lk, lk, lk, trivial⟩) ?_
 refine OD.nil ?_
 refine sr_ ?_
 refine os_ mv_ ?_
 refine os_ bn_ ?_
 refine nm_ [1, 2, 3, 6, 8, 23] ?_
 refine CD.cond ot (fun hc0 => ?_) (fun hc0 => ?_)
 ·have hc0' := hc0
  (try simp only [V.cnd, ne_eq] at hc0')
  have hn : ¬ refF t k = 0 := by simpa using hc0
  refine sr_ ?_
  refine OD.still (wants_plain rfl) rfl (still_bld (pl := []) (ds := [_, _]) rfl Try.zeroValue26 Try.runUnderlying26 places26_Twf trivial rfl rfl) ?_
  refine os_ mv_ ?_
  refine OD.store (k := 0) (cs' := [_, _]) (wants_plain rfl) rfl rfl ot rfl rfl ot rfl rfl Try.sizeOf26 rfl rfl rfl ?_
  refine os_ mv_ ?_
  refine OD.wk (Wk.as_ (n := 131) (l' := [(6, _), (7, _)]) (S' := [⟨b6, 26, 2, [_, _]⟩, ⟨b3, 26, 2, [_, _]⟩]) rfl rfl ⟨lk, lk, trivial⟩) ?_
  refine OD.nil ?_
  refine CD.ret ?_
  refine ⟨.inr rfl, _, [], List.nil_sublist _, ret_two Try.results14 (res_cells (k := 0) (ds := [_, _]) (Nat.le_of_ble_eq_true rfl) lk rfl rfl Try.isAgg26 Try.sizeOf26 rfl rfl) (res_tmp (Nat.le_of_ble_eq_true rfl) lk), ?_⟩
  unfold insE; rw [if_neg hn]; exact retE_no _
 ·have hc0' := hc0
  (try simp only [V.cnd, ne_eq] at hc0')
  have hz : refF t k = 0 := by simpa using hc0
  obtain ⟨hc, hkq⟩ := refF_zero hz
  have v := hv hc
  have hkl0 := keyQ_len hkq
  have hfv := find_vp (G := G) t h v k (by omega) (valid_path v k)
  unfold cT at hfv
  have hhigh0 := v.high
  have hmost0 := v.most
  refine CD.skip ?_
  refine CD.seq ?_
  refine sr_ ?_
  refine os_ mv_ ?_
  refine os_ bn_ ?_
  refine nm_ [1, 2, 3, 6, 27] ?_
  refine CD.cond ot (fun hc1 => ?_) (fun hc1 => ?_)
  ·have hc1' := hc1
   (try simp only [V.cnd, ne_eq] at hc1')
   have hrow : row < 0 := by omega
   refine sr_ ?_
   refine OD.still (wants_plain rfl) rfl (still_bld (pl := []) (ds := [_, _]) rfl Try.zeroValue26 Try.runUnderlying26 places26_Twf trivial rfl rfl) ?_
   refine OD.store (k := 0) (cs' := [_, _]) (wants_plain rfl) rfl rfl ot rfl rfl ot rfl rfl Try.sizeOf26 rfl rfl rfl ?_
   refine os_ mv_ ?_
   refine OD.wk (Wk.as_ (n := 131) (l' := [(6, _), (7, _)]) (S' := [⟨b6, 26, 2, [_, _]⟩, ⟨b3, 26, 2, [_, _]⟩]) rfl rfl ⟨lk, lk, trivial⟩) ?_
   refine OD.nil ?_
   refine CD.ret ?_
   refine ⟨.inr rfl, _, [], List.nil_sublist _, ret_two Try.results14 (res_cells (k := 0) (ds := [_, _]) (Nat.le_of_ble_eq_true rfl) lk rfl rfl Try.isAgg26 Try.sizeOf26 rfl rfl) (res_tmp (Nat.le_of_ble_eq_true rfl) lk), ?_⟩
   unfold insE; rw [if_pos hz, if_pos hrow]; exact retE_no _
  ·have hc1' := hc1
   (try simp only [V.cnd, ne_eq] at hc1')
   have hrow : 0 ≤ row := by omega
   refine CD.skip ?_
   refine CD.seq ?_
   refine sr_ ?_
   refine os_ (lab_ 1 [_, _]) ?_
   refine os_ mv_ ?_
   refine OD.callP (wants_plain rfl) rfl rfl rfl Try.call23 (hfv) ⟨ot, ot, trivial⟩ ?_
   refine os_ mv_ ?_
   refine os_ ex_ ?_
   refine os_ ex_ ?_
   refine os_ ex_ ?_
   refine os_ mv_ ?_
   refine os_ mv_ ?_
   refine os_ mv_ ?_
   refine OD.wk (Wk.as_ (n := 131) (l' := [(1, _), (2, _), (3, _), (6, _), (11, _)]) (S' := [⟨b6, 26, 2, [_, _]⟩, ⟨b3, 26, 2, [_, _]⟩]) rfl rfl ⟨lk, lk, lk, lk, lk, trivial⟩) ?_
   refine OD.nil ?_
   refine sr_ ?_
   refine os_ mv_ ?_
   refine nm_ [1, 2, 3, 6, 36] ?_
   refine CD.cond ot (fun hc2 => ?_) (fun hc2 => ?_)
   ·have hc2' := hc2
    (try simp only [V.cnd, ne_eq] at hc2')
    have hth : thereB t k h = true := hc2
    refine sr_ ?_
    refine OD.still (wants_plain rfl) rfl (still_bld (pl := []) (ds := [_, _]) rfl Try.zeroValue26 Try.runUnderlying26 places26_Twf trivial rfl rfl) ?_
    refine OD.store (k := 0) (cs' := [_, _]) (wants_plain rfl) rfl rfl ot rfl rfl ot rfl rfl Try.sizeOf26 rfl rfl rfl ?_
    refine os_ mv_ ?_
    refine OD.wk (Wk.as_ (n := 131) (l' := [(6, _), (7, _)]) (S' := [⟨b6, 26, 2, [_, _]⟩, ⟨b3, 26, 2, [_, _]⟩]) rfl rfl ⟨lk, lk, trivial⟩) ?_
    refine OD.nil ?_
    refine CD.ret ?_
    refine ⟨.inr rfl, _, [], List.nil_sublist _, ret_two Try.results14 (res_cells (k := 0) (ds := [_, _]) (Nat.le_of_ble_eq_true rfl) lk rfl rfl Try.isAgg26 Try.sizeOf26 rfl rfl) (res_tmp (Nat.le_of_ble_eq_true rfl) lk), ?_⟩
    unfold insE; rw [if_pos hz, if_neg (by omega), if_pos hth]; exact retE_no _
   ·have hc2' := hc2
    (try simp only [V.cnd, ne_eq] at hc2')
    have hth : thereB t k h = false := hc2
    have hne := not_there v hth
    refine CD.skip ?_
    refine sr_ ?_
    refine os_ (lab_ 1 [_, _]) ?_
    refine OD.call (wants_plain rfl) rfl rfl rfl Try.call24 (own_vc t h v) ⟨ot, trivial⟩ (perm_none _) ?_
    rintro _ _ ⟨L, ad, cap, Sx, rfl, hox, hok, hL, rfl⟩
    refine OD.perm (S' := ⟨b6, 26, 2, [.v (.slice none 0 0), .v (.int .i64 0)]⟩ :: ⟨b3, 26, 2, [.list 5 (t.pages.flatMap cP) t.pages.length, .v (.int .i64 t.root)]⟩ :: (Sx ++ L.flatMap bO)) (perm_q11 (A := [_, _])) ?_
    refine OD.alloc (ds := [_, _]) (wants_plain rfl) rfl rfl Try.zeroValue26 rfl (fun b12 => ?_)
    refine OD.store (k := 0) (cs' := [_, _]) (wants_plain rfl) rfl rfl ot rfl rfl ot rfl rfl Try.sizeOf26 rfl rfl rfl ?_
    refine OD.wk (Wk.as_ (n := 131) (l' := [(1, _), (2, _), (6, _), (12, _)]) (S' := (⟨b12, 26, 2, [_, _]⟩ :: ⟨b6, 26, 2, [_, _]⟩ :: ⟨b3, 26, 2, [_, _]⟩ :: (Sx ++ (L.flatMap bO)))) rfl rfl ⟨lk, lk, lk, lk, trivial⟩) ?_
    refine OD.nil ?_
    refine sr_ ?_
    refine os_ (lab_ 0 [_, _]) ?_
    refine os_ mv_ ?_
    refine OD.lookC (wants_plain rfl) rfl rfl rfl Try.call25 (path_vc t h v k) (fun r S => flat_cI) ⟨⟨_, ot, (by have := view_T (root := t.root) hox hok (fun B hB => List.mem_cons_of_mem ⟨b12, 26, 2, [.v (.slice ad L.length cap), .v (.int .i64 t.root)]⟩ (List.mem_cons_of_mem ⟨b6, 26, 2, [.v (.slice none 0 0), .v (.int .i64 0)]⟩ (List.mem_cons_of_mem ⟨b3, 26, 2, [.list 5 (t.pages.flatMap cP) t.pages.length, .v (.int .i64 t.root)]⟩ hB))); rw [hL] at this; exact this)⟩, ⟨_, ot, view_same⟩, trivial⟩ ?_
    rintro _ Sw ⟨aw, cw, rfl, how⟩
    refine OD.giveL (t := 42) (Sq := Sw) lk how (fm_len cI_len _) (List.Perm.refl _) ?_
    refine os_ mv_ ?_
    refine OD.wk (Wk.as_ (n := 131) (l' := [(1, _), (2, _), (6, _), (12, _), (13, _)]) (S' := (⟨b12, 26, 2, [_, _]⟩ :: ⟨b6, 26, 2, [_, _]⟩ :: ⟨b3, 26, 2, [_, _]⟩ :: (Sx ++ (L.flatMap bO)))) rfl rfl ⟨lk, lk, lk, lk, lk, trivial⟩) ?_
    refine OD.nil ?_
    refine sr_ ?_
    refine os_ mv_ ?_
    refine OD.callP (wants_plain rfl) rfl rfl rfl Try.call26 (cloneB_vp k (by omega)) ⟨ot, trivial⟩ ?_
    refine os_ mv_ ?_
    refine os_ mv_ ?_
    refine os_ mv_ ?_
    refine OD.wk (Wk.as_ (n := 131) (l' := [(6, _), (12, _), (13, _), (14, _), (15, _)]) (S' := (⟨b12, 26, 2, [_, _]⟩ :: ⟨b6, 26, 2, [_, _]⟩ :: ⟨b3, 26, 2, [_, _]⟩ :: (Sx ++ (L.flatMap bO)))) rfl rfl ⟨lk, lk, lk, lk, lk, trivial⟩) ?_
    refine OD.nil ?_
    refine CD.cut (fun y__ => ∃ (L : List PgO), ∃ (ad : Option Addr), ∃ (cap : Nat), ∃ (Sx : List Blk), ∃ (root : Int), (OwnP L ad cap Sx) ∧ (∀ o ∈ L, okO o) ∧ (insT t h k row = ⟨L.map PgO.p, root⟩) ∧ (L.length ≤ 10000) ∧ y__ = (⟨131, [(6, .v (.pointer (some ⟨b6, 0, none⟩))), (12, .v (.pointer (some ⟨b12, 0, none⟩)))], (⟨b12, 26, 2, [.v (.slice ad L.length cap), .v (.int .i64 root)]⟩ :: ⟨b6, 26, 2, [.v (.slice none 0 0), .v (.int .i64 0)]⟩ :: (Sx ++ L.flatMap bO))⟩ : St)) ?_ ?_
    ·skip
     refine sr_ ?_
     refine os_ mv_ ?_
     refine os_ ln_ ?_
     refine OD.still (wants_plain rfl) rfl (still_bin (r := .int .i64 ((h : Nat) : Int)) rfl ot opd_const (bin_sub (by rw [path_len, show (((h + 1 : Nat) : Int) - 1) = (h : Int) from by omega]; exact wrap_i64 (by omega) (by omega)))) ?_
     refine os_ mv_ ?_
     refine OD.wk (Wk.as_ (n := 131) (l' := [(6, _), (12, _), (13, _), (14, _), (15, _), (16, _)]) (S' := (⟨b12, 26, 2, [_, _]⟩ :: ⟨b6, 26, 2, [_, _]⟩ :: ⟨b3, 26, 2, [_, _]⟩ :: (Sx ++ (L.flatMap bO)))) rfl rfl ⟨lk, lk, lk, lk, lk, lk, trivial⟩) ?_
     refine OD.nil ?_
     refine CD.block ?_
     refine CD.wk (Wk.asS (n := 131) (l' := [(6, .v (.pointer (some ⟨b6, 0, none⟩))), (12, .v (.pointer (some ⟨b12, 0, none⟩))), (13, .list 1 ((pathF t k h t.root).flatMap cI) (pathF t k h t.root).length), (14, .list 1 (k.flatMap cB) k.length), (15, .v (.int .i64 row)), (16, .v (.int .i64 ((h : Int) - ((0) : Nat))))]) (S' := (⟨b12, 26, 2, [.v (.slice ad L.length cap), .v (.int .i64 t.root)]⟩ :: ⟨b6, 26, 2, [.v (.slice none 0 0), .v (.int .i64 0)]⟩ :: (Sx ++ L.flatMap bO))) rfl (by repeat (first | exact List.Sublist.refl _ | apply List.Sublist.cons_cons | apply List.Sublist.cons)) ⟨lq_, lq_, lq_, lq_, lq_, lq_, trivial⟩) (CD.loop (fun (gh__ : Nat × K × Int × List PgO × Option Addr × Nat × List Blk) y__ => match gh__ with | (m, up, kid, L, ad, cap, Sx) => (m ≤ h + 1) ∧ (pendF t k row h m = (⟨L.map PgO.p, t.root⟩, some (up, kid))) ∧ (OwnP L ad cap Sx) ∧ (∀ o ∈ L, okO o) ∧ y__ = (⟨131, [(6, .v (.pointer (some ⟨b6, 0, none⟩))), (12, .v (.pointer (some ⟨b12, 0, none⟩))), (13, .list 1 ((pathF t k h t.root).flatMap cI) (pathF t k h t.root).length), (14, .list 1 (up.flatMap cB) up.length), (15, .v (.int .i64 kid)), (16, .v (.int .i64 ((h : Int) - (m : Nat))))], (⟨b12, 26, 2, [.v (.slice ad L.length cap), .v (.int .i64 t.root)]⟩ :: ⟨b6, 26, 2, [.v (.slice none 0 0), .v (.int .i64 0)]⟩ :: (Sx ++ L.flatMap bO))⟩ : St)) (fun (gh__ : Nat × K × Int × List PgO × Option Addr × Nat × List Blk) => match gh__ with | (m, up, kid, L, ad, cap, Sx) => h + 1 - m) (0, k, row, L, ad, cap, Sx) ⟨(Nat.zero_le _), (by unfold pendF; rw [if_pos rfl, hL]), hox, hok, rfl⟩ ?_)
     rintro ⟨m, up, kid, L, ad, cap, Sx⟩ _ ⟨hm0, he, hox, hok, rfl⟩
     refine CD.seq ?_
     refine CD.block ?_
     refine CD.seq ?_
     refine sr_ ?_
     refine os_ mv_ ?_
     refine os_ bn_ ?_
     refine nm_ [6, 12, 13, 14, 15, 16, 52] ?_
     refine CD.cond ot (fun hc3 => ?_) (fun hc3 => ?_)
     ·have hc3' := hc3
      (try simp only [V.cnd, ne_eq] at hc3')
      obtain rfl : m = h + 1 := by omega
      obtain ⟨s1, s2, s3, s4⟩ := pend_size v hne hkl0 hrow (by omega) he
      have hLm : L.length ≤ t.pages.length + (h + 1) := by rw [← List.length_map (f := PgO.p)]; exact s2
      have hul := pend_up v hne hkl0 hrow (by omega) he
      refine sr_ ?_
      refine os_ (fa_ 0) ?_
      refine os_ (lb_ 0) ?_
      refine os_ mv_ ?_
      refine OD.bldS (pl := numD 0 [_]) (zvs := [.slice none 0 0]) (ds := [_]) (wants_plain rfl) rfl rfl Try.zeroValue31 Try.runUnderlying42 Try.sizeOf31 rfl rfl (by kernel_rfl) ⟨rfl, ot, trivial⟩ (by exact rfl) (fill_full (by exact rfl) (by exact rfl) (by exact rfl)) (fun b56 => ?_)
      refine os_ (fa_ 1) ?_
      refine os_ (lb_ 1) ?_
      refine os_ mv_ ?_
      refine OD.bldS (pl := numD 0 [_, _]) (zvs := [.int .i64 0, .int .i64 0]) (ds := [_, _]) (wants_plain rfl) rfl rfl Try.zeroValue3 Try.runUnderlying22 Try.sizeOf3 rfl rfl (by kernel_rfl) ⟨rfl, ot, rfl, ot, trivial⟩ (by exact rfl) (fill_full (by exact rfl) (by exact rfl) (by exact rfl)) (fun b60 => ?_)
      refine OD.still (wants_plain rfl) rfl (still_bld (pl := [(1, _), (2, _), (4, _)]) (ds := [_, _, _, _, _]) rfl Try.zeroValue44 Try.runUnderlying44 places44_Twf ⟨rfl, ot, rfl, ot, rfl, opd_const, trivial⟩ rfl rfl) ?_
      refine OD.bldS (pl := numD 0 [_]) (zvs := [.bool false, .slice none 0 0, .slice none 0 0, .slice none 0 0, .int .i64 0]) (ds := [_, _, _, _, _]) (wants_plain rfl) rfl rfl Try.zeroValue44 Try.runUnderlying24 Try.sizeOf44 rfl rfl (by kernel_rfl) ⟨rfl, ot, trivial⟩ (by exact rfl) (fill_full (by exact rfl) (by exact rfl) (by exact rfl)) (fun b62 => ?_)
      refine OD.cover0 (cs' := gO (⟨⟨false, [up], [t.root, kid], [], -1⟩, some ⟨b56, 0, none⟩, 1, [⟨b56, 31, 1 * 1, List.flatMap cK [up]⟩], some ⟨b60, 0, none⟩, 2, [⟨b60, 3, 2 * 1, List.flatMap cI [t.root, kid]⟩]⟩ : PgO)) rfl ⟨view_same, view_same, view_same, view_nil, view_same, trivial⟩ ?_
      refine OD.give (k := 0) (t := 62) (sz := 5) (m := 1) rfl lk rfl rfl rfl (Nat.le_refl _) (by decide) ?_
      refine OD.appendG (ls := L) (new := [(⟨⟨false, [up], [t.root, kid], [], -1⟩, some ⟨b56, 0, none⟩, 1, [⟨b56, 31, 1 * 1, List.flatMap cK [up]⟩], some ⟨b60, 0, none⟩, 2, [⟨b60, 3, 2 * 1, List.flatMap cI [t.root, kid]⟩]⟩ : PgO)]) (Sq := Sx) gO_len gO_one (wants_plain rfl) rfl rfl Try.underlying24 info44_Twf rfl (by decide) ot hox (perm_r12 (A := [_, _, _, _])) ot (by simp) (by simp only [maxLen, List.length_cons, List.length_nil] at *; omega) (by simp only [List.length_cons, List.length_nil] at *; omega) (fun b63 cp63 h163 h263 => ?_)
      refine os_ (fa_ 0) ?_
      refine OD.store (k := 3) (cs' := [_, _]) (wants_plain rfl) rfl rfl ot rfl rfl ot rfl rfl Try.sizeOf24 rfl rfl rfl ?_
      refine OD.wk (Wk.as_ (n := 131) (l' := [(6, _), (12, _)]) (S' := (_ :: _ :: _ :: ⟨b12, 26, 2, [_, _]⟩ :: ⟨b6, 26, 2, [_, _]⟩ :: (L.flatMap bO))) rfl rfl ⟨lk, lk, trivial⟩) ?_
      refine OD.nil ?_
      refine sr_ ?_
      refine os_ (fa_ 0) ?_
      refine os_ (lb_ 3) ?_
      refine os_ ln_ ?_
      refine OD.still (wants_plain rfl) rfl (still_bin (r := .int .i64 (L.length : Nat)) rfl ot opd_const (bin_sub (by rw [List.length_append, show (((L.length + [(⟨⟨false, [up], [t.root, kid], [], -1⟩, some ⟨b56, 0, none⟩, 1, [⟨b56, 31, 1 * 1, List.flatMap cK [up]⟩], some ⟨b60, 0, none⟩, 2, [⟨b60, 3, 2 * 1, List.flatMap cI [t.root, kid]⟩]⟩ : PgO)].length : Nat) : Int) - 1) = (L.length : Int) from by simp]; exact wrap_i64 (by omega) (by omega)))) ?_
      refine os_ (fa_ 1) ?_
      refine OD.store (k := 3) (cs' := [_, _]) (wants_plain rfl) rfl rfl ot rfl rfl ot rfl rfl Try.sizeOf3 rfl rfl rfl ?_
      have hX : ((⟨b60, 3, 2 * 1, List.flatMap cI [t.root, kid]⟩ : Blk) :: ⟨b56, 31, 1 * 1, List.flatMap cK [up]⟩ :: L.flatMap bO).Perm ((L ++ [(⟨⟨false, [up], [t.root, kid], [], -1⟩, some ⟨b56, 0, none⟩, 1, [⟨b56, 31, 1 * 1, List.flatMap cK [up]⟩], some ⟨b60, 0, none⟩, 2, [⟨b60, 3, 2 * 1, List.flatMap cI [t.root, kid]⟩]⟩ : PgO)]).flatMap bO) := by rw [bO_snoc]; exact (List.Perm.swap _ _ _).trans (List.perm_append_comm (l₁ := [_, _]))
      refine OD.perm (S' := ⟨b12, 26, 2, [.v (.slice (some ⟨b63, 0, none⟩) (L ++ [(⟨⟨false, [up], [t.root, kid], [], -1⟩, some ⟨b56, 0, none⟩, 1, [⟨b56, 31, 1 * 1, List.flatMap cK [up]⟩], some ⟨b60, 0, none⟩, 2, [⟨b60, 3, 2 * 1, List.flatMap cI [t.root, kid]⟩]⟩ : PgO)]).length cp63), .v (.int .i64 (L.length : Nat))]⟩ :: ⟨b6, 26, 2, [.v (.slice none 0 0), .v (.int .i64 0)]⟩ :: (([⟨b63, 44, cp63 * 5, List.flatMap gO (L ++ [(⟨⟨false, [up], [t.root, kid], [], -1⟩, some ⟨b56, 0, none⟩, 1, [⟨b56, 31, 1 * 1, List.flatMap cK [up]⟩], some ⟨b60, 0, none⟩, 2, [⟨b60, 3, 2 * 1, List.flatMap cI [t.root, kid]⟩]⟩ : PgO)])⟩] : List Blk) ++ (L ++ [(⟨⟨false, [up], [t.root, kid], [], -1⟩, some ⟨b56, 0, none⟩, 1, [⟨b56, 31, 1 * 1, List.flatMap cK [up]⟩], some ⟨b60, 0, none⟩, 2, [⟨b60, 3, 2 * 1, List.flatMap cI [t.root, kid]⟩]⟩ : PgO)]).flatMap bO)) (by exact (List.perm_middle (l₁ := [_, _, _])).trans (List.Perm.cons _ ((List.perm_middle (l₁ := [_, _, _])).trans (List.Perm.cons _ (List.Perm.cons _ hX))))) ?_
      refine OD.wk (Wk.as_ (n := 131) (l' := [(6, _), (12, _)]) (S' := (⟨b12, 26, 2, [_, _]⟩ :: ⟨b6, 26, 2, [_, _]⟩ :: ([⟨b63, 44, cp63 * 5, List.flatMap gO (L ++ [(⟨⟨false, [up], [t.root, kid], [], -1⟩, some ⟨b56, 0, none⟩, 1, [⟨b56, 31, 1 * 1, List.flatMap cK [up]⟩], some ⟨b60, 0, none⟩, 2, [⟨b60, 3, 2 * 1, List.flatMap cI [t.root, kid]⟩]⟩ : PgO)])⟩] ++ ((L ++ [(⟨⟨false, [up], [t.root, kid], [], -1⟩, some ⟨b56, 0, none⟩, 1, [⟨b56, 31, 1 * 1, List.flatMap cK [up]⟩], some ⟨b60, 0, none⟩, 2, [⟨b60, 3, 2 * 1, List.flatMap cI [t.root, kid]⟩]⟩ : PgO)]).flatMap bO)))) rfl rfl ⟨lk, lk, trivial⟩) ?_
      refine OD.nil ?_
      refine CD.exit ?_
      refine ⟨(⟨131, [(6, .v (.pointer (some ⟨b6, 0, none⟩))), (12, .v (.pointer (some ⟨b12, 0, none⟩)))], (⟨b12, 26, 2, [.v (.slice ((some ⟨b63, 0, none⟩)) ((L ++ [(⟨⟨false, [up], [t.root, kid], [], -1⟩, some ⟨b56, 0, none⟩, 1, [⟨b56, 31, 1 * 1, List.flatMap cK [up]⟩], some ⟨b60, 0, none⟩, 2, [⟨b60, 3, 2 * 1, List.flatMap cI [t.root, kid]⟩]⟩ : PgO)])).length (cp63)), .v (.int .i64 ((L.length : Nat)))]⟩ :: ⟨b6, 26, 2, [.v (.slice none 0 0), .v (.int .i64 0)]⟩ :: (([⟨b63, 44, cp63 * 5, List.flatMap gO (L ++ [(⟨⟨false, [up], [t.root, kid], [], -1⟩, some ⟨b56, 0, none⟩, 1, [⟨b56, 31, 1 * 1, List.flatMap cK [up]⟩], some ⟨b60, 0, none⟩, 2, [⟨b60, 3, 2 * 1, List.flatMap cI [t.root, kid]⟩]⟩ : PgO)])⟩]) ++ ((L ++ [(⟨⟨false, [up], [t.root, kid], [], -1⟩, some ⟨b56, 0, none⟩, 1, [⟨b56, 31, 1 * 1, List.flatMap cK [up]⟩], some ⟨b60, 0, none⟩, 2, [⟨b60, 3, 2 * 1, List.flatMap cI [t.root, kid]⟩]⟩ : PgO)])).flatMap bO))⟩ : St), Wk.asS (n := 131) rfl (by repeat (first | exact List.Sublist.refl _ | apply List.Sublist.cons_cons | apply List.Sublist.cons)) ⟨lq_, lq_, trivial⟩, (L ++ [(⟨⟨false, [up], [t.root, kid], [], -1⟩, some ⟨b56, 0, none⟩, 1, [⟨b56, 31, 1 * 1, List.flatMap cK [up]⟩], some ⟨b60, 0, none⟩, 2, [⟨b60, 3, 2 * 1, List.flatMap cI [t.root, kid]⟩]⟩ : PgO)]), (some ⟨b63, 0, none⟩), cp63, [⟨b63, 44, cp63 * 5, List.flatMap gO (L ++ [(⟨⟨false, [up], [t.root, kid], [], -1⟩, some ⟨b56, 0, none⟩, 1, [⟨b56, 31, 1 * 1, List.flatMap cK [up]⟩], some ⟨b60, 0, none⟩, 2, [⟨b60, 3, 2 * 1, List.flatMap cI [t.root, kid]⟩]⟩ : PgO)])⟩], (L.length : Nat), (ownL_row h163 h263), (fun o ho => by rcases List.mem_append.1 ho with ho | ho; exact hok o ho; rw [List.mem_singleton] at ho; subst ho; exact ⟨ownL_row (Nat.le_refl _) (show 1 ≤ maxLen by decide), ownL_row (Nat.le_refl _) (show 2 ≤ maxLen by decide)⟩), (by rw [root_ins he rfl]; show (⟨List.map PgO.p L ++ [_], ((List.map PgO.p L).length : Int)⟩ : TreeL) = _; rw [List.map_append, List.length_map]; rfl), (by rw [List.length_append]; simp; omega), rfl⟩
     ·have hc3' := hc3
      (try simp only [V.cnd, ne_eq] at hc3')
      have hm : m ≤ h := by omega
      have hP := pend_ok v hne hkl0 hrow hm he
      obtain ⟨s1, s2, s3, s4⟩ := pend_size v hne hkl0 hrow (by omega) he
      have hLm : L.length ≤ t.pages.length + m := by rw [← List.length_map (f := PgO.p)]; exact s2
      have hrg : 0 ≤ (nodeF t k h t.root m) ∧ (nodeF t k h t.root m) < L.length := by have := hP.rg; rw [← List.length_map (f := PgO.p)]; exact this
      have hj : (nodeF t k h t.root m).toNat < L.length := by omega
      have hpj : L[(nodeF t k h t.root m).toNat].p = (⟨L.map PgO.p, t.root⟩ : TreeL).pg (nodeF t k h t.root m) := map_pg (t := (⟨L.map PgO.p, t.root⟩ : TreeL)) rfl hP.rg hj
      have po : PageOk ((⟨L.map PgO.p, t.root⟩ : TreeL).pg (nodeF t k h t.root m)) (⟨L.map PgO.p, t.root⟩ : TreeL).pages.length := s4 _ (pg_mem hP.rg)
      have full := put_full po hP.out hP.len hP.high hP.nn hP.nnl
      obtain ⟨bx, rfl, hxl, hxc, rfl⟩ := hox.pos (by omega)
      have hoj := hok _ (List.getElem_mem hj)
      obtain ⟨o, ho⟩ : ∃ o, o = L[(nodeF t k h t.root m).toNat] := ⟨_, rfl⟩
      rw [← ho] at hoj hpj
      rcases o with ⟨p, ak, ck, sk, ai, ci, si⟩
      have hpe : p = (⟨L.map PgO.p, t.root⟩ : TreeL).pg (nodeF t k h t.root m) := hpj
      obtain ⟨hk1, hi1⟩ : OwnKs p.keys ak ck sk ∧ OwnI p.kids ai ci si := hoj
      rw [← hpe] at po full
      have hfew := po.few
      have hpl := place_le po up
      have hul := hP.len.2
      have hkids : (if p.leaf = true then placeF p up else placeF p up + 1) ≤ p.kids.length ∧ p.kids.length ≤ 5 := by cases hlf : p.leaf; (have := (po.node hlf).1; rw [if_neg (by decide)]; omega); (have := po.leaf hlf; rw [if_pos rfl]; omega)
      have hW : h - m < (pathF t k h t.root).length := by rw [path_len]; omega
      have hWn : (pathF t k h t.root)[h - m] = (nodeF t k h t.root m) := by have := path_node (t := t) (k := k) (h := h) (i := t.root) hm; exact (List.getElem?_eq_some_iff.1 this).2
      have hhigh := v.high
      have hmost := v.most
      have hperm : (L.flatMap bO).Perm (sk ++ (si ++ ((L.eraseIdx (nodeF t k h t.root m).toNat).flatMap bO))) := by have := perm_at bO hj; rw [← ho] at this; exact this.trans (by rw [show bO ⟨p, ak, ck, sk, ai, ci, si⟩ = sk ++ si from rfl, List.append_assoc])
      refine CD.perm (S' := ⟨b12, 26, 2, [.v (.slice (some ⟨bx, 0, none⟩) L.length cap), .v (.int .i64 t.root)]⟩ :: ⟨b6, 26, 2, [.v (.slice none 0 0), .v (.int .i64 0)]⟩ :: ⟨bx, 44, cap * 5, List.flatMap gO L⟩ :: (sk ++ (si ++ ((L.eraseIdx (nodeF t k h t.root m).toNat).flatMap bO)))) (List.Perm.cons _ (List.Perm.cons _ (List.Perm.cons _ hperm))) ?_
      refine CD.skip ?_
      refine CD.seq ?_
      refine CD.draw (bks _) (by kernel_rfl) (fun _ h => h) ?_
      refine a0_ 0 rfl (fa_ 0) ?_
      refine a0_ 1 rfl (lb_ 0) ?_
      refine a0_ 2 rfl mv_ ?_
      refine a0_ 3 rfl mv_ ?_
      refine a0_ 4 rfl (ix_ 1 (h := by first | exact .l (j := h - m) (by omega) hW | exact .r (j := h - m) (by omega) hW)) ?_
      refine a0_ 5 rfl (still_r1 (mk := Op.load 3) rfl ot (ld_fm0 (d := .v (.int .i64 (nodeF t k h t.root m))) (i := h - m) cI_len Try.isAgg3 hW (by rw [hWn]; rfl))) ?_
      refine a0_ 6 rfl (ix_ 5 (h := by first | exact .l (j := (nodeF t k h t.root m).toNat) (Int.toNat_of_nonneg hrg.1).symm hj | exact .r (j := (nodeF t k h t.root m).toNat) (Int.toNat_of_nonneg hrg.1).symm hj)) ?_
      refine a0_ 7 rfl mv_ ?_
      refine AD0.later rfl ?_
      refine AD.wk (y := ⟨131, [(6, _), (12, _), (13, _), (14, _), (15, _), (16, _), (17, _)], (⟨b12, 26, 2, [_, _]⟩ :: ⟨b6, 26, 2, [_, _]⟩ :: _ :: (sk ++ (si ++ ((L.eraseIdx (nodeF t k h t.root m).toNat).flatMap bO))))⟩) (Wk.as_ rfl rfl ⟨lk, lk, lk, lk, lk, lk, lk, trivial⟩) rfl ?_
      refine AD.done (by kernel_rfl) ?_
      refine sr_ ?_
      refine os_ mv_ ?_
      refine os_ nc_ ?_
      refine OD.still (wants_plain rfl) rfl (still_r1 (mk := Op.load 44) rfl ot (ld_rows (k := 2) (ls := L) (i := (nodeF t k h t.root m).toNat) gO_len rfl rfl rfl Try.isAgg44 Try.sizeOf44 hj)) ?_
      refine os_ mv_ ?_
      refine OD.look (wants_plain rfl) rfl rfl rfl Try.call27 (place_vp p up po.rise (by omega)) rfl ⟨⟨_, ot, (by rw [← ho]; exact view_agg ⟨view_same, view_own hk1 (fm_len cK_len _) (fun B hB => .tail _ (.tail _ (.tail _ (List.mem_append_left _ hB)))), view_own hi1 (fm_len cI_len _) (fun B hB => .tail _ (.tail _ (.tail _ (List.mem_append_right _ (List.mem_append_left _ hB))))), view_same, view_same, trivial⟩)⟩, ⟨_, ot, view_same⟩, trivial⟩ ?_
      refine os_ mv_ ?_
      refine OD.wk (Wk.as_ (n := 131) (l' := [(6, _), (12, _), (13, _), (14, _), (15, _), (16, _), (17, _), (18, _)]) (S' := (⟨b12, 26, 2, [_, _]⟩ :: ⟨b6, 26, 2, [_, _]⟩ :: _ :: (sk ++ (si ++ ((L.eraseIdx (nodeF t k h t.root m).toNat).flatMap bO))))) rfl rfl ⟨lk, lk, lk, lk, lk, lk, lk, lk, trivial⟩) ?_
      refine OD.nil ?_
      refine sr_ ?_
      refine os_ mv_ ?_
      refine os_ mv_ ?_
      refine os_ nc_ ?_
      refine os_ (fa_ 1) ?_
      refine OD.still (wants_plain rfl) rfl (still_r1 (mk := Op.load 42) rfl ot (ld_row (k := 2) (j := 1) (d := .v (.slice ak p.keys.length ck)) (ls := L) gO_len rfl rfl rfl Try.isAgg42 hj (by rw [← ho]; rfl))) ?_
      refine os_ mv_ ?_
      refine os_ mv_ ?_
      refine OD.bldS (pl := numD 0 [_]) (zvs := [.slice none 0 0]) (ds := [_]) (wants_plain rfl) rfl rfl Try.zeroValue31 Try.runUnderlying42 Try.sizeOf31 rfl rfl (by kernel_rfl) ⟨rfl, ot, trivial⟩ (by exact rfl) (fill_full (by exact rfl) (by exact rfl) (by exact rfl)) (fun b89 => ?_)
      refine OD.call (wants_plain rfl) rfl rfl rfl Try.call28 (insertK_vw p.keys (placeF p up) up ak ck sk b89 hpl (by omega) hk1) ⟨ot, ot, ot, trivial⟩ (List.Perm.cons _ (perm_r12 (A := [_, _, _]))) ?_
      rintro _ Sk2 ⟨ak2, ck2, rfl, hk2⟩
      refine OD.perm (perm_q12 (A := [_, _, _])) ?_
      refine os_ nc_ ?_
      refine os_ (fa_ 1) ?_
      refine OD.storeAt (k := 2) (cs' := List.flatMap gO (L.set (nodeF t k h t.root m).toNat (⟨{ p with keys := insF p.keys (placeF p up) up }, ak2, ck2, Sk2, ai, ci, si⟩ : PgO))) (wants_plain rfl) rfl rfl ot rfl rfl ot rfl rfl Try.sizeOf42 rfl (by show 0 + (nodeF t k h t.root m).toNat * 5 + 1 + 1 ≤ (List.flatMap gO L).length; rw [fm_len gO_len]; omega) (by show (L.flatMap gO).set (0 + (nodeF t k h t.root m).toNat * 5 + 1) _ = _; rw [Nat.zero_add]; exact fm_cellset gO_len (by decide) hj (by rw [← ho]; unfold gO; rw [insF_len hpl]; rfl)) ?_
      refine OD.wk (Wk.as_ (n := 131) (l' := [(6, _), (12, _), (13, _), (15, _), (16, _), (17, _), (18, _)]) (S' := (⟨b12, 26, 2, [_, _]⟩ :: ⟨b6, 26, 2, [_, _]⟩ :: _ :: (Sk2 ++ (si ++ ((L.eraseIdx (nodeF t k h t.root m).toNat).flatMap bO))))) rfl rfl ⟨lk, lk, lk, lk, lk, lk, lk, trivial⟩) ?_
      refine OD.nil ?_
      refine CD.cut (fun y__ => y__ = (⟨131, [(6, .v (.pointer (some ⟨b6, 0, none⟩))), (12, .v (.pointer (some ⟨b12, 0, none⟩))), (13, .list 1 ((pathF t k h t.root).flatMap cI) (pathF t k h t.root).length), (15, .v (.int .i64 kid)), (16, .v (.int .i64 ((h : Int) - (m : Nat)))), (17, .v (.pointer (some ⟨bx, 0 + (nodeF t k h t.root m).toNat * 5, none⟩))), (18, .v (.int .i64 (((if p.leaf = true then placeF p up else placeF p up + 1) : Nat) : Int)))], (⟨b12, 26, 2, [.v (.slice (some ⟨bx, 0, none⟩) L.length cap), .v (.int .i64 t.root)]⟩ :: ⟨b6, 26, 2, [.v (.slice none 0 0), .v (.int .i64 0)]⟩ :: ⟨bx, 44, cap * 5, List.flatMap gO (L.set (nodeF t k h t.root m).toNat (⟨{ p with keys := insF p.keys (placeF p up) up }, ak2, ck2, Sk2, ai, ci, si⟩ : PgO))⟩ :: (Sk2 ++ (si ++ ((L.eraseIdx (nodeF t k h t.root m).toNat).flatMap bO))))⟩ : St)) ?_ ?_
      ·skip
       refine sr_ ?_
       refine os_ mv_ ?_
       refine os_ nc_ ?_
       refine os_ (fa_ 0) ?_
       refine OD.still (wants_plain rfl) rfl (still_r1 (mk := Op.load 4) rfl ot (ld_row (k := 2) (j := 0) (d := .v (.bool p.leaf)) (ls := (L.set (nodeF t k h t.root m).toNat (⟨{ p with keys := insF p.keys (placeF p up) up }, ak2, ck2, Sk2, ai, ci, si⟩ : PgO))) gO_len rfl rfl rfl Try.isAgg4 (by rw [List.length_set]; exact hj) (by rw [List.getElem_set_self]; rfl))) ?_
       refine os_ un_ ?_
       refine OD.wk (Wk.as_ (n := 131) (l' := [(6, _), (12, _), (13, _), (15, _), (16, _), (17, _), (18, _), (97, _)]) (S' := (⟨b12, 26, 2, [_, _]⟩ :: ⟨b6, 26, 2, [_, _]⟩ :: _ :: (Sk2 ++ (si ++ ((L.eraseIdx (nodeF t k h t.root m).toNat).flatMap bO))))) rfl rfl ⟨lk, lk, lk, lk, lk, lk, lk, lk, trivial⟩) ?_
       refine OD.nil ?_
       refine CD.cond ot (fun hc4 => ?_) (fun hc4 => ?_)
       ·have hc4' := hc4
        (try simp only [V.cnd, ne_eq] at hc4')
        have hka : (((if p.leaf = true then placeF p up else placeF p up + 1) : Nat) : Int) = (((placeF p up) : Nat) : Int) + 1 := by rw [if_neg (by simpa using hc4)]; rfl
        refine CD.region ?_
        refine os_ mv_ ?_
        refine os_ bn_ ?_
        refine os_ mv_ ?_
        refine nm_ [6, 12, 13, 15, 16, 17, 18] ?_
        refine ⟨(⟨131, [(6, .v (.pointer (some ⟨b6, 0, none⟩))), (12, .v (.pointer (some ⟨b12, 0, none⟩))), (13, .list 1 ((pathF t k h t.root).flatMap cI) (pathF t k h t.root).length), (15, .v (.int .i64 kid)), (16, .v (.int .i64 ((h : Int) - (m : Nat)))), (17, .v (.pointer (some ⟨bx, 0 + (nodeF t k h t.root m).toNat * 5, none⟩))), (18, .v (.int .i64 (((if p.leaf = true then placeF p up else placeF p up + 1) : Nat) : Int)))], (⟨b12, 26, 2, [.v (.slice (some ⟨bx, 0, none⟩) L.length cap), .v (.int .i64 t.root)]⟩ :: ⟨b6, 26, 2, [.v (.slice none 0 0), .v (.int .i64 0)]⟩ :: ⟨bx, 44, cap * 5, List.flatMap gO (L.set (nodeF t k h t.root m).toNat (⟨{ p with keys := insF p.keys (placeF p up) up }, ak2, ck2, Sk2, ai, ci, si⟩ : PgO))⟩ :: (Sk2 ++ (si ++ ((L.eraseIdx (nodeF t k h t.root m).toNat).flatMap bO))))⟩ : St), Wk.asS (n := 131) rfl (by repeat (first | exact List.Sublist.refl _ | apply List.Sublist.cons_cons | apply List.Sublist.cons)) ⟨(by (repeat (first | exact look_hit | (apply look_at; focus (first | rfl | (rw [hka]; done) | (simp; done))) | (apply look_miss; focus rfl))); done), (by (repeat (first | exact look_hit | (apply look_at; focus (first | rfl | (rw [hka]; done) | (simp; done))) | (apply look_miss; focus rfl))); done), (by (repeat (first | exact look_hit | (apply look_at; focus (first | rfl | (rw [hka]; done) | (simp; done))) | (apply look_miss; focus rfl))); done), (by (repeat (first | exact look_hit | (apply look_at; focus (first | rfl | (rw [hka]; done) | (simp; done))) | (apply look_miss; focus rfl))); done), (by (repeat (first | exact look_hit | (apply look_at; focus (first | rfl | (rw [hka]; done) | (simp; done))) | (apply look_miss; focus rfl))); done), (by (repeat (first | exact look_hit | (apply look_at; focus (first | rfl | (rw [hka]; done) | (simp; done))) | (apply look_miss; focus rfl))); done), (by (repeat (first | exact look_hit | (apply look_at; focus (first | rfl | (rw [hka]; done) | (simp; done))) | (apply look_miss; focus rfl))); done), trivial⟩, rfl⟩
       ·have hc4' := hc4
        (try simp only [V.cnd, ne_eq] at hc4')
        have hka : (((if p.leaf = true then placeF p up else placeF p up + 1) : Nat) : Int) = (((placeF p up) : Nat) : Int) := by rw [if_pos (by simpa using hc4)]
        refine CD.skip ?_
        refine ⟨(⟨131, [(6, .v (.pointer (some ⟨b6, 0, none⟩))), (12, .v (.pointer (some ⟨b12, 0, none⟩))), (13, .list 1 ((pathF t k h t.root).flatMap cI) (pathF t k h t.root).length), (15, .v (.int .i64 kid)), (16, .v (.int .i64 ((h : Int) - (m : Nat)))), (17, .v (.pointer (some ⟨bx, 0 + (nodeF t k h t.root m).toNat * 5, none⟩))), (18, .v (.int .i64 (((if p.leaf = true then placeF p up else placeF p up + 1) : Nat) : Int)))], (⟨b12, 26, 2, [.v (.slice (some ⟨bx, 0, none⟩) L.length cap), .v (.int .i64 t.root)]⟩ :: ⟨b6, 26, 2, [.v (.slice none 0 0), .v (.int .i64 0)]⟩ :: ⟨bx, 44, cap * 5, List.flatMap gO (L.set (nodeF t k h t.root m).toNat (⟨{ p with keys := insF p.keys (placeF p up) up }, ak2, ck2, Sk2, ai, ci, si⟩ : PgO))⟩ :: (Sk2 ++ (si ++ ((L.eraseIdx (nodeF t k h t.root m).toNat).flatMap bO))))⟩ : St), Wk.asS (n := 131) rfl (by repeat (first | exact List.Sublist.refl _ | apply List.Sublist.cons_cons | apply List.Sublist.cons)) ⟨(by (repeat (first | exact look_hit | (apply look_at; focus (first | rfl | (rw [hka]; done) | (simp; done))) | (apply look_miss; focus rfl))); done), (by (repeat (first | exact look_hit | (apply look_at; focus (first | rfl | (rw [hka]; done) | (simp; done))) | (apply look_miss; focus rfl))); done), (by (repeat (first | exact look_hit | (apply look_at; focus (first | rfl | (rw [hka]; done) | (simp; done))) | (apply look_miss; focus rfl))); done), (by (repeat (first | exact look_hit | (apply look_at; focus (first | rfl | (rw [hka]; done) | (simp; done))) | (apply look_miss; focus rfl))); done), (by (repeat (first | exact look_hit | (apply look_at; focus (first | rfl | (rw [hka]; done) | (simp; done))) | (apply look_miss; focus rfl))); done), (by (repeat (first | exact look_hit | (apply look_at; focus (first | rfl | (rw [hka]; done) | (simp; done))) | (apply look_miss; focus rfl))); done), (by (repeat (first | exact look_hit | (apply look_at; focus (first | rfl | (rw [hka]; done) | (simp; done))) | (apply look_miss; focus rfl))); done), trivial⟩, rfl⟩
      rintro _ ⟨rfl⟩
      refine sr_ ?_
      refine os_ mv_ ?_
      refine os_ mv_ ?_
      refine os_ nc_ ?_
      refine os_ (fa_ 2) ?_
      refine OD.still (wants_plain rfl) rfl (still_r1 (mk := Op.load 22) rfl ot (ld_row (k := 2) (j := 2) (d := .v (.slice ai p.kids.length ci)) (ls := (L.set (nodeF t k h t.root m).toNat (⟨{ p with keys := insF p.keys (placeF p up) up }, ak2, ck2, Sk2, ai, ci, si⟩ : PgO))) gO_len rfl rfl rfl Try.isAgg22 (by rw [List.length_set]; exact hj) (by rw [List.getElem_set_self]; rfl))) ?_
      refine os_ mv_ ?_
      refine os_ mv_ ?_
      refine OD.bldS (pl := numD 0 [_]) (zvs := [.int .i64 0]) (ds := [_]) (wants_plain rfl) rfl rfl Try.zeroValue3 Try.runUnderlying22 Try.sizeOf3 rfl rfl (by kernel_rfl) ⟨rfl, ot, trivial⟩ (by exact rfl) (fill_full (by exact rfl) (by exact rfl) (by exact rfl)) (fun b107 => ?_)
      refine OD.call (wants_plain rfl) rfl rfl rfl Try.call29 (insertI_vw p.kids (if p.leaf = true then placeF p up else placeF p up + 1) kid ai ci si b107 hkids.1 (by omega) hi1) ⟨ot, ot, ot, trivial⟩ (List.Perm.cons _ (perm_r23 (A := [_, _, _]))) ?_
      rintro _ Si2 ⟨ai2, ci2, rfl, hi2⟩
      refine OD.perm (perm_q23 (A := [_, _, _])) ?_
      refine os_ nc_ ?_
      refine os_ (fa_ 2) ?_
      refine OD.storeAt (k := 2) (cs' := List.flatMap gO (L.set (nodeF t k h t.root m).toNat (⟨(putP p up kid), ak2, ck2, Sk2, ai2, ci2, Si2⟩ : PgO))) (wants_plain rfl) rfl rfl ot rfl rfl ot rfl rfl Try.sizeOf22 rfl (by show 0 + (nodeF t k h t.root m).toNat * 5 + 2 + 1 ≤ (List.flatMap gO (L.set (nodeF t k h t.root m).toNat (⟨{ p with keys := insF p.keys (placeF p up) up }, ak2, ck2, Sk2, ai, ci, si⟩ : PgO))).length; rw [fm_len gO_len, List.length_set]; omega) (by show (List.flatMap gO (L.set (nodeF t k h t.root m).toNat (⟨{ p with keys := insF p.keys (placeF p up) up }, ak2, ck2, Sk2, ai, ci, si⟩ : PgO))).set (0 + (nodeF t k h t.root m).toNat * 5 + 2) _ = _; rw [Nat.zero_add, fm_cellset gO_len (a' := (⟨(putP p up kid), ak2, ck2, Sk2, ai2, ci2, Si2⟩ : PgO)) (by decide) (by rw [List.length_set]; exact hj) (by rw [List.getElem_set_self]; show gO (⟨(putP p up kid), ak2, ck2, Sk2, ai2, ci2, Si2⟩ : PgO) = (gO (⟨{ p with keys := insF p.keys (placeF p up) up }, ak2, ck2, Sk2, ai, ci, si⟩ : PgO)).set 2 _; unfold gO; rw [show ((⟨(putP p up kid), ak2, ck2, Sk2, ai2, ci2, Si2⟩ : PgO)).p.kids.length = p.kids.length + 1 from insF_len hkids.1]; rfl), List.set_set]) ?_
      have hpm : (Sk2 ++ (Si2 ++ ((L.eraseIdx (nodeF t k h t.root m).toNat).flatMap bO))).Perm ((L.set (nodeF t k h t.root m).toNat (⟨(putP p up kid), ak2, ck2, Sk2, ai2, ci2, Si2⟩ : PgO)).flatMap bO) := by have := (perm_put bO hj (⟨(putP p up kid), ak2, ck2, Sk2, ai2, ci2, Si2⟩ : PgO)).symm; rw [show bO (⟨(putP p up kid), ak2, ck2, Sk2, ai2, ci2, Si2⟩ : PgO) = Sk2 ++ Si2 from rfl, List.append_assoc] at this; exact this
      refine OD.perm (S' := ⟨b12, 26, 2, [.v (.slice (some ⟨bx, 0, none⟩) (L.set (nodeF t k h t.root m).toNat (⟨(putP p up kid), ak2, ck2, Sk2, ai2, ci2, Si2⟩ : PgO)).length cap), .v (.int .i64 t.root)]⟩ :: ⟨b6, 26, 2, [.v (.slice none 0 0), .v (.int .i64 0)]⟩ :: (([⟨bx, 44, cap * 5, List.flatMap gO (L.set (nodeF t k h t.root m).toNat (⟨(putP p up kid), ak2, ck2, Sk2, ai2, ci2, Si2⟩ : PgO))⟩] : List Blk) ++ (L.set (nodeF t k h t.root m).toNat (⟨(putP p up kid), ak2, ck2, Sk2, ai2, ci2, Si2⟩ : PgO)).flatMap bO)) (by rw [List.length_set]; exact List.Perm.cons _ (List.Perm.cons _ (List.Perm.cons _ hpm))) ?_
      have hox2 : OwnP (L.set (nodeF t k h t.root m).toNat (⟨(putP p up kid), ak2, ck2, Sk2, ai2, ci2, Si2⟩ : PgO)) (some ⟨bx, 0, none⟩) cap [⟨bx, 44, cap * 5, List.flatMap gO (L.set (nodeF t k h t.root m).toNat (⟨(putP p up kid), ak2, ck2, Sk2, ai2, ci2, Si2⟩ : PgO))⟩] := ownL_row (by rw [List.length_set]; exact hxl) hxc
      have hok2 : ∀ o ∈ (L.set (nodeF t k h t.root m).toNat (⟨(putP p up kid), ak2, ck2, Sk2, ai2, ci2, Si2⟩ : PgO)), okO o := fun x hx => by rcases List.mem_or_eq_of_mem_set hx with hx | rfl; exact hok x hx; exact ⟨hk2, hi2⟩
      refine OD.wk (Wk.as_ (n := 131) (l' := [(6, _), (12, _), (13, _), (16, _), (17, _)]) (S' := (⟨b12, 26, 2, [_, _]⟩ :: ⟨b6, 26, 2, [_, _]⟩ :: ([⟨bx, 44, cap * 5, List.flatMap gO (L.set (nodeF t k h t.root m).toNat (⟨(putP p up kid), ak2, ck2, Sk2, ai2, ci2, Si2⟩ : PgO))⟩] ++ ((L.set (nodeF t k h t.root m).toNat (⟨(putP p up kid), ak2, ck2, Sk2, ai2, ci2, Si2⟩ : PgO)).flatMap bO)))) rfl rfl ⟨lk, lk, lk, lk, lk, trivial⟩) ?_
      refine OD.nil ?_
      refine CD.seq ?_
      refine sr_ ?_
      refine os_ mv_ ?_
      refine os_ nc_ ?_
      refine os_ (fa_ 1) ?_
      refine OD.still (wants_plain rfl) rfl (still_r1 (mk := Op.load 42) rfl ot (ld_row (k := 2) (j := 1) (d := .v (.slice ak2 (putP p up kid).keys.length ck2)) (ls := (L.set (nodeF t k h t.root m).toNat (⟨(putP p up kid), ak2, ck2, Sk2, ai2, ci2, Si2⟩ : PgO))) gO_len rfl rfl rfl Try.isAgg42 (by rw [List.length_set]; exact hj) (by rw [List.getElem_set_self]; rfl))) ?_
      refine os_ ln_ ?_
      refine os_ bn_ ?_
      refine OD.wk (Wk.as_ (n := 131) (l' := [(6, _), (12, _), (13, _), (16, _), (116, _)]) (S' := (⟨b12, 26, 2, [_, _]⟩ :: ⟨b6, 26, 2, [_, _]⟩ :: ([⟨bx, 44, cap * 5, List.flatMap gO (L.set (nodeF t k h t.root m).toNat (⟨(putP p up kid), ak2, ck2, Sk2, ai2, ci2, Si2⟩ : PgO))⟩] ++ ((L.set (nodeF t k h t.root m).toNat (⟨(putP p up kid), ak2, ck2, Sk2, ai2, ci2, Si2⟩ : PgO)).flatMap bO)))) rfl rfl ⟨lk, lk, lk, lk, lk, trivial⟩) ?_
      refine OD.nil ?_
      refine CD.cond ot (fun hc5 => ?_) (fun hc5 => ?_)
      ·have hc5' := hc5
       (try simp only [V.cnd, ne_eq] at hc5')
       have h4 : (putP p up kid).keys.length ≤ 4 := by have := of_decide_eq_true hc5; omega
       refine CD.exit ?_
       refine ⟨(⟨131, [(6, .v (.pointer (some ⟨b6, 0, none⟩))), (12, .v (.pointer (some ⟨b12, 0, none⟩)))], (⟨b12, 26, 2, [.v (.slice ((some ⟨bx, 0, none⟩)) ((L.set (nodeF t k h t.root m).toNat (⟨(putP p up kid), ak2, ck2, Sk2, ai2, ci2, Si2⟩ : PgO))).length (cap)), .v (.int .i64 (t.root))]⟩ :: ⟨b6, 26, 2, [.v (.slice none 0 0), .v (.int .i64 0)]⟩ :: (([⟨bx, 44, cap * 5, List.flatMap gO (L.set (nodeF t k h t.root m).toNat (⟨(putP p up kid), ak2, ck2, Sk2, ai2, ci2, Si2⟩ : PgO))⟩]) ++ ((L.set (nodeF t k h t.root m).toNat (⟨(putP p up kid), ak2, ck2, Sk2, ai2, ci2, Si2⟩ : PgO))).flatMap bO))⟩ : St), Wk.asS (n := 131) rfl (by repeat (first | exact List.Sublist.refl _ | apply List.Sublist.cons_cons | apply List.Sublist.cons)) ⟨lq_, lq_, trivial⟩, (L.set (nodeF t k h t.root m).toNat (⟨(putP p up kid), ak2, ck2, Sk2, ai2, ci2, Si2⟩ : PgO)), (some ⟨bx, 0, none⟩), cap, [⟨bx, 44, cap * 5, List.flatMap gO (L.set (nodeF t k h t.root m).toNat (⟨(putP p up kid), ak2, ck2, Sk2, ai2, ci2, Si2⟩ : PgO))⟩], t.root, hox2, hok2, (by rw [few_ins hm he (by rw [← hpe]; exact h4), ← hpe, List.map_set]; rfl), (by rw [List.length_set]; omega), rfl⟩
      ·have hc5' := hc5
       (try simp only [V.cnd, ne_eq] at hc5')
       have h4 : ¬ (putP p up kid).keys.length ≤ 4 := by have := of_decide_eq_false hc5; omega
       have h5 : (putP p up kid).keys.length = 5 := by have := full.few; omega
       refine CD.skip ?_
       refine CD.region ?_
       refine os_ mv_ ?_
       refine os_ mv_ ?_
       refine os_ (ix_ 1 (h := by first | exact .l (j := h - m) (by omega) hW | exact .r (j := h - m) (by omega) hW)) ?_
       refine OD.still (wants_plain rfl) rfl (still_r1 (mk := Op.load 3) rfl ot (ld_fm0 (d := .v (.int .i64 (nodeF t k h t.root m))) (i := h - m) cI_len Try.isAgg3 hW (by rw [hWn]; rfl))) ?_
       have hll : (L.set (nodeF t k h t.root m).toNat (⟨(putP p up kid), ak2, ck2, Sk2, ai2, ci2, Si2⟩ : PgO)).length = L.length := List.length_set ..
       refine OD.call (wants_plain rfl) rfl rfl rfl Try.call30 (split_vcp (L.set (nodeF t k h t.root m).toNat (⟨(putP p up kid), ak2, ck2, Sk2, ai2, ci2, Si2⟩ : PgO)) b12 t.root (nodeF t k h t.root m) (some ⟨bx, 0, none⟩) cap [⟨bx, 44, cap * 5, List.flatMap gO (L.set (nodeF t k h t.root m).toNat (⟨(putP p up kid), ak2, ck2, Sk2, ai2, ci2, Si2⟩ : PgO))⟩] (by rw [hll]; exact hrg) (putP p up kid) (by rw [List.getElem_set_self]) (by rw [hll]; omega) hox2 hok2 h5 (fun hl => by have := full.leaf hl; omega) (fun hl => by have := (full.node hl).1; omega) (fun x hx => (full.klen x hx).2) full.hlen) ⟨ot, ot, trivial⟩ (List.Perm.cons _ (List.perm_append_singleton _ _).symm) ?_
       rintro _ _ ⟨rfl, L3, ad3, cap3, Sx3, hox3, hok3, hL3, rfl⟩
       refine OD.perm (S' := ⟨b12, 26, 2, [.v (.slice ad3 L3.length cap3), .v (.int .i64 t.root)]⟩ :: ⟨b6, 26, 2, [.v (.slice none 0 0), .v (.int .i64 0)]⟩ :: (Sx3 ++ L3.flatMap bO)) (List.Perm.cons _ (List.perm_append_singleton _ _)) ?_
       have he3 : pendF t k row h (m + 1) = (⟨L3.map PgO.p, t.root⟩, some (upK (putP p up kid), ((L.set (nodeF t k h t.root m).toNat (⟨(putP p up kid), ak2, ck2, Sk2, ai2, ci2, Si2⟩ : PgO)).length : Int))) := by rw [full_ins hm he (by rw [← hpe]; exact h4), ← hpe, hL3, hll]; unfold addT; show (({ pages := (List.map PgO.p L).set _ _ ++ _, root := t.root } : TreeL), _) = _; rw [List.map_set, List.set_set, List.length_map]
       refine os_ mv_ ?_
       refine os_ ex_ ?_
       refine os_ ex_ ?_
       refine os_ mv_ ?_
       refine os_ mv_ ?_
       refine OD.wk (Wk.as_ (n := 131) (l' := [(6, _), (12, _), (13, _), (14, _), (15, _), (16, _)]) (S' := (⟨b12, 26, 2, [_, _]⟩ :: ⟨b6, 26, 2, [_, _]⟩ :: (Sx3 ++ (L3.flatMap bO)))) rfl rfl ⟨lk, lk, lk, lk, lk, lk, trivial⟩) ?_
       refine OD.nil ?_
       refine CD.region ?_
       refine os_ mv_ ?_
       refine os_ bn_ ?_
       refine os_ mv_ ?_
       refine nm_ [6, 12, 13, 14, 15, 16] ?_
       refine ⟨((m + 1), (upK (putP p up kid)), ((L.set (nodeF t k h t.root m).toNat (⟨(putP p up kid), ak2, ck2, Sk2, ai2, ci2, Si2⟩ : PgO)).length : Int), L3, ad3, cap3, Sx3), ⟨131, [(6, .v (.pointer (some ⟨b6, 0, none⟩))), (12, .v (.pointer (some ⟨b12, 0, none⟩))), (13, .list 1 ((pathF t k h t.root).flatMap cI) (pathF t k h t.root).length), (14, .list 1 (((upK (putP p up kid))).flatMap cB) ((upK (putP p up kid))).length), (15, .v (.int .i64 (((L.set (nodeF t k h t.root m).toNat (⟨(putP p up kid), ak2, ck2, Sk2, ai2, ci2, Si2⟩ : PgO)).length : Int)))), (16, .v (.int .i64 ((h : Int) - (((m + 1)) : Nat))))], (⟨b12, 26, 2, [.v (.slice ad3 L3.length cap3), .v (.int .i64 t.root)]⟩ :: ⟨b6, 26, 2, [.v (.slice none 0 0), .v (.int .i64 0)]⟩ :: (Sx3 ++ L3.flatMap bO))⟩, ?_, Wk.asS (n := 131) rfl (by repeat (first | exact List.Sublist.refl _ | apply List.Sublist.cons_cons | apply List.Sublist.cons)) ⟨lq_, lq_, lq_, lq_, lq_, lq_, trivial⟩, (by omega), he3, hox3, hok3, rfl⟩
       first | omega | (simp only []; omega)
    rintro _ ⟨L, ad, cap, Sx, root, hox, hok, hins, hLm, rfl⟩
    refine CD.seq ?_
    refine CD.seq ?_
    refine CD.region ?_
    refine os_ (fa_ 0) ?_
    refine os_ (lb_ 0) ?_
    refine os_ ln_ ?_
    refine os_ bn_ ?_
    refine nm_ [6, 12, 128] ?_
    refine CD.cond ot (fun hc6 => ?_) (fun hc6 => ?_)
    ·have hc6' := hc6
     (try simp only [V.cnd, ne_eq] at hc6')
     refine sr_ ?_
     refine OD.still (wants_plain rfl) rfl (still_bld (pl := []) (ds := [_, _]) rfl Try.zeroValue26 Try.runUnderlying26 places26_Twf trivial rfl rfl) ?_
     refine OD.store (k := 1) (cs' := [_, _]) (wants_plain rfl) rfl rfl ot rfl rfl ot rfl rfl Try.sizeOf26 rfl rfl rfl ?_
     refine os_ mv_ ?_
     refine OD.wk (Wk.as_ (n := 131) (l' := [(6, _), (7, _)]) (S' := (⟨b12, 26, 2, [_, _]⟩ :: ⟨b6, 26, 2, [_, _]⟩ :: (Sx ++ (L.flatMap bO)))) rfl rfl ⟨lk, lk, trivial⟩) ?_
     refine OD.nil ?_
     refine CD.ret ?_
     refine ⟨.inr rfl, _, [], List.nil_sublist _, ret_two Try.results14 (res_cells (k := 1) (ds := [_, _]) (Nat.le_of_ble_eq_true rfl) lk rfl rfl Try.isAgg26 Try.sizeOf26 rfl rfl) (res_tmp (Nat.le_of_ble_eq_true rfl) lk), ?_⟩
     unfold insE; rw [if_pos hz, if_neg (by omega), if_neg (by rw [hth]; decide), if_pos (by rw [hins]; show 4000 < (L.map PgO.p).length; rw [List.length_map]; omega)]; exact retE_no _
    ·have hc6' := hc6
     (try simp only [V.cnd, ne_eq] at hc6')
     refine CD.skip ?_
     refine sr_ ?_
     refine os_ (lab_ 0 [_, _]) ?_
     refine OD.store (k := 1) (cs' := [_, _]) (wants_plain rfl) rfl rfl ot rfl rfl ot rfl rfl Try.sizeOf26 rfl rfl rfl ?_
     refine os_ mv_ ?_
     refine OD.wk (Wk.as_ (n := 131) (l' := [(6, _), (7, _)]) (S' := (⟨b12, 26, 2, [_, _]⟩ :: ⟨b6, 26, 2, [_, _]⟩ :: (Sx ++ (L.flatMap bO)))) rfl rfl ⟨lk, lk, trivial⟩) ?_
     refine OD.nil ?_
     refine CD.ret ?_
     refine ⟨.inr rfl, _, (Sx ++ L.flatMap bO), (by repeat (first | exact List.Sublist.refl _ | apply List.Sublist.cons)), ret_two Try.results14 (res_cells (k := 1) (ds := [_, _]) (Nat.le_of_ble_eq_true rfl) lk rfl rfl Try.isAgg26 Try.sizeOf26 rfl rfl) (res_tmp (Nat.le_of_ble_eq_true rfl) lk), ?_⟩
     unfold insE; rw [if_pos hz, if_neg (by omega), if_neg (by rw [hth]; decide), if_neg (by rw [hins]; show ¬ 4000 < (L.map PgO.p).length; rw [List.length_map]; omega)]
     exact ⟨_, rfl, L, ad, cap, Sx, by rw [hins], hox, hok, by rw [hins], rfl⟩

theorem insert_vp (t : TreeL) (h : Nat) (k : K) (row : Int) (hb : ∀ p ∈ t.pages, p.keys.length ≤ maxLen ∧ p.kids.length ≤ maxLen) (hv : checkF t = 0 → Valid t h) : VP Try.prog G 14 [.agg (cT t), .list 1 (k.flatMap cB) k.length, .v (.int .i64 row)] (.tup [.agg (cT (insE t k row h).1), .v (.int .i64 (insE t k row h).2)]) := (insert_vc t h k row hb hv).cover fun r S hr => hr.view

end Go.Proofs.Ythnobhekodiciaa.Tw

namespace Go.Proofs.Ythnobhekodiciaa.Tr
open Go.Lib (compareBytes)
set_option linter.unusedVariables false
set_option linter.unusedSimpArgs false
variable {t : TreeL} {h : Nat} {k : K}

theorem okT_same (hp : ∀ p ∈ t.pages, PageOk p t.pages.length) : ∀ {h h' : Nat} {i : Int} {a b c d : K}, OkT t h i a b → OkT t h' i c d → h = h'
 | 0, 0, _, _, _, _, _, _, _ => rfl
 | 0, h' + 1, i, _, _, _, _, h1, h2 => by have := h1.2.1; rw [h2.2.1] at this; cases this
 | h + 1, 0, i, _, _, _, _, h1, h2 => by have := h1.2.1; rw [h2.2.1] at this; cases this
 | h + 1, h' + 1, i, _, _, _, _, h1, h2 => by
  obtain ⟨p1, p2, p3, p4, p5⟩ := h1
  obtain ⟨q1, q2, q3, q4, q5⟩ := h2
  have hn := ((hp _ (pg_mem p1)).node p2).1
  have := okT_same hp (p5 0 (by omega)) (q5 0 (by omega))
  rw [this]
/-- How high a tree is. -/
noncomputable def hOf (t : TreeL) : Nat := Classical.epsilon fun h => Valid t h
theorem hOf_valid (v : Valid t h) : Valid t (hOf t) := Classical.epsilon_spec (p := fun h => Valid t h) ⟨h, v⟩
theorem hOf_eq (v : Valid t h) : hOf t = h := okT_same v.page (hOf_valid v).ok v.ok
noncomputable def entsOf (t : TreeL) : List (K × Int) := allE t (hOf t)
theorem ids_pow (hp : ∀ p ∈ t.pages, PageOk p t.pages.length) : ∀ {h : Nat} {i : Int} {a b : K}, OkT t h i a b → 2 ^ h ≤ (ids t h i).length
 | 0, i, _, _, _ => by simp [ids]
 | h + 1, i, _, _, ok => by
  obtain ⟨p1, p2, p3, p4, p5⟩ := ok
  have hn := (hp _ (pg_mem p1)).node p2
  have hk : 1 ≤ (t.pg i).keys.length := by
   have := hn.2
   cases hkk : (t.pg i).keys with
   | nil => exact absurd hkk this
   | cons _ _ => simp
  have h0 := ids_pow hp (p5 0 (by omega))
  have h1 := ids_pow hp (p5 1 (by omega))
  have key : ∀ (l : List Int) (h2 : 2 ≤ l.length), 2 ^ h ≤ (ids t h (l[0]'(by omega))).length → 2 ^ h ≤ (ids t h (l[1]'(by omega))).length → 2 ^ h + 2 ^ h ≤ (l.flatMap (ids t h)).length := by
   intro l h2 a0 a1
   match l, h2 with
   | x :: y :: r, _ =>
    simp only [List.flatMap_cons, List.length_append]
    simp only [List.getElem_cons_zero, List.getElem_cons_succ] at a0 a1
    omega
  have := key _ (by omega) h0 h1
  rw [ids, List.length_cons, Nat.pow_succ]; omega
theorem high_11 (v : Valid t h) : h ≤ 11 := by
 have h1 := ids_pow v.page v.ok
 rw [v.all] at h1
 have h2 := v.most
 refine Nat.le_of_not_lt fun h3 => ?_
 have : 2 ^ 12 ≤ 2 ^ h := Nat.pow_le_pow_right (by decide) h3
 omega
/-- A tree that has grown so many times at most. -/
structure GoodT (t : TreeL) (n : Nat) : Prop where
  val : Valid t (hOf t)
  few : t.pages.length ≤ 1 + 13 * n
theorem GoodT.mono {n m : Nat} (g : GoodT t n) (h : n ≤ m) : GoodT t m := ⟨g.val, by have := g.few; omega⟩
theorem good_new : GoodT newT 0 := ⟨hOf_valid new_valid, by decide⟩
theorem ents_new : entsOf newT = [] := by unfold entsOf; rw [hOf_eq new_valid]; exact new_none
theorem good_ins {n : Nat} {row : Int} (g : GoodT t n) (hn : n ≤ 300) (hno : ∀ x ∈ entsOf t, x.1 ≠ k) (hk : 1 ≤ k.length ∧ k.length ≤ 100) (hr : 0 ≤ row) :
  GoodT (insT t (hOf t) k row) (n + 1) ∧ (insT t (hOf t) k row).pages.length ≤ 4000 ∧ ∀ x, x ∈ entsOf (insT t (hOf t) k row) ↔ x = (k, row) ∨ x ∈ entsOf t := by
 have h11 := high_11 g.val
 have hf := g.few
 obtain ⟨h', _, v, ⟨_, hm⟩, he⟩ := ins_valid g.val hno hk hr (by omega)
 refine ⟨⟨hOf_valid v, by omega⟩, v.most, fun x => ?_⟩
 unfold entsOf
 rw [hOf_eq v]; exact he x
theorem good_del {n : Nat} (g : GoodT t n) (ht : thereF t k (hOf t)) : GoodT (delT t (hOf t) k) n ∧ ∀ x, x ∈ entsOf (delT t (hOf t) k) ↔ x ∈ entsOf t ∧ x.1 ≠ k := by
 obtain ⟨v, hl, he⟩ := del_valid g.val ht
 refine ⟨⟨hOf_valid v, by have := g.few; omega⟩, fun x => ?_⟩
 unfold entsOf
 rw [hOf_eq v]; exact he x
theorem ents_rise {n : Nat} (g : GoodT t n) : (entsOf t).Pairwise fun x y => klt x.1 y.1 := allE_rise g.val
end Go.Proofs.Ythnobhekodiciaa.Tr

namespace Go.Proofs.Ythnobhekodiciaa.Tw
open Go.RowKit V Go.Proofs.Ythnobhekodiciaa.Tr Pk
set_option linter.unusedVariables false
set_option linter.unusedSimpArgs false

open Go.Lib (compareBytes)
/-- The key of a number. -/
def keyM (m : Nat) : K := [UInt8.ofNat (97 + m % 9), UInt8.ofNat (97 + m / 9)]
def keyN (n : Int) : K := keyM (pickedF n 90).toNat
theorem keyN_len (n : Int) : (keyN n).length = 2 := rfl
theorem keyN_ok (n : Int) : 1 ≤ (keyN n).length ∧ (keyN n).length ≤ 100 := by rw [keyN_len]; decide
theorem keyQ_ok {k : K} (h : 1 ≤ k.length ∧ k.length ≤ 100) : keyQ k = true := decide_eq_true h
theorem key_w1 (m : Nat) : IntKind.u8.wrap (97 + ((m % 9 : Nat) : Int)) = ((UInt8.ofNat (97 + m % 9)).toNat : Int) := by
 rw [UInt8.toNat_ofNat']; show (97 + ((m % 9 : Nat) : Int)) % 256 = _; omega
theorem key_w2 (m : Nat) : IntKind.u8.wrap (97 + ((m / 9 : Nat) : Int)) = ((UInt8.ofNat (97 + m / 9)).toNat : Int) := by
 rw [UInt8.toNat_ofNat']; show (97 + ((m / 9 : Nat) : Int)) % 256 = _; omega
theorem ref_ok {t : TreeL} {n : Nat} {k : K} (g : GoodT t n) (hk : 1 ≤ k.length ∧ k.length ≤ 100) : refF t k = 0 := refF_ok (check_ok g.val) (keyQ_ok hk)
theorem there_has {t : TreeL} {n : Nat} (g : GoodT t n) (k : K) : thereB t k (hOf t) = true ↔ ∃ row, (k, row) ∈ entsOf t := (thereB_iff g.val k).trans (there_iff g.val k)
theorem there_no {t : TreeL} {n : Nat} (g : GoodT t n) {k : K} : thereB t k (hOf t) = false ↔ ∀ x ∈ entsOf t, x.1 ≠ k := by
 constructor
 ·exact fun h => not_there g.val h
 ·intro h
  cases hq : thereB t k (hOf t) with
  | false => rfl
  | true => obtain ⟨row, hr⟩ := (there_has g k).1 hq; exact absurd rfl (h _ hr)
theorem ins_yes {t : TreeL} {n : Nat} {k : K} {row : Int} (g : GoodT t n) (hk : 1 ≤ k.length ∧ k.length ≤ 100) (hr : 0 ≤ row) (h : thereB t k (hOf t) = true) : insE t k row (hOf t) = (noT, 9) := by
 unfold insE; rw [if_pos (ref_ok g hk), if_neg (by omega), if_pos h]
theorem ins_no {t : TreeL} {n : Nat} {k : K} {row : Int} (g : GoodT t n) (hn : n ≤ 300) (hk : 1 ≤ k.length ∧ k.length ≤ 100) (hr : 0 ≤ row) (h : thereB t k (hOf t) = false) : insE t k row (hOf t) = (insT t (hOf t) k row, 0) := by
 have := (good_ins g hn ((there_no g).1 h) hk hr).2.1
 unfold insE; rw [if_pos (ref_ok g hk), if_neg (by omega), if_neg (by rw [h]; decide), if_neg (by omega)]
theorem del_yes {t : TreeL} {n : Nat} {k : K} (g : GoodT t n) (hk : 1 ≤ k.length ∧ k.length ≤ 100) (h : thereB t k (hOf t) = true) : delF t k (hOf t) = (delT t (hOf t) k, 0) := by
 unfold delF; rw [if_pos (ref_ok g hk), if_pos h]
theorem del_no {t : TreeL} {n : Nat} {k : K} (g : GoodT t n) (hk : 1 ≤ k.length ∧ k.length ≤ 100) (h : thereB t k (hOf t) = false) : delF t k (hOf t) = (noT, 8) := by
 unfold delF; rw [if_pos (ref_ok g hk), if_neg (by rw [h]; decide)]
theorem find_yes {t : TreeL} {n : Nat} {k : K} {row : Int} (g : GoodT t n) (hk : 1 ≤ k.length ∧ k.length ≤ 100) (h : (k, row) ∈ entsOf t) : findF t k (hOf t) = (row, 0) := by
 unfold findF rowF
 rw [if_pos (ref_ok g hk), if_pos ((there_has g k).2 ⟨row, h⟩)]
 obtain ⟨_, _, e⟩ := (found g.val k row).1 h
 rw [e]
/-- One number more. -/
noncomputable def stepT (t : TreeL) (i : Nat) (x : Int) : TreeL := if x < 0 then (if thereB t (keyN x) (hOf t) = true then delT t (hOf t) (keyN x) else t) else (if thereB t (keyN x) (hOf t) = true then t else insT t (hOf t) (keyN x) i)
noncomputable def treeN (l : List Int) : Nat → TreeL
 | 0 => newT
 | n + 1 => stepT (treeN l n) n (l.getD n 0)
noncomputable def treeL (l : List Int) : TreeL := treeN l (min l.length 70)
theorem good_step {t : TreeL} {n i : Nat} {x : Int} (g : GoodT t n) (hn : n ≤ 300) : GoodT (stepT t i x) (n + 1) := by
 unfold stepT
 split
 ·split
  ·rename_i h; exact (good_del g ((thereB_iff g.val _).1 h)).1.mono (by omega)
  ·exact g.mono (by omega)
 ·split
  ·exact g.mono (by omega)
  ·rename_i h; exact (good_ins g hn ((there_no g).1 (by simpa using h)) (keyN_ok x) (by omega)).1
theorem good_treeN (l : List Int) : ∀ {n : Nat}, n ≤ 300 → GoodT (treeN l n) n
 | 0, _ => good_new
 | n + 1, h => good_step (good_treeN l (by omega)) (by omega)
theorem good_treeL (l : List Int) : GoodT (treeL l) 70 := (good_treeN l (by omega)).mono (by omega)
theorem good_hb {t : TreeL} {n : Nat} (g : GoodT t n) : ∀ p ∈ t.pages, p.keys.length ≤ maxLen ∧ p.kids.length ≤ maxLen := valid_hb g.val
variable {G : List (Nat × List Value)}
theorem insert_g {t : TreeL} {n : Nat} (g : GoodT t n) (k : K) (row : Int) : VP Try.prog G 14 [.agg (cT t), .list 1 (k.flatMap cB) k.length, .v (.int .i64 row)] (.tup [.agg (cT (insE t k row (hOf t)).1), .v (.int .i64 (insE t k row (hOf t)).2)]) := insert_vp t (hOf t) k row (good_hb g) fun _ => g.val
theorem delete_g {t : TreeL} {n : Nat} (g : GoodT t n) (k : K) : VP Try.prog G 20 [.agg (cT t), .list 1 (k.flatMap cB) k.length] (.tup [.agg (cT (delF t k (hOf t)).1), .v (.int .i64 (delF t k (hOf t)).2)]) := delete_vp t (hOf t) k (good_hb g) fun _ => g.val
theorem find_g {t : TreeL} {n : Nat} (g : GoodT t n) (k : K) : VP Try.prog G 18 [.agg (cT t), .list 1 (k.flatMap cB) k.length] (.tup [.v (.int .i64 (findF t k (hOf t)).1), .v (.int .i64 (findF t k (hOf t)).2)]) := find_x t (hOf t) k (good_hb g) fun _ => g.val
theorem check_g {t : TreeL} {n : Nat} (g : GoodT t n) : VP Try.prog G 19 [.agg (cT t)] (.v (.int .i64 0)) := by have := check_vp (G := G) t (good_hb g); rwa [check_ok g.val] at this
/-- What a scan tells. -/
noncomputable def spanF (t : TreeL) (f to : K) : List (K × Int) := scanF t (hOf t) f to
theorem scan_g {t : TreeL} {n : Nat} (g : GoodT t n) (f to : K) (hf : f.length ≤ 100) (ht : to.length ≤ 100) : VP Try.prog G 16 [.agg (cT t), .list 1 (f.flatMap cB) f.length, .list 1 (to.flatMap cB) to.length] (.tup [.list 2 ((spanF t f to).flatMap cE) (spanF t f to).length, .v (.int .i64 0)]) := by
 have := scan_vp (G := G) t (hOf t) (good_hb g) (fun _ => g.val) f to
 unfold scanR at this
 rwa [if_pos (check_ok g.val), if_pos ⟨hf, ht⟩] at this
theorem span_all (t : TreeL) : spanF t [] [] = entsOf t := by
 unfold spanF scanF entsOf
 rw [from_nil, takeW_all fun x _ => by simp [stopQ]]
theorem scan_n2 {t : TreeL} {n : Nat} (g : GoodT t n) : VP Try.prog G 16 [.agg (cT t), .v (.slice none 0 0), .v (.slice none 0 0)] (.tup [.list 2 ((spanF t [] []).flatMap cE) (spanF t [] []).length, .v (.int .i64 0)]) := VC.to (args' := [.agg (cT t), .v (.slice none 0 0), .v (.slice none 0 0)]) (scan_g g [] [] (by decide) (by decide)) ⟨.inl rfl, .inr ⟨1, rfl, rfl⟩, .inr ⟨1, rfl, rfl⟩, trivial⟩

set_option maxHeartbeats 4000000 in
set_option maxRecDepth 100000 in
theorem key_vpN (n : Int) (h1 : -9223372036854775808 ≤ n) (h2 : n ≤ 9223372036854775807) : VP Try.prog G 15 [.v (.int .i64 n)] (.list 1 ((keyN n).flatMap cB) (keyN n).length) := by
 refine VC.body Try.func15 rfl Try.ntmps15 (Nat.le_of_ble_eq_true rfl) fun X0 w0 S00 => ?_
 have hmx : maxLen = 9223372036854775807 := rfl
 have hpb := pickedF_bd n (by decide : (1 : Int) ≤ 90)
 obtain ⟨m, hm⟩ := Int.eq_ofNat_of_zero_le hpb.1
 have hm90 : m < 90 := by omega
 have hpk := picked_vp G n 90 h1 h2 (by decide)
 rw [hm] at hpk
 have hkm : keyN n = keyM m := by unfold keyN; rw [hm]; rfl
 rw [hkm]
 refine sr_ ?_
 refine os_ mv_ ?_
 refine nm_ [0] ?_
 refine sr_ ?_
 refine os_ mv_ ?_
 refine OD.callP (wants_plain rfl) rfl rfl rfl Try.call12 (hpk) ⟨ot, opd_const, trivial⟩ ?_
 refine os_ mv_ ?_
 refine OD.wk (Wk.as_ (n := 15) (l' := [(3, _)]) (S' := []) rfl rfl ⟨lk, trivial⟩) ?_
 refine OD.nil ?_
 refine sr_ ?_
 refine os_ mv_ ?_
 refine OD.still (wants_plain rfl) rfl (still_bin (r := .int .i64 ((m % 9 : Nat) : Int)) rfl ot opd_const (bin_rem (a := (m : Int)) (b := 9) (by omega))) ?_
 refine OD.still (wants_plain rfl) rfl (still_bin (r := .int .i64 (97 + ((m % 9 : Nat) : Int))) rfl opd_const ot (bin_add (wrap_i64 (by omega) (by omega)))) ?_
 refine OD.still (wants_plain rfl) rfl (still_conv (r := .int .u8 ((UInt8.ofNat (97 + m % 9)).toNat : Int)) rfl ot (conv_int Try.runUnderlying3 Try.runUnderlying5 (key_w1 m))) ?_
 refine os_ mv_ ?_
 refine OD.still (wants_plain rfl) rfl (still_bin (r := .int .i64 ((m / 9 : Nat) : Int)) rfl ot opd_const (bin_quo (a := (m : Int)) (b := 9) (by omega) (wrap_i64 (by show -9223372036854775808 ≤ ((m / 9 : Nat) : Int); omega) (by show ((m / 9 : Nat) : Int) ≤ 9223372036854775807; omega)))) ?_
 refine OD.still (wants_plain rfl) rfl (still_bin (r := .int .i64 (97 + ((m / 9 : Nat) : Int))) rfl opd_const ot (bin_add (wrap_i64 (by omega) (by omega)))) ?_
 refine OD.still (wants_plain rfl) rfl (still_conv (r := .int .u8 ((UInt8.ofNat (97 + m / 9)).toNat : Int)) rfl ot (conv_int Try.runUnderlying3 Try.runUnderlying5 (key_w2 m))) ?_
 refine OD.bldS (pl := numD 0 [_, _]) (zvs := [.int .u8 0, .int .u8 0]) (ds := [_, _]) (wants_plain rfl) rfl rfl Try.zeroValue5 Try.runUnderlying31 Try.sizeOf5 rfl rfl (by kernel_rfl) ⟨rfl, ot, rfl, ot, trivial⟩ (by exact rfl) (fill_full (by exact rfl) (by exact rfl) (by exact rfl)) (fun b14 => ?_)
 refine OD.perm (perm_q11 (S1 := [⟨b14, 5, 2 * 1, List.flatMap cB ([UInt8.ofNat (97 + m % 9), UInt8.ofNat (97 + m / 9)])⟩]) (A := [])) ?_
 refine os_ mv_ ?_
 refine OD.wk (Wk.as_ (n := 15) (l' := [(2, _)]) (S' := ([⟨b14, 5, 2 * 1, List.flatMap cB ([UInt8.ofNat (97 + m % 9), UInt8.ofNat (97 + m / 9)])⟩])) rfl rfl ⟨lk, trivial⟩) ?_
 refine OD.nil ?_
 refine CD.giveL (t := 2) (Sq := [⟨b14, 5, 2 * 1, List.flatMap cB ([UInt8.ofNat (97 + m % 9), UInt8.ofNat (97 + m / 9)])⟩]) lk (ownL_row (g := cB) (sz := 1) (e := 5) (ls := [UInt8.ofNat (97 + m % 9), UInt8.ofNat (97 + m / 9)]) (Nat.le_refl _) (show 2 ≤ maxLen by decide)) (fm_len cB_len _) (perm_r11 (A := [])) ?_
 refine CD.ret ?_
 refine ⟨.inr rfl, _, [], List.nil_sublist _, ret_one Try.results15 (res_tmp (Nat.le_of_ble_eq_true rfl) lk), ?_⟩
 exact ⟨rfl, rfl⟩

end Go.Proofs.Ythnobhekodiciaa.Tw

namespace Go.Proofs.Ythnobhekodiciaa.Tw
open Go.RowKit V Go.Proofs.Ythnobhekodiciaa.Tr Pk
set_option linter.unusedVariables false
set_option linter.unusedSimpArgs false

/-- Numbers as they are told. -/
abbrev WfI (l : List Int) : Prop := ∀ x ∈ l, -9223372036854775808 ≤ x ∧ x ≤ 9223372036854775807
theorem treeN_succ {l : List Int} {i : Nat} (hi : i < l.length) : treeN l (i + 1) = stepT (treeN l i) i l[i] := by
 show stepT (treeN l i) i (l.getD i 0) = _
 rw [List.getD_eq_getElem?_getD, List.getElem?_eq_getElem hi]; rfl
variable {G : List (Nat × List Value)}

set_option maxHeartbeats 4000000 in
set_option maxRecDepth 100000 in
theorem tree_vp (l : List Int) (hl : l.length ≤ maxLen) (hw : WfI l) : VP Try.prog G 17 [.list 1 (l.flatMap cI) l.length] (.tup [.agg (cT (treeL l)), .v (.bool true)]) := by
 refine VC.body Try.func17 rfl Try.ntmps17 (Nat.le_of_ble_eq_true rfl) fun X0 w0 S00 => ?_
 have hmx : maxLen = 9223372036854775807 := rfl
 have hnv := new_vp (G := G)
 unfold cT at hnv
 refine sr_ ?_
 refine OD.alloc (ds := [_, _]) (wants_plain rfl) rfl rfl Try.zeroValue26 rfl (fun b2 => ?_)
 refine os_ mv_ ?_
 refine OD.wk (Wk.as_ (n := 66) (l' := [(0, _), (2, _)]) (S' := [⟨b2, 26, 2, [_, _]⟩]) rfl rfl ⟨lk, lk, trivial⟩) ?_
 refine OD.nil ?_
 refine sr_ ?_
 refine OD.callP (wants_plain rfl) rfl rfl rfl Try.call13 (hnv) trivial ?_
 refine OD.alloc (ds := [_, _]) (wants_plain rfl) rfl rfl Try.zeroValue26 rfl (fun b4 => ?_)
 refine OD.store (k := 0) (cs' := [_, _]) (wants_plain rfl) rfl rfl ot rfl rfl ot rfl rfl Try.sizeOf26 rfl rfl rfl ?_
 refine OD.wk (Wk.as_ (n := 66) (l' := [(0, _), (2, _), (4, _)]) (S' := [⟨b4, 26, 2, [_, _]⟩, ⟨b2, 26, 2, [_, _]⟩]) rfl rfl ⟨lk, lk, lk, trivial⟩) ?_
 refine OD.nil ?_
 refine CD.seq ?_
 refine sr_ ?_
 refine os_ mv_ ?_
 refine nm_ [0, 2, 4, 5] ?_
 refine CD.block ?_
 refine CD.wk (Wk.asS (n := 66) (l' := [(0, .list 1 (l.flatMap cI) l.length), (2, .v (.pointer (some ⟨b2, 0, none⟩))), (4, .v (.pointer (some ⟨b4, 0, none⟩))), (5, .v (.int .i64 ((0) : Nat)))]) (S' := [⟨b4, 26, 2, [.list 5 ((newT).pages.flatMap cP) (newT).pages.length, .v (.int .i64 (newT).root)]⟩, ⟨b2, 26, 2, [.v (.slice none 0 0), .v (.int .i64 0)]⟩]) rfl (by repeat (first | exact List.Sublist.refl _ | apply List.Sublist.cons)) ⟨(by (repeat (first | exact look_hit | (apply look_at; focus (first | rfl | (simp; done) | (congr 2; omega))) | (apply look_miss; focus rfl))); done), (by (repeat (first | exact look_hit | (apply look_at; focus (first | rfl | (simp; done) | (congr 2; omega))) | (apply look_miss; focus rfl))); done), (by (repeat (first | exact look_hit | (apply look_at; focus (first | rfl | (simp; done) | (congr 2; omega))) | (apply look_miss; focus rfl))); done), (by (repeat (first | exact look_hit | (apply look_at; focus (first | rfl | (simp; done) | (congr 2; omega))) | (apply look_miss; focus rfl))); done), trivial⟩) (CD.loop (fun (gh__ : Nat × TreeL) y__ => match gh__ with | (i, T) => (i ≤ l.length) ∧ (i ≤ 70) ∧ (T = treeN l i) ∧ y__ = (⟨66, [(0, .list 1 (l.flatMap cI) l.length), (2, .v (.pointer (some ⟨b2, 0, none⟩))), (4, .v (.pointer (some ⟨b4, 0, none⟩))), (5, .v (.int .i64 (i : Nat)))], [⟨b4, 26, 2, [.list 5 ((T).pages.flatMap cP) (T).pages.length, .v (.int .i64 (T).root)]⟩, ⟨b2, 26, 2, [.v (.slice none 0 0), .v (.int .i64 0)]⟩]⟩ : St)) (fun (gh__ : Nat × TreeL) => match gh__ with | (i, T) => 70 - i) (0, newT) ⟨(Nat.zero_le _), (by omega), rfl, rfl⟩ ?_)
 rintro ⟨i, T⟩ _ ⟨hi1, hi2, hT, rfl⟩
 refine CD.seq ?_
 refine sr_ ?_
 refine os_ mv_ ?_
 refine os_ mv_ ?_
 refine os_ ln_ ?_
 refine os_ bn_ ?_
 refine os_ mv_ ?_
 refine OD.split (t := 15) lk (fun hg15 => ?_) (fun hg15 => ?_)
 ·have hg15' := hg15; (try simp only [V.cnd, ne_eq] at hg15')
  refine os_ mv_ ?_
  refine os_ bn_ ?_
  refine os_ pkT_ ?_
  refine nm_ [0, 2, 4, 5, 18] ?_
  refine CD.cond ot (fun hc0 => ?_) (fun hc0 => ?_)
  ·have hc0' := hc0
   (try simp only [V.cnd, ne_eq] at hc0')
   have hil : i < l.length := by simp_all
   have hi70 : i < 70 := by simp_all; omega
   have hg : GoodT (treeN l i) i := good_treeN l (by omega)
   rw [← hT] at hg
   have g : GoodT T i := hg
   obtain ⟨x1, x2⟩ := hw _ (List.getElem_mem hil)
   refine CD.skip ?_
   refine CD.seq ?_
   refine CD.block ?_
   refine CD.seq ?_
   refine sr_ ?_
   refine os_ mv_ ?_
   refine os_ mv_ ?_
   refine os_ (ix_ 1 (h := by first | exact .l (j := i) rfl hil | exact .r (j := i) rfl hil)) ?_
   refine os_ ld_ ?_
   refine os_ bn_ ?_
   refine nm_ [0, 2, 4, 5, 25] ?_
   refine CD.cond ot (fun hc1 => ?_) (fun hc1 => ?_)
   ·have hc1' := hc1
    (try simp only [V.cnd, ne_eq] at hc1')
    have hneg : l[i] < 0 := by simpa using hc1
    refine CD.seq ?_
    rcases hth : thereB T (keyN l[i]) (hOf T) with _ | _
    ·skip
     have hdv := delete_g (G := G) g (keyN l[i])
     rw [del_no g (keyN_ok _) hth] at hdv
     unfold cT at hdv
     refine CD.draw (bks _) (by kernel_rfl) (fun _ h => h) ?_
     refine a0_ 0 rfl (lab_ 0 [_, _]) ?_
     refine a0_ 1 rfl mv_ ?_
     refine a0_ 2 rfl mv_ ?_
     refine a0_ 3 rfl (ix_ 1 (h := by first | exact .l (j := i) rfl hil | exact .r (j := i) rfl hil)) ?_
     refine a0_ 4 rfl ld_ ?_
     refine AD0.later rfl ?_
     refine AD.two (i := 5) (j := 10) (by kernel_rfl) ?_ ?_
     ·skip
      refine AStep.callP rfl (wants_plain rfl) rfl rfl rfl Try.call15 (key_vpN _ x1 x2) ⟨ot, trivial⟩ ?_
      refine AD.two (i := 6) (j := 10) (by kernel_rfl) ?_ ?_
      ·skip
       refine AStep.callP rfl (wants_plain rfl) rfl rfl rfl Try.call20 (hdv) ⟨ot, ot, trivial⟩ ?_
       refine a1_ 7 rfl mv_ ?_
       refine a1_ 8 rfl ex_ ?_
       refine a1_ 9 rfl ex_ ?_
       refine AD.one (i := 10) (by kernel_rfl) ?_
       refine AStep.alloc (ds := [_, _]) rfl (wants_plain rfl) rfl rfl Try.zeroValue26 rfl (fun b6 => ?_)
       refine AD.one (i := 11) (by kernel_rfl) ?_
       refine AStep.store (k := 0) (cs' := [_, _]) rfl (wants_plain rfl) rfl rfl ot rfl rfl ot rfl rfl Try.sizeOf26 rfl rfl rfl (by intro b hb; simp [bks, St.put] at hb ⊢; try first | exact hb | simp [hb] | (rcases hb with hb | hb <;> simp [hb]) | (rcases hb with hb | hb | hb <;> simp [hb])) ?_
       refine a1_ 12 rfl mv_ ?_
       refine AD.wk (y := ⟨66, [(0, _), (2, _), (4, _), (5, _), (6, _), (7, _)], [⟨b6, 26, 2, [_, _]⟩, ⟨b4, 26, 2, [_, _]⟩, ⟨b2, 26, 2, [_, _]⟩]⟩) (Wk.as_ rfl rfl ⟨lk, lk, lk, lk, lk, lk, trivial⟩) rfl ?_
       refine AD.done (by kernel_rfl) ?_
       refine CD.seq ?_
       refine sr_ ?_
       refine os_ mv_ ?_
       refine os_ bn_ ?_
       refine nm_ [0, 2, 4, 5, 6, 37] ?_
       refine CD.cond ot (fun hc2 => ?_) (fun hc2 => ?_)
       ·exact absurd hc2 (by simp at hc2)
       ·have hc2' := hc2
        (try simp only [V.cnd, ne_eq] at hc2')
        refine CD.skip ?_
        refine CD.exit ?_
        refine CD.region ?_
        refine os_ mv_ ?_
        refine os_ bn_ ?_
        refine os_ mv_ ?_
        refine nm_ [0, 2, 4, 5] ?_
        refine ⟨((i + 1), T), ⟨66, [(0, .list 1 (l.flatMap cI) l.length), (2, .v (.pointer (some ⟨b2, 0, none⟩))), (4, .v (.pointer (some ⟨b4, 0, none⟩))), (5, .v (.int .i64 (((i + 1)) : Nat)))], [⟨b4, 26, 2, [.list 5 ((T).pages.flatMap cP) (T).pages.length, .v (.int .i64 (T).root)]⟩, ⟨b2, 26, 2, [.v (.slice none 0 0), .v (.int .i64 0)]⟩]⟩, ?_, Wk.asS (n := 66) rfl (by repeat (first | exact List.Sublist.refl _ | apply List.Sublist.cons)) ⟨(by (repeat (first | exact look_hit | (apply look_at; focus (first | rfl | (simp; done) | (congr 2; omega))) | (apply look_miss; focus rfl))); done), (by (repeat (first | exact look_hit | (apply look_at; focus (first | rfl | (simp; done) | (congr 2; omega))) | (apply look_miss; focus rfl))); done), (by (repeat (first | exact look_hit | (apply look_at; focus (first | rfl | (simp; done) | (congr 2; omega))) | (apply look_miss; focus rfl))); done), (by (repeat (first | exact look_hit | (apply look_at; focus (first | rfl | (simp; done) | (congr 2; omega))) | (apply look_miss; focus rfl))); done), trivial⟩, (by omega), (by omega), (by rw [treeN_succ hil, ← hT]; unfold stepT; rw [if_pos hneg, if_neg (by rw [hth]; decide)]), rfl⟩
        first | omega | (simp only []; omega)
      ·skip
       refine AStep.alloc (ds := [_, _]) rfl (wants_plain rfl) rfl rfl Try.zeroValue26 rfl (fun b6 => ?_)
       refine AD.one (i := 6) (by kernel_rfl) ?_
       refine AStep.callP rfl (wants_plain rfl) rfl rfl rfl Try.call20 (hdv) ⟨ot, ot, trivial⟩ ?_
       refine a1_ 7 rfl mv_ ?_
       refine a1_ 8 rfl ex_ ?_
       refine a1_ 9 rfl ex_ ?_
       refine AD.one (i := 11) (by kernel_rfl) ?_
       refine AStep.store (k := 0) (cs' := [_, _]) rfl (wants_plain rfl) rfl rfl ot rfl rfl ot rfl rfl Try.sizeOf26 rfl rfl rfl (by intro b hb; simp [bks, St.put] at hb ⊢; try first | exact hb | simp [hb] | (rcases hb with hb | hb <;> simp [hb]) | (rcases hb with hb | hb | hb <;> simp [hb])) ?_
       refine a1_ 12 rfl mv_ ?_
       refine AD.wk (y := ⟨66, [(0, _), (2, _), (4, _), (5, _), (6, _), (7, _)], [⟨b6, 26, 2, [_, _]⟩, ⟨b4, 26, 2, [_, _]⟩, ⟨b2, 26, 2, [_, _]⟩]⟩) (Wk.as_ rfl rfl ⟨lk, lk, lk, lk, lk, lk, trivial⟩) rfl ?_
       refine AD.done (by kernel_rfl) ?_
       refine CD.seq ?_
       refine sr_ ?_
       refine os_ mv_ ?_
       refine os_ bn_ ?_
       refine nm_ [0, 2, 4, 5, 6, 37] ?_
       refine CD.cond ot (fun hc2 => ?_) (fun hc2 => ?_)
       ·exact absurd hc2 (by simp at hc2)
       ·have hc2' := hc2
        (try simp only [V.cnd, ne_eq] at hc2')
        refine CD.skip ?_
        refine CD.exit ?_
        refine CD.region ?_
        refine os_ mv_ ?_
        refine os_ bn_ ?_
        refine os_ mv_ ?_
        refine nm_ [0, 2, 4, 5] ?_
        refine ⟨((i + 1), T), ⟨66, [(0, .list 1 (l.flatMap cI) l.length), (2, .v (.pointer (some ⟨b2, 0, none⟩))), (4, .v (.pointer (some ⟨b4, 0, none⟩))), (5, .v (.int .i64 (((i + 1)) : Nat)))], [⟨b4, 26, 2, [.list 5 ((T).pages.flatMap cP) (T).pages.length, .v (.int .i64 (T).root)]⟩, ⟨b2, 26, 2, [.v (.slice none 0 0), .v (.int .i64 0)]⟩]⟩, ?_, Wk.asS (n := 66) rfl (by repeat (first | exact List.Sublist.refl _ | apply List.Sublist.cons)) ⟨(by (repeat (first | exact look_hit | (apply look_at; focus (first | rfl | (simp; done) | (congr 2; omega))) | (apply look_miss; focus rfl))); done), (by (repeat (first | exact look_hit | (apply look_at; focus (first | rfl | (simp; done) | (congr 2; omega))) | (apply look_miss; focus rfl))); done), (by (repeat (first | exact look_hit | (apply look_at; focus (first | rfl | (simp; done) | (congr 2; omega))) | (apply look_miss; focus rfl))); done), (by (repeat (first | exact look_hit | (apply look_at; focus (first | rfl | (simp; done) | (congr 2; omega))) | (apply look_miss; focus rfl))); done), trivial⟩, (by omega), (by omega), (by rw [treeN_succ hil, ← hT]; unfold stepT; rw [if_pos hneg, if_neg (by rw [hth]; decide)]), rfl⟩
        first | omega | (simp only []; omega)
     ·skip
      refine AStep.alloc (ds := [_, _]) rfl (wants_plain rfl) rfl rfl Try.zeroValue26 rfl (fun b6 => ?_)
      refine AD.one (i := 5) (by kernel_rfl) ?_
      refine AStep.callP rfl (wants_plain rfl) rfl rfl rfl Try.call15 (key_vpN _ x1 x2) ⟨ot, trivial⟩ ?_
      refine AD.one (i := 6) (by kernel_rfl) ?_
      refine AStep.callP rfl (wants_plain rfl) rfl rfl rfl Try.call20 (hdv) ⟨ot, ot, trivial⟩ ?_
      refine a1_ 7 rfl mv_ ?_
      refine a1_ 8 rfl ex_ ?_
      refine a1_ 9 rfl ex_ ?_
      refine AD.one (i := 11) (by kernel_rfl) ?_
      refine AStep.store (k := 0) (cs' := [_, _]) rfl (wants_plain rfl) rfl rfl ot rfl rfl ot rfl rfl Try.sizeOf26 rfl rfl rfl (by intro b hb; simp [bks, St.put] at hb ⊢; try first | exact hb | simp [hb] | (rcases hb with hb | hb <;> simp [hb]) | (rcases hb with hb | hb | hb <;> simp [hb])) ?_
      refine a1_ 12 rfl mv_ ?_
      refine AD.wk (y := ⟨66, [(0, _), (2, _), (4, _), (5, _), (6, _), (7, _)], [⟨b6, 26, 2, [_, _]⟩, ⟨b4, 26, 2, [_, _]⟩, ⟨b2, 26, 2, [_, _]⟩]⟩) (Wk.as_ rfl rfl ⟨lk, lk, lk, lk, lk, lk, trivial⟩) rfl ?_
      refine AD.done (by kernel_rfl) ?_
      refine CD.seq ?_
      refine sr_ ?_
      refine os_ mv_ ?_
      refine os_ bn_ ?_
      refine nm_ [0, 2, 4, 5, 6, 37] ?_
      refine CD.cond ot (fun hc2 => ?_) (fun hc2 => ?_)
      ·exact absurd hc2 (by simp at hc2)
      ·have hc2' := hc2
       (try simp only [V.cnd, ne_eq] at hc2')
       refine CD.skip ?_
       refine CD.exit ?_
       refine CD.region ?_
       refine os_ mv_ ?_
       refine os_ bn_ ?_
       refine os_ mv_ ?_
       refine nm_ [0, 2, 4, 5] ?_
       refine ⟨((i + 1), T), ⟨66, [(0, .list 1 (l.flatMap cI) l.length), (2, .v (.pointer (some ⟨b2, 0, none⟩))), (4, .v (.pointer (some ⟨b4, 0, none⟩))), (5, .v (.int .i64 (((i + 1)) : Nat)))], [⟨b4, 26, 2, [.list 5 ((T).pages.flatMap cP) (T).pages.length, .v (.int .i64 (T).root)]⟩, ⟨b2, 26, 2, [.v (.slice none 0 0), .v (.int .i64 0)]⟩]⟩, ?_, Wk.asS (n := 66) rfl (by repeat (first | exact List.Sublist.refl _ | apply List.Sublist.cons)) ⟨(by (repeat (first | exact look_hit | (apply look_at; focus (first | rfl | (simp; done) | (congr 2; omega))) | (apply look_miss; focus rfl))); done), (by (repeat (first | exact look_hit | (apply look_at; focus (first | rfl | (simp; done) | (congr 2; omega))) | (apply look_miss; focus rfl))); done), (by (repeat (first | exact look_hit | (apply look_at; focus (first | rfl | (simp; done) | (congr 2; omega))) | (apply look_miss; focus rfl))); done), (by (repeat (first | exact look_hit | (apply look_at; focus (first | rfl | (simp; done) | (congr 2; omega))) | (apply look_miss; focus rfl))); done), trivial⟩, (by omega), (by omega), (by rw [treeN_succ hil, ← hT]; unfold stepT; rw [if_pos hneg, if_neg (by rw [hth]; decide)]), rfl⟩
       first | omega | (simp only []; omega)
    ·skip
     have hdv := delete_g (G := G) g (keyN l[i])
     rw [del_yes g (keyN_ok _) hth] at hdv
     unfold cT at hdv
     refine CD.draw (bks _) (by kernel_rfl) (fun _ h => h) ?_
     refine a0_ 0 rfl (lab_ 0 [_, _]) ?_
     refine a0_ 1 rfl mv_ ?_
     refine a0_ 2 rfl mv_ ?_
     refine a0_ 3 rfl (ix_ 1 (h := by first | exact .l (j := i) rfl hil | exact .r (j := i) rfl hil)) ?_
     refine a0_ 4 rfl ld_ ?_
     refine AD0.later rfl ?_
     refine AD.two (i := 5) (j := 10) (by kernel_rfl) ?_ ?_
     ·skip
      refine AStep.callP rfl (wants_plain rfl) rfl rfl rfl Try.call15 (key_vpN _ x1 x2) ⟨ot, trivial⟩ ?_
      refine AD.two (i := 6) (j := 10) (by kernel_rfl) ?_ ?_
      ·skip
       refine AStep.callP rfl (wants_plain rfl) rfl rfl rfl Try.call20 (hdv) ⟨ot, ot, trivial⟩ ?_
       refine a1_ 7 rfl mv_ ?_
       refine a1_ 8 rfl ex_ ?_
       refine a1_ 9 rfl ex_ ?_
       refine AD.one (i := 10) (by kernel_rfl) ?_
       refine AStep.alloc (ds := [_, _]) rfl (wants_plain rfl) rfl rfl Try.zeroValue26 rfl (fun b6 => ?_)
       refine AD.one (i := 11) (by kernel_rfl) ?_
       refine AStep.store (k := 0) (cs' := [_, _]) rfl (wants_plain rfl) rfl rfl ot rfl rfl ot rfl rfl Try.sizeOf26 rfl rfl rfl (by intro b hb; simp [bks, St.put] at hb ⊢; try first | exact hb | simp [hb] | (rcases hb with hb | hb <;> simp [hb]) | (rcases hb with hb | hb | hb <;> simp [hb])) ?_
       refine a1_ 12 rfl mv_ ?_
       refine AD.wk (y := ⟨66, [(0, _), (2, _), (4, _), (5, _), (6, _), (7, _)], [⟨b6, 26, 2, [_, _]⟩, ⟨b4, 26, 2, [_, _]⟩, ⟨b2, 26, 2, [_, _]⟩]⟩) (Wk.as_ rfl rfl ⟨lk, lk, lk, lk, lk, lk, trivial⟩) rfl ?_
       refine AD.done (by kernel_rfl) ?_
       refine CD.seq ?_
       refine sr_ ?_
       refine os_ mv_ ?_
       refine os_ bn_ ?_
       refine nm_ [0, 2, 4, 5, 6, 37] ?_
       refine CD.cond ot (fun hc2 => ?_) (fun hc2 => ?_)
       ·have hc2' := hc2
        (try simp only [V.cnd, ne_eq] at hc2')
        refine CD.region ?_
        refine os_ (lab_ 0 [_, _]) ?_
        refine OD.store (k := 1) (cs' := [_, _]) (wants_plain rfl) rfl rfl ot rfl rfl ot rfl rfl Try.sizeOf26 rfl rfl rfl ?_
        refine OD.wk (Wk.as_ (n := 66) (l' := [(0, _), (2, _), (4, _), (5, _)]) (S' := [⟨b6, 26, 2, [_, _]⟩, ⟨b4, 26, 2, [_, _]⟩, ⟨b2, 26, 2, [_, _]⟩]) rfl rfl ⟨lk, lk, lk, lk, trivial⟩) ?_
        refine OD.nil ?_
        refine CD.exit ?_
        refine CD.region ?_
        refine os_ mv_ ?_
        refine os_ bn_ ?_
        refine os_ mv_ ?_
        refine nm_ [0, 2, 4, 5] ?_
        refine ⟨((i + 1), (delT T (hOf T) (keyN l[i]))), ⟨66, [(0, .list 1 (l.flatMap cI) l.length), (2, .v (.pointer (some ⟨b2, 0, none⟩))), (4, .v (.pointer (some ⟨b4, 0, none⟩))), (5, .v (.int .i64 (((i + 1)) : Nat)))], [⟨b4, 26, 2, [.list 5 ((((delT T (hOf T) (keyN l[i])))).pages.flatMap cP) (((delT T (hOf T) (keyN l[i])))).pages.length, .v (.int .i64 (((delT T (hOf T) (keyN l[i])))).root)]⟩, ⟨b2, 26, 2, [.v (.slice none 0 0), .v (.int .i64 0)]⟩]⟩, ?_, Wk.asS (n := 66) rfl (by repeat (first | exact List.Sublist.refl _ | apply List.Sublist.cons)) ⟨(by (repeat (first | exact look_hit | (apply look_at; focus (first | rfl | (simp; done) | (congr 2; omega))) | (apply look_miss; focus rfl))); done), (by (repeat (first | exact look_hit | (apply look_at; focus (first | rfl | (simp; done) | (congr 2; omega))) | (apply look_miss; focus rfl))); done), (by (repeat (first | exact look_hit | (apply look_at; focus (first | rfl | (simp; done) | (congr 2; omega))) | (apply look_miss; focus rfl))); done), (by (repeat (first | exact look_hit | (apply look_at; focus (first | rfl | (simp; done) | (congr 2; omega))) | (apply look_miss; focus rfl))); done), trivial⟩, (by omega), (by omega), (by rw [treeN_succ hil, ← hT]; unfold stepT; rw [if_pos hneg, if_pos hth]), rfl⟩
        first | omega | (simp only []; omega)
       ·exact absurd hc2 (by simp at hc2)
      ·skip
       refine AStep.alloc (ds := [_, _]) rfl (wants_plain rfl) rfl rfl Try.zeroValue26 rfl (fun b6 => ?_)
       refine AD.one (i := 6) (by kernel_rfl) ?_
       refine AStep.callP rfl (wants_plain rfl) rfl rfl rfl Try.call20 (hdv) ⟨ot, ot, trivial⟩ ?_
       refine a1_ 7 rfl mv_ ?_
       refine a1_ 8 rfl ex_ ?_
       refine a1_ 9 rfl ex_ ?_
       refine AD.one (i := 11) (by kernel_rfl) ?_
       refine AStep.store (k := 0) (cs' := [_, _]) rfl (wants_plain rfl) rfl rfl ot rfl rfl ot rfl rfl Try.sizeOf26 rfl rfl rfl (by intro b hb; simp [bks, St.put] at hb ⊢; try first | exact hb | simp [hb] | (rcases hb with hb | hb <;> simp [hb]) | (rcases hb with hb | hb | hb <;> simp [hb])) ?_
       refine a1_ 12 rfl mv_ ?_
       refine AD.wk (y := ⟨66, [(0, _), (2, _), (4, _), (5, _), (6, _), (7, _)], [⟨b6, 26, 2, [_, _]⟩, ⟨b4, 26, 2, [_, _]⟩, ⟨b2, 26, 2, [_, _]⟩]⟩) (Wk.as_ rfl rfl ⟨lk, lk, lk, lk, lk, lk, trivial⟩) rfl ?_
       refine AD.done (by kernel_rfl) ?_
       refine CD.seq ?_
       refine sr_ ?_
       refine os_ mv_ ?_
       refine os_ bn_ ?_
       refine nm_ [0, 2, 4, 5, 6, 37] ?_
       refine CD.cond ot (fun hc2 => ?_) (fun hc2 => ?_)
       ·have hc2' := hc2
        (try simp only [V.cnd, ne_eq] at hc2')
        refine CD.region ?_
        refine os_ (lab_ 0 [_, _]) ?_
        refine OD.store (k := 1) (cs' := [_, _]) (wants_plain rfl) rfl rfl ot rfl rfl ot rfl rfl Try.sizeOf26 rfl rfl rfl ?_
        refine OD.wk (Wk.as_ (n := 66) (l' := [(0, _), (2, _), (4, _), (5, _)]) (S' := [⟨b6, 26, 2, [_, _]⟩, ⟨b4, 26, 2, [_, _]⟩, ⟨b2, 26, 2, [_, _]⟩]) rfl rfl ⟨lk, lk, lk, lk, trivial⟩) ?_
        refine OD.nil ?_
        refine CD.exit ?_
        refine CD.region ?_
        refine os_ mv_ ?_
        refine os_ bn_ ?_
        refine os_ mv_ ?_
        refine nm_ [0, 2, 4, 5] ?_
        refine ⟨((i + 1), (delT T (hOf T) (keyN l[i]))), ⟨66, [(0, .list 1 (l.flatMap cI) l.length), (2, .v (.pointer (some ⟨b2, 0, none⟩))), (4, .v (.pointer (some ⟨b4, 0, none⟩))), (5, .v (.int .i64 (((i + 1)) : Nat)))], [⟨b4, 26, 2, [.list 5 ((((delT T (hOf T) (keyN l[i])))).pages.flatMap cP) (((delT T (hOf T) (keyN l[i])))).pages.length, .v (.int .i64 (((delT T (hOf T) (keyN l[i])))).root)]⟩, ⟨b2, 26, 2, [.v (.slice none 0 0), .v (.int .i64 0)]⟩]⟩, ?_, Wk.asS (n := 66) rfl (by repeat (first | exact List.Sublist.refl _ | apply List.Sublist.cons)) ⟨(by (repeat (first | exact look_hit | (apply look_at; focus (first | rfl | (simp; done) | (congr 2; omega))) | (apply look_miss; focus rfl))); done), (by (repeat (first | exact look_hit | (apply look_at; focus (first | rfl | (simp; done) | (congr 2; omega))) | (apply look_miss; focus rfl))); done), (by (repeat (first | exact look_hit | (apply look_at; focus (first | rfl | (simp; done) | (congr 2; omega))) | (apply look_miss; focus rfl))); done), (by (repeat (first | exact look_hit | (apply look_at; focus (first | rfl | (simp; done) | (congr 2; omega))) | (apply look_miss; focus rfl))); done), trivial⟩, (by omega), (by omega), (by rw [treeN_succ hil, ← hT]; unfold stepT; rw [if_pos hneg, if_pos hth]), rfl⟩
        first | omega | (simp only []; omega)
       ·exact absurd hc2 (by simp at hc2)
     ·skip
      refine AStep.alloc (ds := [_, _]) rfl (wants_plain rfl) rfl rfl Try.zeroValue26 rfl (fun b6 => ?_)
      refine AD.one (i := 5) (by kernel_rfl) ?_
      refine AStep.callP rfl (wants_plain rfl) rfl rfl rfl Try.call15 (key_vpN _ x1 x2) ⟨ot, trivial⟩ ?_
      refine AD.one (i := 6) (by kernel_rfl) ?_
      refine AStep.callP rfl (wants_plain rfl) rfl rfl rfl Try.call20 (hdv) ⟨ot, ot, trivial⟩ ?_
      refine a1_ 7 rfl mv_ ?_
      refine a1_ 8 rfl ex_ ?_
      refine a1_ 9 rfl ex_ ?_
      refine AD.one (i := 11) (by kernel_rfl) ?_
      refine AStep.store (k := 0) (cs' := [_, _]) rfl (wants_plain rfl) rfl rfl ot rfl rfl ot rfl rfl Try.sizeOf26 rfl rfl rfl (by intro b hb; simp [bks, St.put] at hb ⊢; try first | exact hb | simp [hb] | (rcases hb with hb | hb <;> simp [hb]) | (rcases hb with hb | hb | hb <;> simp [hb])) ?_
      refine a1_ 12 rfl mv_ ?_
      refine AD.wk (y := ⟨66, [(0, _), (2, _), (4, _), (5, _), (6, _), (7, _)], [⟨b6, 26, 2, [_, _]⟩, ⟨b4, 26, 2, [_, _]⟩, ⟨b2, 26, 2, [_, _]⟩]⟩) (Wk.as_ rfl rfl ⟨lk, lk, lk, lk, lk, lk, trivial⟩) rfl ?_
      refine AD.done (by kernel_rfl) ?_
      refine CD.seq ?_
      refine sr_ ?_
      refine os_ mv_ ?_
      refine os_ bn_ ?_
      refine nm_ [0, 2, 4, 5, 6, 37] ?_
      refine CD.cond ot (fun hc2 => ?_) (fun hc2 => ?_)
      ·have hc2' := hc2
       (try simp only [V.cnd, ne_eq] at hc2')
       refine CD.region ?_
       refine os_ (lab_ 0 [_, _]) ?_
       refine OD.store (k := 1) (cs' := [_, _]) (wants_plain rfl) rfl rfl ot rfl rfl ot rfl rfl Try.sizeOf26 rfl rfl rfl ?_
       refine OD.wk (Wk.as_ (n := 66) (l' := [(0, _), (2, _), (4, _), (5, _)]) (S' := [⟨b6, 26, 2, [_, _]⟩, ⟨b4, 26, 2, [_, _]⟩, ⟨b2, 26, 2, [_, _]⟩]) rfl rfl ⟨lk, lk, lk, lk, trivial⟩) ?_
       refine OD.nil ?_
       refine CD.exit ?_
       refine CD.region ?_
       refine os_ mv_ ?_
       refine os_ bn_ ?_
       refine os_ mv_ ?_
       refine nm_ [0, 2, 4, 5] ?_
       refine ⟨((i + 1), (delT T (hOf T) (keyN l[i]))), ⟨66, [(0, .list 1 (l.flatMap cI) l.length), (2, .v (.pointer (some ⟨b2, 0, none⟩))), (4, .v (.pointer (some ⟨b4, 0, none⟩))), (5, .v (.int .i64 (((i + 1)) : Nat)))], [⟨b4, 26, 2, [.list 5 ((((delT T (hOf T) (keyN l[i])))).pages.flatMap cP) (((delT T (hOf T) (keyN l[i])))).pages.length, .v (.int .i64 (((delT T (hOf T) (keyN l[i])))).root)]⟩, ⟨b2, 26, 2, [.v (.slice none 0 0), .v (.int .i64 0)]⟩]⟩, ?_, Wk.asS (n := 66) rfl (by repeat (first | exact List.Sublist.refl _ | apply List.Sublist.cons)) ⟨(by (repeat (first | exact look_hit | (apply look_at; focus (first | rfl | (simp; done) | (congr 2; omega))) | (apply look_miss; focus rfl))); done), (by (repeat (first | exact look_hit | (apply look_at; focus (first | rfl | (simp; done) | (congr 2; omega))) | (apply look_miss; focus rfl))); done), (by (repeat (first | exact look_hit | (apply look_at; focus (first | rfl | (simp; done) | (congr 2; omega))) | (apply look_miss; focus rfl))); done), (by (repeat (first | exact look_hit | (apply look_at; focus (first | rfl | (simp; done) | (congr 2; omega))) | (apply look_miss; focus rfl))); done), trivial⟩, (by omega), (by omega), (by rw [treeN_succ hil, ← hT]; unfold stepT; rw [if_pos hneg, if_pos hth]), rfl⟩
       first | omega | (simp only []; omega)
      ·exact absurd hc2 (by simp at hc2)
   ·have hc1' := hc1
    (try simp only [V.cnd, ne_eq] at hc1')
    have hneg : ¬ l[i] < 0 := by simpa using hc1
    refine CD.skip ?_
    refine CD.seq ?_
    rcases hth : thereB T (keyN l[i]) (hOf T) with _ | _
    ·skip
     have hdv := insert_g (G := G) g (keyN l[i]) (i : Nat)
     rw [ins_no g (by omega) (keyN_ok _) (by omega) hth] at hdv
     unfold cT at hdv
     refine CD.draw (bks _) (by kernel_rfl) (fun _ h => h) ?_
     refine a0_ 0 rfl (lab_ 0 [_, _]) ?_
     refine a0_ 1 rfl mv_ ?_
     refine a0_ 2 rfl mv_ ?_
     refine a0_ 3 rfl (ix_ 1 (h := by first | exact .l (j := i) rfl hil | exact .r (j := i) rfl hil)) ?_
     refine a0_ 4 rfl ld_ ?_
     refine a0_ 6 rfl mv_ ?_
     refine AD0.later rfl ?_
     refine AD.two (i := 5) (j := 11) (by kernel_rfl) ?_ ?_
     ·skip
      refine AStep.callP rfl (wants_plain rfl) rfl rfl rfl Try.call15 (key_vpN _ x1 x2) ⟨ot, trivial⟩ ?_
      refine AD.two (i := 7) (j := 11) (by kernel_rfl) ?_ ?_
      ·skip
       refine AStep.callP rfl (wants_plain rfl) rfl rfl rfl Try.call14 (hdv) ⟨ot, ot, ot, trivial⟩ ?_
       refine a1_ 8 rfl mv_ ?_
       refine a1_ 9 rfl ex_ ?_
       refine a1_ 10 rfl ex_ ?_
       refine AD.one (i := 11) (by kernel_rfl) ?_
       refine AStep.alloc (ds := [_, _]) rfl (wants_plain rfl) rfl rfl Try.zeroValue26 rfl (fun b8 => ?_)
       refine AD.one (i := 12) (by kernel_rfl) ?_
       refine AStep.store (k := 0) (cs' := [_, _]) rfl (wants_plain rfl) rfl rfl ot rfl rfl ot rfl rfl Try.sizeOf26 rfl rfl rfl (by intro b hb; simp [bks, St.put] at hb ⊢; try first | exact hb | simp [hb] | (rcases hb with hb | hb <;> simp [hb]) | (rcases hb with hb | hb | hb <;> simp [hb])) ?_
       refine a1_ 13 rfl mv_ ?_
       refine AD.wk (y := ⟨66, [(0, _), (2, _), (4, _), (5, _), (8, _), (9, _)], [⟨b8, 26, 2, [_, _]⟩, ⟨b4, 26, 2, [_, _]⟩, ⟨b2, 26, 2, [_, _]⟩]⟩) (Wk.as_ rfl rfl ⟨lk, lk, lk, lk, lk, lk, trivial⟩) rfl ?_
       refine AD.done (by kernel_rfl) ?_
       refine sr_ ?_
       refine os_ mv_ ?_
       refine os_ bn_ ?_
       refine nm_ [0, 2, 4, 5, 8, 9, 51] ?_
       refine CD.cond ot (fun hc3 => ?_) (fun hc3 => ?_)
       ·have hc3' := hc3
        (try simp only [V.cnd, ne_eq] at hc3')
        refine CD.region ?_
        refine os_ (lab_ 0 [_, _]) ?_
        refine OD.store (k := 1) (cs' := [_, _]) (wants_plain rfl) rfl rfl ot rfl rfl ot rfl rfl Try.sizeOf26 rfl rfl rfl ?_
        refine OD.wk (Wk.as_ (n := 66) (l' := [(0, _), (2, _), (4, _), (5, _)]) (S' := [⟨b8, 26, 2, [_, _]⟩, ⟨b4, 26, 2, [_, _]⟩, ⟨b2, 26, 2, [_, _]⟩]) rfl rfl ⟨lk, lk, lk, lk, trivial⟩) ?_
        refine OD.nil ?_
        refine CD.region ?_
        refine os_ mv_ ?_
        refine os_ bn_ ?_
        refine os_ mv_ ?_
        refine nm_ [0, 2, 4, 5] ?_
        refine ⟨((i + 1), (insT T (hOf T) (keyN l[i]) i)), ⟨66, [(0, .list 1 (l.flatMap cI) l.length), (2, .v (.pointer (some ⟨b2, 0, none⟩))), (4, .v (.pointer (some ⟨b4, 0, none⟩))), (5, .v (.int .i64 (((i + 1)) : Nat)))], [⟨b4, 26, 2, [.list 5 ((((insT T (hOf T) (keyN l[i]) i))).pages.flatMap cP) (((insT T (hOf T) (keyN l[i]) i))).pages.length, .v (.int .i64 (((insT T (hOf T) (keyN l[i]) i))).root)]⟩, ⟨b2, 26, 2, [.v (.slice none 0 0), .v (.int .i64 0)]⟩]⟩, ?_, Wk.asS (n := 66) rfl (by repeat (first | exact List.Sublist.refl _ | apply List.Sublist.cons)) ⟨(by (repeat (first | exact look_hit | (apply look_at; focus (first | rfl | (simp; done) | (congr 2; omega))) | (apply look_miss; focus rfl))); done), (by (repeat (first | exact look_hit | (apply look_at; focus (first | rfl | (simp; done) | (congr 2; omega))) | (apply look_miss; focus rfl))); done), (by (repeat (first | exact look_hit | (apply look_at; focus (first | rfl | (simp; done) | (congr 2; omega))) | (apply look_miss; focus rfl))); done), (by (repeat (first | exact look_hit | (apply look_at; focus (first | rfl | (simp; done) | (congr 2; omega))) | (apply look_miss; focus rfl))); done), trivial⟩, (by omega), (by omega), (by rw [treeN_succ hil, ← hT]; unfold stepT; rw [if_neg hneg, if_neg (by rw [hth]; decide)]), rfl⟩
        first | omega | (simp only []; omega)
       ·exact absurd hc3 (by simp at hc3)
      ·skip
       refine AStep.alloc (ds := [_, _]) rfl (wants_plain rfl) rfl rfl Try.zeroValue26 rfl (fun b8 => ?_)
       refine AD.one (i := 7) (by kernel_rfl) ?_
       refine AStep.callP rfl (wants_plain rfl) rfl rfl rfl Try.call14 (hdv) ⟨ot, ot, ot, trivial⟩ ?_
       refine a1_ 8 rfl mv_ ?_
       refine a1_ 9 rfl ex_ ?_
       refine a1_ 10 rfl ex_ ?_
       refine AD.one (i := 12) (by kernel_rfl) ?_
       refine AStep.store (k := 0) (cs' := [_, _]) rfl (wants_plain rfl) rfl rfl ot rfl rfl ot rfl rfl Try.sizeOf26 rfl rfl rfl (by intro b hb; simp [bks, St.put] at hb ⊢; try first | exact hb | simp [hb] | (rcases hb with hb | hb <;> simp [hb]) | (rcases hb with hb | hb | hb <;> simp [hb])) ?_
       refine a1_ 13 rfl mv_ ?_
       refine AD.wk (y := ⟨66, [(0, _), (2, _), (4, _), (5, _), (8, _), (9, _)], [⟨b8, 26, 2, [_, _]⟩, ⟨b4, 26, 2, [_, _]⟩, ⟨b2, 26, 2, [_, _]⟩]⟩) (Wk.as_ rfl rfl ⟨lk, lk, lk, lk, lk, lk, trivial⟩) rfl ?_
       refine AD.done (by kernel_rfl) ?_
       refine sr_ ?_
       refine os_ mv_ ?_
       refine os_ bn_ ?_
       refine nm_ [0, 2, 4, 5, 8, 9, 51] ?_
       refine CD.cond ot (fun hc3 => ?_) (fun hc3 => ?_)
       ·have hc3' := hc3
        (try simp only [V.cnd, ne_eq] at hc3')
        refine CD.region ?_
        refine os_ (lab_ 0 [_, _]) ?_
        refine OD.store (k := 1) (cs' := [_, _]) (wants_plain rfl) rfl rfl ot rfl rfl ot rfl rfl Try.sizeOf26 rfl rfl rfl ?_
        refine OD.wk (Wk.as_ (n := 66) (l' := [(0, _), (2, _), (4, _), (5, _)]) (S' := [⟨b8, 26, 2, [_, _]⟩, ⟨b4, 26, 2, [_, _]⟩, ⟨b2, 26, 2, [_, _]⟩]) rfl rfl ⟨lk, lk, lk, lk, trivial⟩) ?_
        refine OD.nil ?_
        refine CD.region ?_
        refine os_ mv_ ?_
        refine os_ bn_ ?_
        refine os_ mv_ ?_
        refine nm_ [0, 2, 4, 5] ?_
        refine ⟨((i + 1), (insT T (hOf T) (keyN l[i]) i)), ⟨66, [(0, .list 1 (l.flatMap cI) l.length), (2, .v (.pointer (some ⟨b2, 0, none⟩))), (4, .v (.pointer (some ⟨b4, 0, none⟩))), (5, .v (.int .i64 (((i + 1)) : Nat)))], [⟨b4, 26, 2, [.list 5 ((((insT T (hOf T) (keyN l[i]) i))).pages.flatMap cP) (((insT T (hOf T) (keyN l[i]) i))).pages.length, .v (.int .i64 (((insT T (hOf T) (keyN l[i]) i))).root)]⟩, ⟨b2, 26, 2, [.v (.slice none 0 0), .v (.int .i64 0)]⟩]⟩, ?_, Wk.asS (n := 66) rfl (by repeat (first | exact List.Sublist.refl _ | apply List.Sublist.cons)) ⟨(by (repeat (first | exact look_hit | (apply look_at; focus (first | rfl | (simp; done) | (congr 2; omega))) | (apply look_miss; focus rfl))); done), (by (repeat (first | exact look_hit | (apply look_at; focus (first | rfl | (simp; done) | (congr 2; omega))) | (apply look_miss; focus rfl))); done), (by (repeat (first | exact look_hit | (apply look_at; focus (first | rfl | (simp; done) | (congr 2; omega))) | (apply look_miss; focus rfl))); done), (by (repeat (first | exact look_hit | (apply look_at; focus (first | rfl | (simp; done) | (congr 2; omega))) | (apply look_miss; focus rfl))); done), trivial⟩, (by omega), (by omega), (by rw [treeN_succ hil, ← hT]; unfold stepT; rw [if_neg hneg, if_neg (by rw [hth]; decide)]), rfl⟩
        first | omega | (simp only []; omega)
       ·exact absurd hc3 (by simp at hc3)
     ·skip
      refine AStep.alloc (ds := [_, _]) rfl (wants_plain rfl) rfl rfl Try.zeroValue26 rfl (fun b8 => ?_)
      refine AD.one (i := 5) (by kernel_rfl) ?_
      refine AStep.callP rfl (wants_plain rfl) rfl rfl rfl Try.call15 (key_vpN _ x1 x2) ⟨ot, trivial⟩ ?_
      refine AD.one (i := 7) (by kernel_rfl) ?_
      refine AStep.callP rfl (wants_plain rfl) rfl rfl rfl Try.call14 (hdv) ⟨ot, ot, ot, trivial⟩ ?_
      refine a1_ 8 rfl mv_ ?_
      refine a1_ 9 rfl ex_ ?_
      refine a1_ 10 rfl ex_ ?_
      refine AD.one (i := 12) (by kernel_rfl) ?_
      refine AStep.store (k := 0) (cs' := [_, _]) rfl (wants_plain rfl) rfl rfl ot rfl rfl ot rfl rfl Try.sizeOf26 rfl rfl rfl (by intro b hb; simp [bks, St.put] at hb ⊢; try first | exact hb | simp [hb] | (rcases hb with hb | hb <;> simp [hb]) | (rcases hb with hb | hb | hb <;> simp [hb])) ?_
      refine a1_ 13 rfl mv_ ?_
      refine AD.wk (y := ⟨66, [(0, _), (2, _), (4, _), (5, _), (8, _), (9, _)], [⟨b8, 26, 2, [_, _]⟩, ⟨b4, 26, 2, [_, _]⟩, ⟨b2, 26, 2, [_, _]⟩]⟩) (Wk.as_ rfl rfl ⟨lk, lk, lk, lk, lk, lk, trivial⟩) rfl ?_
      refine AD.done (by kernel_rfl) ?_
      refine sr_ ?_
      refine os_ mv_ ?_
      refine os_ bn_ ?_
      refine nm_ [0, 2, 4, 5, 8, 9, 51] ?_
      refine CD.cond ot (fun hc3 => ?_) (fun hc3 => ?_)
      ·have hc3' := hc3
       (try simp only [V.cnd, ne_eq] at hc3')
       refine CD.region ?_
       refine os_ (lab_ 0 [_, _]) ?_
       refine OD.store (k := 1) (cs' := [_, _]) (wants_plain rfl) rfl rfl ot rfl rfl ot rfl rfl Try.sizeOf26 rfl rfl rfl ?_
       refine OD.wk (Wk.as_ (n := 66) (l' := [(0, _), (2, _), (4, _), (5, _)]) (S' := [⟨b8, 26, 2, [_, _]⟩, ⟨b4, 26, 2, [_, _]⟩, ⟨b2, 26, 2, [_, _]⟩]) rfl rfl ⟨lk, lk, lk, lk, trivial⟩) ?_
       refine OD.nil ?_
       refine CD.region ?_
       refine os_ mv_ ?_
       refine os_ bn_ ?_
       refine os_ mv_ ?_
       refine nm_ [0, 2, 4, 5] ?_
       refine ⟨((i + 1), (insT T (hOf T) (keyN l[i]) i)), ⟨66, [(0, .list 1 (l.flatMap cI) l.length), (2, .v (.pointer (some ⟨b2, 0, none⟩))), (4, .v (.pointer (some ⟨b4, 0, none⟩))), (5, .v (.int .i64 (((i + 1)) : Nat)))], [⟨b4, 26, 2, [.list 5 ((((insT T (hOf T) (keyN l[i]) i))).pages.flatMap cP) (((insT T (hOf T) (keyN l[i]) i))).pages.length, .v (.int .i64 (((insT T (hOf T) (keyN l[i]) i))).root)]⟩, ⟨b2, 26, 2, [.v (.slice none 0 0), .v (.int .i64 0)]⟩]⟩, ?_, Wk.asS (n := 66) rfl (by repeat (first | exact List.Sublist.refl _ | apply List.Sublist.cons)) ⟨(by (repeat (first | exact look_hit | (apply look_at; focus (first | rfl | (simp; done) | (congr 2; omega))) | (apply look_miss; focus rfl))); done), (by (repeat (first | exact look_hit | (apply look_at; focus (first | rfl | (simp; done) | (congr 2; omega))) | (apply look_miss; focus rfl))); done), (by (repeat (first | exact look_hit | (apply look_at; focus (first | rfl | (simp; done) | (congr 2; omega))) | (apply look_miss; focus rfl))); done), (by (repeat (first | exact look_hit | (apply look_at; focus (first | rfl | (simp; done) | (congr 2; omega))) | (apply look_miss; focus rfl))); done), trivial⟩, (by omega), (by omega), (by rw [treeN_succ hil, ← hT]; unfold stepT; rw [if_neg hneg, if_neg (by rw [hth]; decide)]), rfl⟩
       first | omega | (simp only []; omega)
      ·exact absurd hc3 (by simp at hc3)
    ·skip
     have hdv := insert_g (G := G) g (keyN l[i]) (i : Nat)
     rw [ins_yes g (keyN_ok _) (by omega) hth] at hdv
     unfold cT at hdv
     refine CD.draw (bks _) (by kernel_rfl) (fun _ h => h) ?_
     refine a0_ 0 rfl (lab_ 0 [_, _]) ?_
     refine a0_ 1 rfl mv_ ?_
     refine a0_ 2 rfl mv_ ?_
     refine a0_ 3 rfl (ix_ 1 (h := by first | exact .l (j := i) rfl hil | exact .r (j := i) rfl hil)) ?_
     refine a0_ 4 rfl ld_ ?_
     refine a0_ 6 rfl mv_ ?_
     refine AD0.later rfl ?_
     refine AD.two (i := 5) (j := 11) (by kernel_rfl) ?_ ?_
     ·skip
      refine AStep.callP rfl (wants_plain rfl) rfl rfl rfl Try.call15 (key_vpN _ x1 x2) ⟨ot, trivial⟩ ?_
      refine AD.two (i := 7) (j := 11) (by kernel_rfl) ?_ ?_
      ·skip
       refine AStep.callP rfl (wants_plain rfl) rfl rfl rfl Try.call14 (hdv) ⟨ot, ot, ot, trivial⟩ ?_
       refine a1_ 8 rfl mv_ ?_
       refine a1_ 9 rfl ex_ ?_
       refine a1_ 10 rfl ex_ ?_
       refine AD.one (i := 11) (by kernel_rfl) ?_
       refine AStep.alloc (ds := [_, _]) rfl (wants_plain rfl) rfl rfl Try.zeroValue26 rfl (fun b8 => ?_)
       refine AD.one (i := 12) (by kernel_rfl) ?_
       refine AStep.store (k := 0) (cs' := [_, _]) rfl (wants_plain rfl) rfl rfl ot rfl rfl ot rfl rfl Try.sizeOf26 rfl rfl rfl (by intro b hb; simp [bks, St.put] at hb ⊢; try first | exact hb | simp [hb] | (rcases hb with hb | hb <;> simp [hb]) | (rcases hb with hb | hb | hb <;> simp [hb])) ?_
       refine a1_ 13 rfl mv_ ?_
       refine AD.wk (y := ⟨66, [(0, _), (2, _), (4, _), (5, _), (8, _), (9, _)], [⟨b8, 26, 2, [_, _]⟩, ⟨b4, 26, 2, [_, _]⟩, ⟨b2, 26, 2, [_, _]⟩]⟩) (Wk.as_ rfl rfl ⟨lk, lk, lk, lk, lk, lk, trivial⟩) rfl ?_
       refine AD.done (by kernel_rfl) ?_
       refine sr_ ?_
       refine os_ mv_ ?_
       refine os_ bn_ ?_
       refine nm_ [0, 2, 4, 5, 8, 9, 51] ?_
       refine CD.cond ot (fun hc3 => ?_) (fun hc3 => ?_)
       ·exact absurd hc3 (by simp at hc3)
       ·have hc3' := hc3
        (try simp only [V.cnd, ne_eq] at hc3')
        refine sr_ ?_
        refine os_ mv_ ?_
        refine os_ bn_ ?_
        refine nm_ [0, 2, 4, 5, 54] ?_
        refine CD.cond ot (fun hc4 => ?_) (fun hc4 => ?_)
        ·exact absurd hc4 (by simp at hc4)
        ·have hc4' := hc4
         (try simp only [V.cnd, ne_eq] at hc4')
         refine CD.skip ?_
         refine CD.region ?_
         refine os_ mv_ ?_
         refine os_ bn_ ?_
         refine os_ mv_ ?_
         refine nm_ [0, 2, 4, 5] ?_
         refine ⟨((i + 1), T), ⟨66, [(0, .list 1 (l.flatMap cI) l.length), (2, .v (.pointer (some ⟨b2, 0, none⟩))), (4, .v (.pointer (some ⟨b4, 0, none⟩))), (5, .v (.int .i64 (((i + 1)) : Nat)))], [⟨b4, 26, 2, [.list 5 ((T).pages.flatMap cP) (T).pages.length, .v (.int .i64 (T).root)]⟩, ⟨b2, 26, 2, [.v (.slice none 0 0), .v (.int .i64 0)]⟩]⟩, ?_, Wk.asS (n := 66) rfl (by repeat (first | exact List.Sublist.refl _ | apply List.Sublist.cons)) ⟨(by (repeat (first | exact look_hit | (apply look_at; focus (first | rfl | (simp; done) | (congr 2; omega))) | (apply look_miss; focus rfl))); done), (by (repeat (first | exact look_hit | (apply look_at; focus (first | rfl | (simp; done) | (congr 2; omega))) | (apply look_miss; focus rfl))); done), (by (repeat (first | exact look_hit | (apply look_at; focus (first | rfl | (simp; done) | (congr 2; omega))) | (apply look_miss; focus rfl))); done), (by (repeat (first | exact look_hit | (apply look_at; focus (first | rfl | (simp; done) | (congr 2; omega))) | (apply look_miss; focus rfl))); done), trivial⟩, (by omega), (by omega), (by rw [treeN_succ hil, ← hT]; unfold stepT; rw [if_neg hneg, if_pos hth]), rfl⟩
         first | omega | (simp only []; omega)
      ·skip
       refine AStep.alloc (ds := [_, _]) rfl (wants_plain rfl) rfl rfl Try.zeroValue26 rfl (fun b8 => ?_)
       refine AD.one (i := 7) (by kernel_rfl) ?_
       refine AStep.callP rfl (wants_plain rfl) rfl rfl rfl Try.call14 (hdv) ⟨ot, ot, ot, trivial⟩ ?_
       refine a1_ 8 rfl mv_ ?_
       refine a1_ 9 rfl ex_ ?_
       refine a1_ 10 rfl ex_ ?_
       refine AD.one (i := 12) (by kernel_rfl) ?_
       refine AStep.store (k := 0) (cs' := [_, _]) rfl (wants_plain rfl) rfl rfl ot rfl rfl ot rfl rfl Try.sizeOf26 rfl rfl rfl (by intro b hb; simp [bks, St.put] at hb ⊢; try first | exact hb | simp [hb] | (rcases hb with hb | hb <;> simp [hb]) | (rcases hb with hb | hb | hb <;> simp [hb])) ?_
       refine a1_ 13 rfl mv_ ?_
       refine AD.wk (y := ⟨66, [(0, _), (2, _), (4, _), (5, _), (8, _), (9, _)], [⟨b8, 26, 2, [_, _]⟩, ⟨b4, 26, 2, [_, _]⟩, ⟨b2, 26, 2, [_, _]⟩]⟩) (Wk.as_ rfl rfl ⟨lk, lk, lk, lk, lk, lk, trivial⟩) rfl ?_
       refine AD.done (by kernel_rfl) ?_
       refine sr_ ?_
       refine os_ mv_ ?_
       refine os_ bn_ ?_
       refine nm_ [0, 2, 4, 5, 8, 9, 51] ?_
       refine CD.cond ot (fun hc3 => ?_) (fun hc3 => ?_)
       ·exact absurd hc3 (by simp at hc3)
       ·have hc3' := hc3
        (try simp only [V.cnd, ne_eq] at hc3')
        refine sr_ ?_
        refine os_ mv_ ?_
        refine os_ bn_ ?_
        refine nm_ [0, 2, 4, 5, 54] ?_
        refine CD.cond ot (fun hc4 => ?_) (fun hc4 => ?_)
        ·exact absurd hc4 (by simp at hc4)
        ·have hc4' := hc4
         (try simp only [V.cnd, ne_eq] at hc4')
         refine CD.skip ?_
         refine CD.region ?_
         refine os_ mv_ ?_
         refine os_ bn_ ?_
         refine os_ mv_ ?_
         refine nm_ [0, 2, 4, 5] ?_
         refine ⟨((i + 1), T), ⟨66, [(0, .list 1 (l.flatMap cI) l.length), (2, .v (.pointer (some ⟨b2, 0, none⟩))), (4, .v (.pointer (some ⟨b4, 0, none⟩))), (5, .v (.int .i64 (((i + 1)) : Nat)))], [⟨b4, 26, 2, [.list 5 ((T).pages.flatMap cP) (T).pages.length, .v (.int .i64 (T).root)]⟩, ⟨b2, 26, 2, [.v (.slice none 0 0), .v (.int .i64 0)]⟩]⟩, ?_, Wk.asS (n := 66) rfl (by repeat (first | exact List.Sublist.refl _ | apply List.Sublist.cons)) ⟨(by (repeat (first | exact look_hit | (apply look_at; focus (first | rfl | (simp; done) | (congr 2; omega))) | (apply look_miss; focus rfl))); done), (by (repeat (first | exact look_hit | (apply look_at; focus (first | rfl | (simp; done) | (congr 2; omega))) | (apply look_miss; focus rfl))); done), (by (repeat (first | exact look_hit | (apply look_at; focus (first | rfl | (simp; done) | (congr 2; omega))) | (apply look_miss; focus rfl))); done), (by (repeat (first | exact look_hit | (apply look_at; focus (first | rfl | (simp; done) | (congr 2; omega))) | (apply look_miss; focus rfl))); done), trivial⟩, (by omega), (by omega), (by rw [treeN_succ hil, ← hT]; unfold stepT; rw [if_neg hneg, if_pos hth]), rfl⟩
         first | omega | (simp only []; omega)
     ·skip
      refine AStep.alloc (ds := [_, _]) rfl (wants_plain rfl) rfl rfl Try.zeroValue26 rfl (fun b8 => ?_)
      refine AD.one (i := 5) (by kernel_rfl) ?_
      refine AStep.callP rfl (wants_plain rfl) rfl rfl rfl Try.call15 (key_vpN _ x1 x2) ⟨ot, trivial⟩ ?_
      refine AD.one (i := 7) (by kernel_rfl) ?_
      refine AStep.callP rfl (wants_plain rfl) rfl rfl rfl Try.call14 (hdv) ⟨ot, ot, ot, trivial⟩ ?_
      refine a1_ 8 rfl mv_ ?_
      refine a1_ 9 rfl ex_ ?_
      refine a1_ 10 rfl ex_ ?_
      refine AD.one (i := 12) (by kernel_rfl) ?_
      refine AStep.store (k := 0) (cs' := [_, _]) rfl (wants_plain rfl) rfl rfl ot rfl rfl ot rfl rfl Try.sizeOf26 rfl rfl rfl (by intro b hb; simp [bks, St.put] at hb ⊢; try first | exact hb | simp [hb] | (rcases hb with hb | hb <;> simp [hb]) | (rcases hb with hb | hb | hb <;> simp [hb])) ?_
      refine a1_ 13 rfl mv_ ?_
      refine AD.wk (y := ⟨66, [(0, _), (2, _), (4, _), (5, _), (8, _), (9, _)], [⟨b8, 26, 2, [_, _]⟩, ⟨b4, 26, 2, [_, _]⟩, ⟨b2, 26, 2, [_, _]⟩]⟩) (Wk.as_ rfl rfl ⟨lk, lk, lk, lk, lk, lk, trivial⟩) rfl ?_
      refine AD.done (by kernel_rfl) ?_
      refine sr_ ?_
      refine os_ mv_ ?_
      refine os_ bn_ ?_
      refine nm_ [0, 2, 4, 5, 8, 9, 51] ?_
      refine CD.cond ot (fun hc3 => ?_) (fun hc3 => ?_)
      ·exact absurd hc3 (by simp at hc3)
      ·have hc3' := hc3
       (try simp only [V.cnd, ne_eq] at hc3')
       refine sr_ ?_
       refine os_ mv_ ?_
       refine os_ bn_ ?_
       refine nm_ [0, 2, 4, 5, 54] ?_
       refine CD.cond ot (fun hc4 => ?_) (fun hc4 => ?_)
       ·exact absurd hc4 (by simp at hc4)
       ·have hc4' := hc4
        (try simp only [V.cnd, ne_eq] at hc4')
        refine CD.skip ?_
        refine CD.region ?_
        refine os_ mv_ ?_
        refine os_ bn_ ?_
        refine os_ mv_ ?_
        refine nm_ [0, 2, 4, 5] ?_
        refine ⟨((i + 1), T), ⟨66, [(0, .list 1 (l.flatMap cI) l.length), (2, .v (.pointer (some ⟨b2, 0, none⟩))), (4, .v (.pointer (some ⟨b4, 0, none⟩))), (5, .v (.int .i64 (((i + 1)) : Nat)))], [⟨b4, 26, 2, [.list 5 ((T).pages.flatMap cP) (T).pages.length, .v (.int .i64 (T).root)]⟩, ⟨b2, 26, 2, [.v (.slice none 0 0), .v (.int .i64 0)]⟩]⟩, ?_, Wk.asS (n := 66) rfl (by repeat (first | exact List.Sublist.refl _ | apply List.Sublist.cons)) ⟨(by (repeat (first | exact look_hit | (apply look_at; focus (first | rfl | (simp; done) | (congr 2; omega))) | (apply look_miss; focus rfl))); done), (by (repeat (first | exact look_hit | (apply look_at; focus (first | rfl | (simp; done) | (congr 2; omega))) | (apply look_miss; focus rfl))); done), (by (repeat (first | exact look_hit | (apply look_at; focus (first | rfl | (simp; done) | (congr 2; omega))) | (apply look_miss; focus rfl))); done), (by (repeat (first | exact look_hit | (apply look_at; focus (first | rfl | (simp; done) | (congr 2; omega))) | (apply look_miss; focus rfl))); done), trivial⟩, (by omega), (by omega), (by rw [treeN_succ hil, ← hT]; unfold stepT; rw [if_neg hneg, if_pos hth]), rfl⟩
        first | omega | (simp only []; omega)
  ·have hc0' := hc0
   (try simp only [V.cnd, ne_eq] at hc0')
   have hend : i = min l.length 70 := by simp_all; omega
   subst hT
   have g : GoodT (treeL l) 70 := good_treeL l
   have hTl : treeN l i = treeL l := by rw [hend]; rfl
   rw [hTl]
   have hcv := check_g (G := G) g
   unfold cT at hcv
   refine CD.exit ?_
   refine CD.seq ?_
   refine CD.draw (bks (List.eraseIdx _ 1)) (by kernel_rfl) (fun _ h => (List.Sublist.map _ (List.eraseIdx_sublist _ 1)).subset h) ?_
   refine a0_ 0 rfl (lab_ 0 [_, _]) ?_
   refine a0_ 1 rfl (lab_ 0 [_, _]) ?_
   refine AD0.later rfl ?_
   refine AD.one (i := 2) (by kernel_rfl) ?_
   refine AStep.callP rfl (wants_plain rfl) rfl rfl rfl Try.call19 (hcv) ⟨ot, trivial⟩ ?_
   refine a1_ 3 rfl bn_ ?_
   refine a1_ 4 rfl mv_ ?_
   refine AD.split (t := 60) lk (fun hg60 => ?_) (fun hg60 => ?_)
   ·have hg60' := hg60; (try simp only [V.cnd, ne_eq] at hg60')
    refine a1_ 5 rfl (fa_ 0) ?_
    refine AD.two (i := 6) (j := 10) (by kernel_rfl) ?_ ?_
    ·skip
     refine at_ rfl (lb_ 0) ?_
     refine a1_ 7 rfl ln_ ?_
     refine a1_ 8 rfl bn_ ?_
     refine a1_ 9 rfl pkT_ ?_
     refine AD.one (i := 10) (by kernel_rfl) ?_
     refine AStep.store (k := 1) (cs' := [_, _]) rfl (wants_plain rfl) rfl rfl ot rfl rfl ot rfl rfl Try.sizeOf26 rfl rfl rfl (by intro b hb; simp [bks, St.put] at hb ⊢; try first | exact hb | simp [hb] | (rcases hb with hb | hb <;> simp [hb]) | (rcases hb with hb | hb | hb <;> simp [hb])) ?_
     refine a1_ 11 rfl mv_ ?_
     refine AD.wk (y := ⟨66, [(2, _), (3, _)], [⟨b4, 26, 2, [_, _]⟩, ⟨b2, 26, 2, [_, _]⟩]⟩) (Wk.as_ rfl rfl ⟨lk, lk, trivial⟩) rfl ?_
     refine AD.done (by kernel_rfl) ?_
     refine CD.ret ?_
     refine ⟨.inr rfl, _, [], List.nil_sublist _, ret_two Try.results17 (res_cells (k := 1) (ds := [_, _]) (Nat.le_of_ble_eq_true rfl) lk rfl rfl Try.isAgg26 Try.sizeOf26 rfl rfl) (res_tmp (Nat.le_of_ble_eq_true rfl) lk), ?_⟩
     have hpos := g.val.pos
     exact ⟨by rw [show decide (((treeL l).pages.length : Int) > 0) = true from decide_eq_true (by omega)]; rfl, rfl⟩
    ·skip
     refine AStep.store (k := 1) (cs' := [_, _]) rfl (wants_plain rfl) rfl rfl ot rfl rfl ot rfl rfl Try.sizeOf26 rfl rfl rfl (by intro b hb; simp [bks, St.put] at hb ⊢; try first | exact hb | simp [hb] | (rcases hb with hb | hb <;> simp [hb]) | (rcases hb with hb | hb | hb <;> simp [hb])) ?_
     refine AD.one (i := 6) (by kernel_rfl) ?_
     refine at_ rfl (lb_ 0) ?_
     refine a1_ 7 rfl ln_ ?_
     refine a1_ 8 rfl bn_ ?_
     refine a1_ 9 rfl pkT_ ?_
     refine a1_ 11 rfl mv_ ?_
     refine AD.wk (y := ⟨66, [(2, _), (3, _)], [⟨b4, 26, 2, [_, _]⟩, ⟨b2, 26, 2, [_, _]⟩]⟩) (Wk.as_ rfl rfl ⟨lk, lk, trivial⟩) rfl ?_
     refine AD.done (by kernel_rfl) ?_
     refine CD.ret ?_
     refine ⟨.inr rfl, _, [], List.nil_sublist _, ret_two Try.results17 (res_cells (k := 1) (ds := [_, _]) (Nat.le_of_ble_eq_true rfl) lk rfl rfl Try.isAgg26 Try.sizeOf26 rfl rfl) (res_tmp (Nat.le_of_ble_eq_true rfl) lk), ?_⟩
     have hpos := g.val.pos
     exact ⟨by rw [show decide (((treeL l).pages.length : Int) > 0) = true from decide_eq_true (by omega)]; rfl, rfl⟩
   ·exact absurd hg60 (by simp at hg60)
 ·have hg15' := hg15; (try simp only [V.cnd, ne_eq] at hg15')
  refine sk_ ?_
  refine sk_ ?_
  refine os_ pkF_ ?_
  refine nm_ [0, 2, 4, 5, 18] ?_
  refine CD.condF ot (by first | rfl | assumption) ?_
  have hend : i = min l.length 70 := by simp_all; omega
  subst hT
  have g : GoodT (treeL l) 70 := good_treeL l
  have hTl : treeN l i = treeL l := by rw [hend]; rfl
  rw [hTl]
  have hcv := check_g (G := G) g
  unfold cT at hcv
  refine CD.exit ?_
  refine CD.seq ?_
  refine CD.draw (bks (List.eraseIdx _ 1)) (by kernel_rfl) (fun _ h => (List.Sublist.map _ (List.eraseIdx_sublist _ 1)).subset h) ?_
  refine a0_ 0 rfl (lab_ 0 [_, _]) ?_
  refine a0_ 1 rfl (lab_ 0 [_, _]) ?_
  refine AD0.later rfl ?_
  refine AD.one (i := 2) (by kernel_rfl) ?_
  refine AStep.callP rfl (wants_plain rfl) rfl rfl rfl Try.call19 (hcv) ⟨ot, trivial⟩ ?_
  refine a1_ 3 rfl bn_ ?_
  refine a1_ 4 rfl mv_ ?_
  refine AD.split (t := 60) lk (fun hg60 => ?_) (fun hg60 => ?_)
  ·have hg60' := hg60; (try simp only [V.cnd, ne_eq] at hg60')
   refine a1_ 5 rfl (fa_ 0) ?_
   refine AD.two (i := 6) (j := 10) (by kernel_rfl) ?_ ?_
   ·skip
    refine at_ rfl (lb_ 0) ?_
    refine a1_ 7 rfl ln_ ?_
    refine a1_ 8 rfl bn_ ?_
    refine a1_ 9 rfl pkT_ ?_
    refine AD.one (i := 10) (by kernel_rfl) ?_
    refine AStep.store (k := 1) (cs' := [_, _]) rfl (wants_plain rfl) rfl rfl ot rfl rfl ot rfl rfl Try.sizeOf26 rfl rfl rfl (by intro b hb; simp [bks, St.put] at hb ⊢; try first | exact hb | simp [hb] | (rcases hb with hb | hb <;> simp [hb]) | (rcases hb with hb | hb | hb <;> simp [hb])) ?_
    refine a1_ 11 rfl mv_ ?_
    refine AD.wk (y := ⟨66, [(2, _), (3, _)], [⟨b4, 26, 2, [_, _]⟩, ⟨b2, 26, 2, [_, _]⟩]⟩) (Wk.as_ rfl rfl ⟨lk, lk, trivial⟩) rfl ?_
    refine AD.done (by kernel_rfl) ?_
    refine CD.ret ?_
    refine ⟨.inr rfl, _, [], List.nil_sublist _, ret_two Try.results17 (res_cells (k := 1) (ds := [_, _]) (Nat.le_of_ble_eq_true rfl) lk rfl rfl Try.isAgg26 Try.sizeOf26 rfl rfl) (res_tmp (Nat.le_of_ble_eq_true rfl) lk), ?_⟩
    have hpos := g.val.pos
    exact ⟨by rw [show decide (((treeL l).pages.length : Int) > 0) = true from decide_eq_true (by omega)]; rfl, rfl⟩
   ·skip
    refine AStep.store (k := 1) (cs' := [_, _]) rfl (wants_plain rfl) rfl rfl ot rfl rfl ot rfl rfl Try.sizeOf26 rfl rfl rfl (by intro b hb; simp [bks, St.put] at hb ⊢; try first | exact hb | simp [hb] | (rcases hb with hb | hb <;> simp [hb]) | (rcases hb with hb | hb | hb <;> simp [hb])) ?_
    refine AD.one (i := 6) (by kernel_rfl) ?_
    refine at_ rfl (lb_ 0) ?_
    refine a1_ 7 rfl ln_ ?_
    refine a1_ 8 rfl bn_ ?_
    refine a1_ 9 rfl pkT_ ?_
    refine a1_ 11 rfl mv_ ?_
    refine AD.wk (y := ⟨66, [(2, _), (3, _)], [⟨b4, 26, 2, [_, _]⟩, ⟨b2, 26, 2, [_, _]⟩]⟩) (Wk.as_ rfl rfl ⟨lk, lk, trivial⟩) rfl ?_
    refine AD.done (by kernel_rfl) ?_
    refine CD.ret ?_
    refine ⟨.inr rfl, _, [], List.nil_sublist _, ret_two Try.results17 (res_cells (k := 1) (ds := [_, _]) (Nat.le_of_ble_eq_true rfl) lk rfl rfl Try.isAgg26 Try.sizeOf26 rfl rfl) (res_tmp (Nat.le_of_ble_eq_true rfl) lk), ?_⟩
    have hpos := g.val.pos
    exact ⟨by rw [show decide (((treeL l).pages.length : Int) > 0) = true from decide_eq_true (by omega)]; rfl, rfl⟩
  ·exact absurd hg60 (by simp at hg60)

end Go.Proofs.Ythnobhekodiciaa.Tw

namespace Go.Proofs.Ythnobhekodiciaa.Tw
open Go.RowKit V Go.Proofs.Ythnobhekodiciaa.Tr Pk
set_option linter.unusedVariables false
set_option linter.unusedSimpArgs false

open Go.Lib (compareBytes)
theorem rd_ints {H : Type} {enc : TypeId × Value → H} {w : World} {base b' : Nat} {sp : Nat → Bool} {held : Bool} {v : Value} {d : DataW H} {p : List MemPlace} (hval : Value.okWide Try.prog w .any b' 22 v) (h : DataW.Trod enc Try.prog w base sp held 22 v d p) :
  ∃ l : List Int, Rep w (fun _ => False) (.list 1 (l.flatMap cI) l.length) v ∧ (l.length ≤ maxLen ∧ WfI l) ∧ True := by
 obtain ⟨l, h1, h2, h3⟩ := rd_slice Try.underlying22 (by kernel_rfl) (by decide) (rd_int Try.underlying3) cI_len hval h
 exact ⟨l, h1, ⟨h3, h2⟩, trivial⟩
theorem str_of (a : K) : (⟨a.toArray⟩ : ByteArray).toList = a := by rw [str_list]
theorem str_eq (a b : K) : ((⟨a.toArray⟩ : ByteArray).toList == (⟨b.toArray⟩ : ByteArray).toList) = decide (a = b) := by
 rw [str_of, str_of]; by_cases h : a = b <;> simp [h]
theorem lt_nat {a b : UInt8} : a < b ↔ a.toNat < b.toNat := UInt8.lt_iff_toNat_lt
theorem less_cb0 : ∀ (x y : K), Op.bytesLess x y = decide (compareBytes x y < 0)
 | [], [] => rfl
 | [], _ :: _ => rfl
 | _ :: _, [] => rfl
 | a :: x, b :: y => by
  have ih := less_cb0 x y
  rw [cbb, Op.bytesLess]
  rcases Nat.lt_trichotomy a.toNat b.toNat with h | h | h
  ·rw [if_pos (lt_nat.2 h)]; simp [lt_nat, h]
  ·have e : a = b := UInt8.toNat_inj.1 h
   subst e
   rw [if_neg (by rw [lt_nat]; omega), if_neg (by rw [lt_nat]; omega), ← ih]; simp [lt_nat]
  ·rw [if_neg (by rw [lt_nat]; omega), if_pos (lt_nat.2 h)]
   have hne : ¬ a = b := fun e => by subst e; omega
   have hnl : ¬ a < b := by rw [lt_nat]; omega
   simp [hne, hnl]
theorem less_cb (x y : K) : Op.bytesLess x y = decide (klt x y) := by
 rw [less_cb0]; unfold klt
 by_cases h : compareBytes x y < 0 <;> simp [h]
theorem str_lt (a b : K) : Op.bytesLess (⟨a.toArray⟩ : ByteArray).toList (⟨b.toArray⟩ : ByteArray).toList = decide (klt a b) := by rw [str_of, str_of, less_cb]
variable {G : List (Nat × List Value)}

end Go.Proofs.Ythnobhekodiciaa.Tw

namespace Go.Proofs.Ythnobhekodiciaa.Tw
open Go.RowKit V Go.Proofs.Ythnobhekodiciaa.Tr Pk
set_option linter.unusedVariables false
set_option linter.unusedSimpArgs false

theorem str_leF {a b : K} (h : klt b a) : (Op.bytesLess (⟨a.toArray⟩ : ByteArray).toList (⟨b.toArray⟩ : ByteArray).toList || (⟨a.toArray⟩ : ByteArray).toList == (⟨b.toArray⟩ : ByteArray).toList) = false := by
 rw [str_lt, str_eq]
 simp only [Bool.or_eq_false_iff, decide_eq_false_iff_not]
 exact ⟨klt_as h, fun e => by subst e; exact klt_irr _ h⟩
/-- So far one has gone down. -/
structure DownT (t : TreeL) (i : Int) (n m : Nat) (rest : List Int) : Prop where
  sum : n + m = hOf t
  ok : ∃ lo hi, OkT t m i lo hi
  eq : lvl t (hOf t) t.root = lvl t m i ++ rest
/-- What still comes, above a key. -/
structure Above (es : List (K × Int)) (last : K) : Prop where
  rise : es.Pairwise fun x y => klt x.1 y.1
  up : ∀ x ∈ es, klt last x.1
theorem Above.tail {x : K × Int} {es : List (K × Int)} {last : K} (h : Above (x :: es) last) : Above es x.1 := by
 obtain ⟨h1, h2⟩ := List.pairwise_cons.1 h.rise
 exact ⟨h2, h1⟩
variable {G : List (Nat × List Value)}

end Go.Proofs.Ythnobhekodiciaa.Tw

namespace Go.Proofs.Ythnobhekodiciaa.V
open Go.RowKit
set_option linter.unusedVariables false
set_option linter.unusedSimpArgs false

variable {P : Program} {C : Ctx} {G : List (Nat × List Value)} {Q : Exit → St → Prop} {x : St} {ops : Array Oper} {l : List Oper} {o : Oper}

abbrev Dic := List (List UInt8 × Int)
def entD (e : List UInt8 × Int) : List D := [.v (.string ⟨e.1.toArray⟩), .v (.int .i64 e.2), .junk]
def dictB (b : Nat) (es : Dic) : Blk := ⟨b, mapTag2, 1 + 3 * es.length, .junk :: es.flatMap entD⟩
/-- A dictionary's entries, as they lie there. -/
inductive Ents : List MapEntry → Dic → Prop
  | nil : Ents [] []
  | cons {k : List UInt8} {v : Int} {bn : Nat} {E : List MapEntry} {es : Dic} (h : Ents E es) : Ents (⟨.string ⟨k.toArray⟩, .int .i64 v, bn⟩ :: E) ((k, v) :: es)

theorem dec_ents {w : World} {L : Nat → Prop} : ∀ {es : Dic} {vs : List Value}, RepL w L (es.flatMap entD) vs → Ents (decE vs) es
 | [], [], _ => .nil
 | [], v :: vs, h => by have := h.1; simp at this
 | (k, v) :: es, vs, h => by
  rw [List.flatMap_cons] at h
  match vs, h with
  | a :: b :: c :: r, h =>
   obtain ⟨h1, h⟩ := h.tail
   obtain ⟨h2, h⟩ := h.tail
   obtain ⟨_, h⟩ := h.tail
   rw [h1.v_eq, h2.v_eq]
   exact .cons (dec_ents h)
  | [], h => have := h.1; simp [entD] at this
  | [_], h => have := h.1; simp [entD] at this
  | [_, _], h => have := h.1; simp [entD] at this
def encV (E : List MapEntry) : List Value := E.flatMap fun e => [e.key, e.val, .int .i64 e.born]
theorem enc_dec : ∀ (E : List MapEntry), decE (encV E) = E
 | [] => rfl
 | e :: E => by
  show ⟨e.key, e.val, bornOf (.int .i64 e.born)⟩ :: decE (encV E) = _
  rw [enc_dec E]; rfl
theorem enc_rep {w : World} {L : Nat → Prop} {E : List MapEntry} {es : Dic} (h : Ents E es) : RepL w L (es.flatMap entD) (encV E) := by
 induction h with
 | nil => exact RepL.nil _ _
 | cons h ih => exact RepL.cons (.v _) (RepL.cons (.v _) (RepL.cons (.junk _) ih))
theorem Ents.len {E : List MapEntry} {es : Dic} (h : Ents E es) : E.length = es.length := by
 induction h with
 | nil => rfl
 | cons h ih => simp [ih]
theorem Ents.at_ {E : List MapEntry} {es : Dic} (h : Ents E es) : ∀ {j : Nat} {e : MapEntry}, E[j]? = some e → ∃ k v, es[j]? = some (k, v) ∧ e.key = .string ⟨k.toArray⟩ ∧ e.val = .int .i64 v := by
 induction h with
 | nil => intro j e h; simp at h
 | cons h ih =>
  intro j e he
  cases j with
  | zero => simp at he; subst he; exact ⟨_, _, rfl, rfl, rfl⟩
  | succ j => simpa using ih (by simpa using he)
theorem Ents.key {E : List MapEntry} {es : Dic} (h : Ents E es) : ∀ {k : List UInt8} {v : Int}, (k, v) ∈ es → ∃ e ∈ E, e.key = .string ⟨k.toArray⟩ := by
 induction h with
 | nil => intro k v h; cases h
 | cons h ih =>
  intro k v hm
  rcases List.mem_cons.1 hm with e | hm
  ·cases e; exact ⟨_, List.mem_cons_self, rfl⟩
  ·obtain ⟨e, h1, h2⟩ := ih hm; exact ⟨e, List.mem_cons_of_mem _ h1, h2⟩
theorem Ents.snoc {E : List MapEntry} {es : Dic} (h : Ents E es) (k : List UInt8) (v : Int) (bn : Nat) : Ents (E ++ [⟨.string ⟨k.toArray⟩, .int .i64 v, bn⟩]) (es ++ [(k, v)]) := by
 induction h with
 | nil => exact .cons .nil
 | cons h ih => exact .cons ih
theorem Ents.erase {E : List MapEntry} {es : Dic} (h : Ents E es) : ∀ (j : Nat), Ents (E.eraseIdx j) (es.eraseIdx j) := by
 induction h with
 | nil => intro j; exact .nil
 | cons h ih =>
  intro j
  cases j with
  | zero => exact h
  | succ j => exact .cons (ih j)
theorem key_inj {a b : List UInt8} (h : Value.string ⟨a.toArray⟩ = Value.string ⟨b.toArray⟩) : a = b := by
 injection h with h
 injection h with h
 simpa using h

theorem ent_len (es : Dic) : (es.flatMap entD).length = 3 * es.length := by
 induction es with
 | nil => rfl
 | cons e es ih => rw [List.flatMap_cons, List.length_append, ih]; show 3 + _ = _; rw [List.length_cons]; omega

/-- What lies in a dictionary's block. -/
theorem dict_at {w : World} {L : Nat → Prop} {b : Nat} {es : Dic} (h : BlkAt w L (dictB b es)) : ∃ E c, w.heap[b]? = some (.map E.toArray c) ∧ Ents E es := by
  obtain ⟨h0, cur, h1, h2, h3, h4⟩ := h
  have h2 : cur.size = 1 + 3 * es.length := h2
  have hl := ent_len es
  have h1 : w.heap[b]? = some (mapOb2 cur) := h1
  obtain ⟨c, r, hr⟩ : ∃ c r, cur.toList = c :: r := by
    cases hc : cur.toList with
    | nil => have := congrArg List.length hc; rw [Array.length_toList, h2] at this; simp at this
    | cons c r => exact ⟨c, r, rfl⟩
  have hrl : r.length = 3 * es.length := by have := congrArg List.length hr; rw [Array.length_toList, h2, List.length_cons] at this; omega
  refine ⟨decE r, bornOf c, ?_, dec_ents (w := w) (L := L) ⟨by rw [hrl, hl], fun i q1 q2 => ?_⟩⟩
  · rw [h1]; unfold mapOb2; rw [hr]
  · obtain ⟨u, hu, hq⟩ := h4 (i + 1) (by show i + 1 < (D.junk :: es.flatMap entD).length; rw [List.length_cons]; omega)
    have : cur.toList[i + 1]? = some u := by rw [Array.getElem?_toList]; exact hu
    rw [hr, List.getElem?_cons_succ, List.getElem?_eq_getElem q2] at this
    injection this with this
    rw [this]; exact hq
theorem Sim.setDict {a : Act} {w : World} (h : Sim C x a w) {i b : Nat} {es es' : Dic} {E' : List MapEntry} (c : Nat) (hk : x.S[i]? = some (dictB b es)) (hE : Ents E' es') :
  Sim C ⟨x.n, x.env, x.S.set i (dictB b es')⟩ a { w with heap := w.heap.setIfInBounds b (.map E'.toArray c) } ∧ Chg [b] w { w with heap := w.heap.setIfInBounds b (.map E'.toArray c) } ∧ Fr w (bks x.S) { w with heap := w.heap.setIfInBounds b (.map E'.toArray c) } (bks (x.S.set i (dictB b es'))) := by
 have hr := enc_rep (w := w) (L := live C.X x.S) hE
 have hob : ob (dictB b es').e ((Value.int .i64 c :: encV E').toArray) = .map E'.toArray c := by
  rw [show (dictB b es').e = mapTag2 from rfl, ob_map2]
  unfold mapOb2
  simp only []
  rw [enc_dec]; rfl
 have hl : (encV E').length = 3 * es'.length := by rw [hr.1, ent_len]
 have := h.setOb (B' := dictB b es') (cur' := (Value.int .i64 c :: encV E').toArray) hk rfl (by show (Value.int .i64 c :: encV E').toArray.size = 1 + 3 * es'.length; simp [hl]; omega) (by show (D.junk :: es'.flatMap entD).length ≤ _; rw [List.length_cons, ent_len]; show _ ≤ 1 + 3 * es'.length; omega) (fun j hj => by
  have hj : j < (D.junk :: es'.flatMap entD).length := hj
  rw [List.length_cons, ent_len] at hj
  cases j with
  | zero => exact ⟨.int .i64 c, rfl, .junk _⟩
  | succ j =>
   refine ⟨(encV E')[j]'(by omega), ?_, hr.2 j (by rw [ent_len]; omega) (by omega)⟩
   rw [List.getElem?_toArray, List.getElem?_cons_succ, List.getElem?_eq_getElem (by omega)])
 rw [hob] at this
 exact this

theorem eff_makeDict {t : TypeId} {tt : Nat} (ho : o.op = .makeMap t none) (hd : o.dst = some tt) : Eff P G x o [] (fun y => ∃ b, y = ⟨x.n, (tt, .v (.map (some b))) :: x.env, dictB b [] :: x.S⟩) := fun C a w K Q hG h hK => by
 have : (execOp a.eval o).run P w = .ok (.value (.map (some w.heap.size))) (w.alloc (ob mapTag2 #[.int .i64 0])) := by
  unfold execOp
  simp [ho, Instr.makeMap, ob_map2, mapOb2, decE, bornOf]
 unfold Oper.wp
 rw [this, Oper.upon_value, hd]
 have h2 : (ob mapTag2 #[.int .i64 0]) = ob (dictB w.heap.size []).e #[.int .i64 0] := rfl
 exact hK _ _ _ ⟨w.heap.size, rfl⟩ (h.newOb (ds := [.junk]) (RepL.cons (.junk _) (RepL.nil _ _)) (by simp) (fun L => .v _)) (Chg.alloc _ _) (Fr.alloc _ _ _)

theorem ents_isKey {E : List MapEntry} {es : Dic} (h : Ents E es) : ∀ e ∈ E, MapKept.IsKey .string e.key := by
 induction h with
 | nil => intro e h; cases h
 | cons h ih => intro e he; rcases List.mem_cons.1 he with rfl | he; exact trivial; exact ih e he
theorem dict_find {E : List MapEntry} {es : Dic} (h : Ents E es) (k : List UInt8) : ((∀ v, (k, v) ∉ es) ∧ Instr.findNow .string (.string ⟨k.toArray⟩) E 0 = some none) ∨ (∃ j v, es[j]? = some (k, v) ∧ Instr.findNow .string (.string ⟨k.toArray⟩) E 0 = some (some (j, .int .i64 v))) := by
 rcases MapKept.findNow_spec (d := .string) (k := .string ⟨k.toArray⟩) trivial E 0 (ents_isKey h) with ⟨h1, h2⟩ | ⟨j, e, h1, h2, h3⟩
 ·refine .inl ⟨fun v hm => ?_, h1⟩
  obtain ⟨e, he, hk⟩ := h.key hm
  exact h2 e he hk
 ·obtain ⟨k', v, q1, q2, q3⟩ := h.at_ h2
  rw [q2] at h3
  have := key_inj h3
  subst this
  rw [q3] at h1
  exact .inr ⟨j, v, q1, by simpa using h1⟩

theorem still_dict {mt kt et : TypeId} {i b : Nat} {es : Dic} {k : List UInt8} {r : Int} {q : Bool} {y z : Operand} (ho : o.op = .lookup mt y z true) (hy : opd x y = .v (.map (some b))) (hz : opd x z = .v (.string ⟨k.toArray⟩)) (hk : x.S[i]? = some (dictB b es))
  (hT : (q = true ∧ (∃ v, (k, v) ∈ es) ∧ ∀ v, (k, v) ∈ es → v = r) ∨ (q = false ∧ r = 0 ∧ ∀ v, (k, v) ∉ es))
  (hm : P.underlying mt = some (.map kt et)) (hkt : P.underlying kt = some .string) (hze : ∀ w, (zeroValue et).run P w = .ok (.int .i64 0) w) : Still P G x o (.blk i) (.tup [.v (.int .i64 r), .v (.bool q)]) := fun C a w _ h => by
 obtain ⟨E, c, h1, hE⟩ := dict_at (h.blk hk)
 refine ⟨.tuple #[.int .i64 r, .bool q], .tup _ [.int .i64 r, .bool q] rfl (fun j q1 q2 => ?_), fun w' hw => ?_⟩
 ·rcases j with _ | _ | j
  ·exact .v _
  ·exact .v _
  ·simp at q1; omega
 ·have hh : w'.heap[b]? = _ := (hw _ hk).trans h1
  have hck := fun e => MapKept.run_checkKey (P := P) (w := w') (kt := kt) (d := .string) (k := .string ⟨k.toArray⟩) hkt trivial e 9999
  unfold execOp
  rcases dict_find hE k with ⟨n1, n2⟩ | ⟨j, v, n1, n2⟩
  ·have hf := MapKept.run_findKey (P := P) (w := w') hkt n2
   rcases hT with ⟨_, ⟨v, hv⟩, _⟩ | ⟨rfl, rfl, _⟩
   ·exact absurd hv (n1 v)
   ·simp only [ho, h.flat hy, h.flat hz, Instr.lookup, Sem.run_bind, run_underlying hm, MapKept.run_getObj_map hh, hck, hf, hze, Result.andThen_ok, Sem.run_pure, if_true]
  ·have hf := MapKept.run_findKey (P := P) (w := w') hkt n2
   have hmem : (k, v) ∈ es := List.mem_of_getElem? n1
   rcases hT with ⟨rfl, _, hu⟩ | ⟨_, _, hno⟩
   ·rw [hu v hmem] at hf
    simp only [ho, h.flat hy, h.flat hz, Instr.lookup, Sem.run_bind, run_underlying hm, MapKept.run_getObj_map hh, hck, hf, Result.andThen_ok, Sem.run_pure, if_true]
   ·exact absurd hmem (hno v)

theorem eff_addDict {mt kt et : TypeId} {i b : Nat} {es : Dic} {k : List UInt8} {v : Int} {y z u : Operand} (ho : o.op = .mapUpdate mt y z u) (hd : o.dst = none) (hy : opd x y = .v (.map (some b))) (hz : opd x z = .v (.string ⟨k.toArray⟩)) (hu : opd x u = .v (.int .i64 v)) (hk : x.S[i]? = some (dictB b es)) (hn : ∀ v, (k, v) ∉ es)
  (hm : P.underlying mt = some (.map kt et)) (hkt : P.underlying kt = some .string) : Eff P G x o [b] (fun s => s = ⟨x.n, x.env, x.S.set i (dictB b (es ++ [(k, v)]))⟩) := fun C a w K Q hG h hK => by
 obtain ⟨E, c, h1, hE⟩ := dict_at (h.blk hk)
 have hck := fun e => MapKept.run_checkKey (P := P) (w := w) (kt := kt) (d := .string) (k := .string ⟨k.toArray⟩) hkt trivial e 9999
 rcases dict_find hE k with ⟨n1, n2⟩ | ⟨j, v', n1, n2⟩
 ·have hf := MapKept.run_findKey (P := P) (w := w) hkt n2
  have hrun : (execOp a.eval o).run P w = .ok .skip { w with heap := w.heap.setIfInBounds b (.map (E ++ [(⟨.string ⟨k.toArray⟩, .int .i64 v, c⟩ : MapEntry)]).toArray (c + 1)) } := by
   unfold execOp
   simp only [ho, h.flat hy, h.flat hz, h.flat hu, Instr.mapUpdate, Sem.run_bind, run_underlying hm, MapKept.run_getObj_map h1, hck, hf, Result.andThen_ok, MapKept.run_setObj_map _ h1, Sem.run_pure]
   simp
  obtain ⟨s1, s2, s3⟩ := h.setDict (c + 1) hk (hE.snoc k v c)
  unfold Oper.wp
  rw [hrun, Oper.upon_skip, hd]
  exact hK _ _ _ rfl s1 s2 s3
 ·exact absurd (List.mem_of_getElem? n1) (hn v')

theorem still_dlen {mt kt et : TypeId} {i b : Nat} {es : Dic} {y : Operand} {ts : Array TypeId} (ho : o.op = .call { callee := .builtin .len, args := #[y], argTypes := ts }) (ht : ts = #[mt]) (hy : opd x y = .v (.map (some b))) (hk : x.S[i]? = some (dictB b es)) (hm : P.underlying mt = some (.map kt et)) : Still P G x o (.blk i) (.v (.int .i64 (es.length : Nat))) := fun C a w _ h => by
 obtain ⟨E, c, h1, hE⟩ := dict_at (h.blk hk)
 refine ⟨.int .i64 (es.length : Nat), .v _, fun w' hw => ?_⟩
 have hh : w'.heap[b]? = _ := (hw _ hk).trans h1
 subst ht
 unfold execOp
 simp [ho, resolve, invoke, builtin, Builtin.len_, h.flat hy, run_underlying hm, MapKept.run_getObj_map hh, goInt, Result.andThen, hE.len]

/-- A key leaves. -/
theorem eff_delDict {mt kt et : TypeId} {i b : Nat} {es : Dic} {k : List UInt8} {y z : Operand} {ts : Array TypeId} (ho : o.op = .call { callee := .builtin .delete, args := #[y, z], argTypes := ts }) (ht : ts = #[mt, kt]) (hd : o.dst = none) (hy : opd x y = .v (.map (some b))) (hz : opd x z = .v (.string ⟨k.toArray⟩)) (hk : x.S[i]? = some (dictB b es)) (hn : (es.map Prod.fst).Nodup)
    (hm : P.underlying mt = some (.map kt et)) (hkt : P.underlying kt = some .string) : Eff P G x o [b] (fun s => ∃ es', (es'.map Prod.fst).Nodup ∧ (∀ e, e ∈ es' ↔ e ∈ es ∧ e.1 ≠ k) ∧ s = ⟨x.n, x.env, x.S.set i (dictB b es')⟩) := fun C a w K Q hG h hK => by
  obtain ⟨E, c, h1, hE⟩ := dict_at (h.blk hk)
  subst ht
  have hck := fun e => MapKept.run_checkKey (P := P) (w := w) (kt := kt) (d := .string) (k := .string ⟨k.toArray⟩) hkt trivial e 9999
  rcases dict_find hE k with ⟨n1, n2⟩ | ⟨j, v, n1, n2⟩
  · have hf := MapKept.run_findKey (P := P) (w := w) hkt n2
    have hrun : (execOp a.eval o).run P w = .ok (.value (.tuple #[])) { w with heap := w.heap.setIfInBounds b (.map E.toArray c) } := by
      unfold execOp
      simp [ho, resolve, invoke, builtin, Builtin.delete_, h.flat hy, h.flat hz, run_underlying hm, MapKept.run_getObj_map h1, hck, hf, MapKept.run_setObj_map _ h1, Result.andThen]
    obtain ⟨s1, s2, s3⟩ := h.setDict (es' := es) c hk hE
    unfold Oper.wp
    rw [hrun, Oper.upon_value, hd]
    exact hK _ _ _ ⟨es, hn, fun e => ⟨fun he => ⟨he, fun q => n1 e.2 (by rw [← q]; exact he)⟩, fun he => he.1⟩, rfl⟩ s1 s2 s3
  · have hf := MapKept.run_findKey (P := P) (w := w) hkt n2
    have hj : j < es.length := (List.getElem?_eq_some_iff.1 n1).1
    have hjE : j < E.length := by rw [hE.len]; exact hj
    have hrun : (execOp a.eval o).run P w = .ok (.value (.tuple #[])) { w with heap := w.heap.setIfInBounds b (.map (E.eraseIdx j).toArray c) } := by
      have he : E.toArray.eraseIdxIfInBounds j = (E.eraseIdx j).toArray := by simp
      unfold execOp
      simp [ho, resolve, invoke, builtin, Builtin.delete_, h.flat hy, h.flat hz, run_underlying hm, MapKept.run_getObj_map h1, hck, hf, MapKept.run_setObj_map _ h1, Result.andThen]
    obtain ⟨s1, s2, s3⟩ := h.setDict (es' := es.eraseIdx j) c hk (hE.erase j)
    unfold Oper.wp
    rw [hrun, Oper.upon_value, hd]
    have hjv : es[j] = (k, v) := (List.getElem?_eq_some_iff.1 n1).2
    have hsplit : es = es.take j ++ (k, v) :: es.drop (j + 1) := by rw [← hjv, ← List.drop_eq_getElem_cons hj, List.take_append_drop]
    have her : es.eraseIdx j = es.take j ++ es.drop (j + 1) := List.eraseIdx_eq_take_drop_succ es j
    have hnd := hn
    rw [hsplit, List.map_append, List.map_cons] at hnd
    obtain ⟨d1, d2, d3⟩ := List.nodup_append.1 hnd
    obtain ⟨d4, d5⟩ := List.nodup_cons.1 d2
    refine hK _ _ _ ⟨es.eraseIdx j, ?_, fun e => ?_, rfl⟩ s1 s2 s3
    · rw [her, List.map_append]
      exact List.nodup_append.2 ⟨d1, d5, fun a ha b hb => d3 a ha b (List.mem_cons_of_mem _ hb)⟩
    · rw [her]
      constructor
      · intro he
        rcases List.mem_append.1 he with he | he
        · exact ⟨List.mem_of_mem_take he, fun q => d3 _ (List.mem_map.2 ⟨e, he, rfl⟩) _ List.mem_cons_self q⟩
        · exact ⟨List.mem_of_mem_drop he, fun q => d4 (List.mem_map.2 ⟨e, he, q⟩)⟩
      · rintro ⟨he, hne⟩
        rw [hsplit] at he
        rcases List.mem_append.1 he with he | he
        · exact List.mem_append_left _ he
        · rcases List.mem_cons.1 he with rfl | he
          · exact absurd rfl hne
          · exact List.mem_append_right _ he

theorem OD.makeDict {t : TypeId} {tt : Nat} (hw : Wants ops x o true) (ho : o.op = .makeMap t none) (hd : o.dst = some tt) (K : ∀ b, OD P C ops l ⟨x.n, (tt, .v (.map (some b))) :: x.env, dictB b [] :: x.S⟩ Q) : OD P C ops (o :: l) x Q :=
 OD.eff hw (eff_makeDict ho hd) fun y ⟨b, hy⟩ => hy ▸ K b
theorem OD.addDict {mt kt et : TypeId} {i b : Nat} {es : Dic} {k : List UInt8} {v : Int} {y z u : Operand} (hw : Wants ops x o true) (ho : o.op = .mapUpdate mt y z u) (hd : o.dst = none) (hy : opd x y = .v (.map (some b))) (hz : opd x z = .v (.string ⟨k.toArray⟩)) (hu : opd x u = .v (.int .i64 v)) (hk : x.S[i]? = some (dictB b es)) (hn : ∀ v, (k, v) ∉ es)
  (hm : P.underlying mt = some (.map kt et)) (hkt : P.underlying kt = some .string) (K : OD P C ops l ⟨x.n, x.env, x.S.set i (dictB b (es ++ [(k, v)]))⟩ Q) : OD P C ops (o :: l) x Q :=
 OD.eff hw (eff_addDict ho hd hy hz hu hk hn hm hkt) fun y hy => hy ▸ K
theorem OD.delDict {mt kt et : TypeId} {i b : Nat} {es : Dic} {k : List UInt8} {y z : Operand} {ts : Array TypeId} (hw : Wants ops x o true) (ho : o.op = .call { callee := .builtin .delete, args := #[y, z], argTypes := ts }) (ht : ts = #[mt, kt]) (hd : o.dst = none) (hy : opd x y = .v (.map (some b))) (hz : opd x z = .v (.string ⟨k.toArray⟩)) (hk : x.S[i]? = some (dictB b es)) (hn : (es.map Prod.fst).Nodup)
  (hm : P.underlying mt = some (.map kt et)) (hkt : P.underlying kt = some .string) (K : ∀ es' : Dic, (es'.map Prod.fst).Nodup → (∀ e, e ∈ es' ↔ e ∈ es ∧ e.1 ≠ k) → OD P C ops l ⟨x.n, x.env, x.S.set i (dictB b es')⟩ Q) : OD P C ops (o :: l) x Q :=
 OD.eff hw (eff_delDict ho ht hd hy hz hk hn hm hkt) fun y ⟨es', h1, h2, hy⟩ => hy ▸ K es' h1 h2

end Go.Proofs.Ythnobhekodiciaa.V

namespace Go.Proofs.Ythnobhekodiciaa.Tw
open Go.RowKit V Go.Proofs.Ythnobhekodiciaa.Tr Pk
set_option linter.unusedVariables false
set_option linter.unusedSimpArgs false

/-- The dictionary is the tree. -/
structure Modl (es : Dic) (t : TreeL) : Prop where
  once : (es.map Prod.fst).Nodup
  same : ∀ x, x ∈ es ↔ x ∈ entsOf t
theorem modl_new : Modl [] newT := ⟨List.nodup_nil, fun x => by rw [ents_new]⟩
theorem Modl.one {es : Dic} {t : TreeL} {n : Nat} {k : K} {r : Int} (m : Modl es t) (g : GoodT t n) (h : (k, r) ∈ entsOf t) : ∀ v, (k, v) ∈ es → v = r := fun v hv => one_row g.val ((m.same _).1 hv) h
theorem Modl.none {es : Dic} {t : TreeL} {n : Nat} {k : K} (m : Modl es t) (g : GoodT t n) (h : thereB t k (hOf t) = false) : ∀ v, (k, v) ∉ es := fun v hv => (there_no g).1 h _ ((m.same _).1 hv) rfl
theorem Modl.del {es es2 : Dic} {t : TreeL} {n i : Nat} {x : Int} (m : Modl es t) (g : GoodT t n) (hx : x < 0) (h1 : (es2.map Prod.fst).Nodup) (h2 : ∀ e, e ∈ es2 ↔ e ∈ es ∧ e.1 ≠ keyN x) : Modl es2 (stepT t i x) := ⟨h1, fun e => by
 rw [h2, m.same]
 unfold stepT
 rw [if_pos hx]
 split
 ·rename_i h; exact ((good_del g ((thereB_iff g.val _).1 h)).2 e).symm
 ·rename_i h
  exact ⟨fun q => q.1, fun q => ⟨q, (there_no g).1 (by simpa using h) e q⟩⟩⟩
theorem Modl.old {es : Dic} {t : TreeL} {n i : Nat} {x : Int} (m : Modl es t) (hx : ¬ x < 0) (h : thereB t (keyN x) (hOf t) = true) : Modl es (stepT t i x) := by
 unfold stepT; rw [if_neg hx, if_pos h]; exact m
theorem Modl.new {es : Dic} {t : TreeL} {n i : Nat} {x : Int} (m : Modl es t) (g : GoodT t n) (hn : n ≤ 300) (hx : ¬ x < 0) (h : thereB t (keyN x) (hOf t) = false) : Modl (es ++ [(keyN x, (i : Int))]) (stepT t i x) := by
 have hno := m.none g h
 refine ⟨?_, fun e => ?_⟩
 ·rw [List.map_append]
  refine List.nodup_append.2 ⟨m.once, by simp, fun a ha b hb e => ?_⟩
  simp only [List.map_cons, List.map_nil, List.mem_singleton] at hb
  subst hb; subst e
  obtain ⟨y, hy, hye⟩ := List.mem_map.1 ha
  exact hno y.2 (by rw [← hye]; exact hy)
 ·unfold stepT
  rw [if_neg hx, if_neg (by rw [h]; decide), (good_ins g hn ((there_no g).1 h) (keyN_ok x) (by omega)).2.2 e, List.mem_append, m.same, List.mem_singleton]
  exact or_comm
theorem Modl.len {es : Dic} {t : TreeL} {n : Nat} (m : Modl es t) (g : GoodT t n) : (entsOf t).length = es.length := by
 have h1 : (entsOf t).Nodup := (ents_rise g).imp fun h e => by subst e; exact klt_irr _ h
 have h2 : es.Nodup := by
  have := m.once
  exact (List.pairwise_map.1 this).imp fun h e => h (by rw [e])
 exact ((List.perm_ext_iff_of_nodup h1 h2).2 fun x => (m.same x).symm).length_eq
variable {G : List (Nat × List Value)}

set_option maxHeartbeats 4000000 in
set_option maxRecDepth 100000 in
theorem model_law (l : List Int) (hl : l.length ≤ maxLen) (hw : WfI l) : VP Try.prog G 7 [.list 1 (l.flatMap cI) l.length] (.v (.bool true)) := by
 refine VC.body Try.func7 rfl Try.ntmps7 (Nat.le_of_ble_eq_true rfl) fun X0 w0 S00 => ?_
 have hmx : maxLen = 9223372036854775807 := rfl
 have g0 := good_treeL l
 have htv := tree_vp (G := G) l hl hw
 unfold cT at htv
 have hsv := scan_n2 (G := G) g0
 rw [span_all] at hsv
 have hfv := fun k => find_g (G := G) g0 k
 unfold cT at hsv hfv
 have hel : (entsOf (treeL l)).length ≤ 16000 := (by have := allE_few g0.val; have := g0.val.most; show (allE _ _).length ≤ _; omega)
 have hak := fun x hx => all_key g0.val (x := x) hx
 change ∀ x, x ∈ entsOf (treeL l) → _ at hak
 have hri := ents_rise g0
 obtain ⟨al, hal⟩ : ∃ al, al = entsOf (treeL l) := ⟨_, rfl⟩
 rw [← hal] at hsv hel hak hri
 refine sr_ ?_
 refine os_ mv_ ?_
 refine nm_ [0] ?_
 refine sr_ ?_
 refine os_ mv_ ?_
 refine OD.callP (wants_plain rfl) rfl rfl rfl Try.call17 (htv) ⟨ot, trivial⟩ ?_
 refine os_ mv_ ?_
 refine os_ ex_ ?_
 refine os_ ex_ ?_
 refine OD.alloc (ds := [_, _]) (wants_plain rfl) rfl rfl Try.zeroValue26 rfl (fun b3 => ?_)
 refine OD.store (k := 0) (cs' := [_, _]) (wants_plain rfl) rfl rfl ot rfl rfl ot rfl rfl Try.sizeOf26 rfl rfl rfl ?_
 refine os_ mv_ ?_
 refine OD.wk (Wk.as_ (n := 140) (l' := [(0, _), (3, _), (4, _)]) (S' := [⟨b3, 26, 2, [_, _]⟩]) rfl rfl ⟨lk, lk, lk, trivial⟩) ?_
 refine OD.nil ?_
 refine sr_ ?_
 refine OD.makeDict (wants_plain rfl) rfl rfl (fun b22 => ?_)
 refine os_ mv_ ?_
 refine OD.wk (Wk.as_ (n := 140) (l' := [(0, _), (3, _), (4, _), (5, _)]) (S' := [_, ⟨b3, 26, 2, [_, _]⟩]) rfl rfl ⟨lk, lk, lk, lk, trivial⟩) ?_
 refine OD.nil ?_
 refine CD.seq ?_
 refine sr_ ?_
 refine os_ mv_ ?_
 refine nm_ [0, 3, 4, 5, 6] ?_
 refine CD.block ?_
 refine CD.wk (Wk.asS (n := 140) (l' := [(0, .list 1 (l.flatMap cI) l.length), (3, .v (.pointer (some ⟨b3, 0, none⟩))), (4, .v (.bool true)), (5, .v (.map (some b22))), (6, .v (.int .i64 ((0) : Nat)))]) (S' := [dictB b22 ([]), ⟨b3, 26, 2, [.list 5 (((treeL l)).pages.flatMap cP) ((treeL l)).pages.length, .v (.int .i64 ((treeL l)).root)]⟩]) rfl (by repeat (first | exact List.Sublist.refl _ | apply List.Sublist.cons)) ⟨lq_, lq_, lq_, lq_, lq_, trivial⟩) (CD.loop (fun (gh__ : Nat × Dic) y__ => match gh__ with | (i, es) => (i ≤ l.length) ∧ (i ≤ 70) ∧ (Modl es (treeN l i)) ∧ y__ = (⟨140, [(0, .list 1 (l.flatMap cI) l.length), (3, .v (.pointer (some ⟨b3, 0, none⟩))), (4, .v (.bool true)), (5, .v (.map (some b22))), (6, .v (.int .i64 (i : Nat)))], [dictB b22 es, ⟨b3, 26, 2, [.list 5 (((treeL l)).pages.flatMap cP) ((treeL l)).pages.length, .v (.int .i64 ((treeL l)).root)]⟩]⟩ : St)) (fun (gh__ : Nat × Dic) => match gh__ with | (i, es) => 70 - i) (0, []) ⟨(Nat.zero_le _), (by omega), modl_new, rfl⟩ ?_)
 rintro ⟨i, es⟩ _ ⟨hi1, hi2, hM, rfl⟩
 refine CD.seq ?_
 refine sr_ ?_
 refine os_ mv_ ?_
 refine os_ mv_ ?_
 refine os_ ln_ ?_
 refine os_ bn_ ?_
 refine os_ mv_ ?_
 refine OD.split (t := 27) lk (fun hg27 => ?_) (fun hg27 => ?_)
 ·have hg27' := hg27; (try simp only [V.cnd, ne_eq] at hg27')
  refine os_ mv_ ?_
  refine os_ bn_ ?_
  refine os_ pkT_ ?_
  refine nm_ [0, 3, 4, 5, 6, 30] ?_
  refine CD.cond ot (fun hc0 => ?_) (fun hc0 => ?_)
  ·have hc0' := hc0
   (try simp only [V.cnd, ne_eq] at hc0')
   have hil : i < l.length := by simp_all
   have hi70 : i < 70 := by simp_all; omega
   have g : GoodT (treeN l i) i := good_treeN l (by omega)
   obtain ⟨x1, x2⟩ := hw _ (List.getElem_mem hil)
   refine CD.skip ?_
   refine CD.seq ?_
   refine CD.block ?_
   refine sr_ ?_
   refine os_ mv_ ?_
   refine os_ mv_ ?_
   refine os_ (ix_ 1 (h := by first | exact .l (j := i) rfl hil | exact .r (j := i) rfl hil)) ?_
   refine os_ ld_ ?_
   refine OD.callP (wants_plain rfl) rfl rfl rfl Try.call15 (key_vpN _ x1 x2) ⟨ot, trivial⟩ ?_
   refine os_ sb_ ?_
   refine os_ mv_ ?_
   refine OD.wk (Wk.as_ (n := 140) (l' := [(0, _), (3, _), (4, _), (5, _), (6, _), (7, _)]) (S' := [_, ⟨b3, 26, 2, [_, _]⟩]) rfl rfl ⟨lk, lk, lk, lk, lk, lk, trivial⟩) ?_
   refine OD.nil ?_
   refine CD.seq ?_
   rcases hth : thereB (treeN l i) (keyN l[i]) (hOf (treeN l i)) with _ | _
   ·skip
    have hdt : (false = true ∧ (∃ v, (keyN l[i], v) ∈ es) ∧ ∀ v, (keyN l[i], v) ∈ es → v = 0) ∨ (false = false ∧ (0 : Int) = 0 ∧ ∀ v, (keyN l[i], v) ∉ es) := .inr ⟨rfl, rfl, hM.none g hth⟩
    refine CD.region ?_
    refine os_ mv_ ?_
    refine os_ mv_ ?_
    refine OD.still (wants_plain rfl) rfl (still_dict (i := 0) (k := keyN l[i]) rfl ot ot rfl hdt Try.underlying49 Try.underlying9 Try.zeroValue3) ?_
    refine os_ mv_ ?_
    refine os_ ex_ ?_
    refine os_ ex_ ?_
    refine os_ mv_ ?_
    refine os_ mv_ ?_
    refine OD.wk (Wk.as_ (n := 140) (l' := [(0, _), (3, _), (4, _), (5, _), (6, _), (7, _), (9, _)]) (S' := [_, ⟨b3, 26, 2, [_, _]⟩]) rfl rfl ⟨lk, lk, lk, lk, lk, lk, lk, trivial⟩) ?_
    refine OD.nil ?_
    refine sr_ ?_
    refine os_ mv_ ?_
    refine os_ mv_ ?_
    refine os_ (ix_ 1 (h := by first | exact .l (j := i) rfl hil | exact .r (j := i) rfl hil)) ?_
    refine os_ ld_ ?_
    refine os_ bn_ ?_
    refine nm_ [0, 3, 4, 5, 6, 7, 9, 49] ?_
    refine CD.cond ot (fun hc1 => ?_) (fun hc1 => ?_)
    ·have hc1' := hc1
     (try simp only [V.cnd, ne_eq] at hc1')
     have hneg : l[i] < 0 := by simpa using hc1
     refine CD.region ?_
     refine os_ mv_ ?_
     refine os_ mv_ ?_
     refine OD.delDict (i := 0) (wants_plain rfl) rfl rfl rfl ot ot rfl hM.once Try.underlying49 Try.underlying9 (fun es2 hes1 hes2 => ?_)
     refine OD.perm (S' := [dictB b22 es2, ⟨b3, 26, 2, [.list 5 (((treeL l)).pages.flatMap cP) ((treeL l)).pages.length, .v (.int .i64 ((treeL l)).root)]⟩]) (List.Perm.refl _) ?_
     refine OD.wk (Wk.as_ (n := 140) (l' := [(0, _), (3, _), (4, _), (5, _), (6, _)]) (S' := [_, ⟨b3, 26, 2, [_, _]⟩]) rfl rfl ⟨lk, lk, lk, lk, lk, trivial⟩) ?_
     refine OD.nil ?_
     refine CD.region ?_
     refine os_ mv_ ?_
     refine os_ bn_ ?_
     refine os_ mv_ ?_
     refine nm_ [0, 3, 4, 5, 6] ?_
     refine ⟨((i + 1), es2), ⟨140, [(0, .list 1 (l.flatMap cI) l.length), (3, .v (.pointer (some ⟨b3, 0, none⟩))), (4, .v (.bool true)), (5, .v (.map (some b22))), (6, .v (.int .i64 (((i + 1)) : Nat)))], [dictB b22 es2, ⟨b3, 26, 2, [.list 5 (((treeL l)).pages.flatMap cP) ((treeL l)).pages.length, .v (.int .i64 ((treeL l)).root)]⟩]⟩, ?_, Wk.asS (n := 140) rfl (by repeat (first | exact List.Sublist.refl _ | apply List.Sublist.cons)) ⟨lq_, lq_, lq_, lq_, lq_, trivial⟩, (by omega), (by omega), (by rw [treeN_succ hil]; exact hM.del g hneg hes1 hes2), rfl⟩
     first | omega | (simp only []; omega)
    ·have hc1' := hc1
     (try simp only [V.cnd, ne_eq] at hc1')
     have hneg : ¬ l[i] < 0 := by simpa using hc1
     refine sr_ ?_
     refine os_ mv_ ?_
     refine os_ un_ ?_
     refine nm_ [0, 3, 4, 5, 6, 7, 53] ?_
     refine CD.cond ot (fun hc2 => ?_) (fun hc2 => ?_)
     ·have hc2' := hc2
      (try simp only [V.cnd, ne_eq] at hc2')
      refine CD.region ?_
      refine os_ mv_ ?_
      refine os_ mv_ ?_
      refine os_ mv_ ?_
      refine OD.addDict (i := 0) (wants_plain rfl) rfl rfl ot ot ot rfl (hM.none g hth) Try.underlying49 Try.underlying9 ?_
      refine OD.perm (S' := [dictB b22 (es ++ [(keyN l[i], ((i : Nat) : Int))]), ⟨b3, 26, 2, [.list 5 (((treeL l)).pages.flatMap cP) ((treeL l)).pages.length, .v (.int .i64 ((treeL l)).root)]⟩]) (List.Perm.refl _) ?_
      refine OD.wk (Wk.as_ (n := 140) (l' := [(0, _), (3, _), (4, _), (5, _), (6, _)]) (S' := [_, ⟨b3, 26, 2, [_, _]⟩]) rfl rfl ⟨lk, lk, lk, lk, lk, trivial⟩) ?_
      refine OD.nil ?_
      refine CD.region ?_
      refine os_ mv_ ?_
      refine os_ bn_ ?_
      refine os_ mv_ ?_
      refine nm_ [0, 3, 4, 5, 6] ?_
      refine ⟨((i + 1), (es ++ [(keyN l[i], ((i : Nat) : Int))])), ⟨140, [(0, .list 1 (l.flatMap cI) l.length), (3, .v (.pointer (some ⟨b3, 0, none⟩))), (4, .v (.bool true)), (5, .v (.map (some b22))), (6, .v (.int .i64 (((i + 1)) : Nat)))], [dictB b22 ((es ++ [(keyN l[i], ((i : Nat) : Int))])), ⟨b3, 26, 2, [.list 5 (((treeL l)).pages.flatMap cP) ((treeL l)).pages.length, .v (.int .i64 ((treeL l)).root)]⟩]⟩, ?_, Wk.asS (n := 140) rfl (by repeat (first | exact List.Sublist.refl _ | apply List.Sublist.cons)) ⟨lq_, lq_, lq_, lq_, lq_, trivial⟩, (by omega), (by omega), (by rw [treeN_succ hil]; exact hM.new g (by omega) hneg hth), rfl⟩
      first | omega | (simp only []; omega)
     ·exact absurd hc2 (by simp at hc2)
   ·skip
    obtain ⟨row0, hr0⟩ := (there_has g (keyN l[i])).1 hth
    have hdt : (true = true ∧ (∃ v, (keyN l[i], v) ∈ es) ∧ ∀ v, (keyN l[i], v) ∈ es → v = row0) ∨ (true = false ∧ row0 = 0 ∧ ∀ v, (keyN l[i], v) ∉ es) := .inl ⟨rfl, ⟨row0, (hM.same _).2 hr0⟩, hM.one g hr0⟩
    refine CD.region ?_
    refine os_ mv_ ?_
    refine os_ mv_ ?_
    refine OD.still (wants_plain rfl) rfl (still_dict (i := 0) (k := keyN l[i]) rfl ot ot rfl hdt Try.underlying49 Try.underlying9 Try.zeroValue3) ?_
    refine os_ mv_ ?_
    refine os_ ex_ ?_
    refine os_ ex_ ?_
    refine os_ mv_ ?_
    refine os_ mv_ ?_
    refine OD.wk (Wk.as_ (n := 140) (l' := [(0, _), (3, _), (4, _), (5, _), (6, _), (7, _), (9, _)]) (S' := [_, ⟨b3, 26, 2, [_, _]⟩]) rfl rfl ⟨lk, lk, lk, lk, lk, lk, lk, trivial⟩) ?_
    refine OD.nil ?_
    refine sr_ ?_
    refine os_ mv_ ?_
    refine os_ mv_ ?_
    refine os_ (ix_ 1 (h := by first | exact .l (j := i) rfl hil | exact .r (j := i) rfl hil)) ?_
    refine os_ ld_ ?_
    refine os_ bn_ ?_
    refine nm_ [0, 3, 4, 5, 6, 7, 9, 49] ?_
    refine CD.cond ot (fun hc1 => ?_) (fun hc1 => ?_)
    ·have hc1' := hc1
     (try simp only [V.cnd, ne_eq] at hc1')
     have hneg : l[i] < 0 := by simpa using hc1
     refine CD.region ?_
     refine os_ mv_ ?_
     refine os_ mv_ ?_
     refine OD.delDict (i := 0) (wants_plain rfl) rfl rfl rfl ot ot rfl hM.once Try.underlying49 Try.underlying9 (fun es2 hes1 hes2 => ?_)
     refine OD.perm (S' := [dictB b22 es2, ⟨b3, 26, 2, [.list 5 (((treeL l)).pages.flatMap cP) ((treeL l)).pages.length, .v (.int .i64 ((treeL l)).root)]⟩]) (List.Perm.refl _) ?_
     refine OD.wk (Wk.as_ (n := 140) (l' := [(0, _), (3, _), (4, _), (5, _), (6, _)]) (S' := [_, ⟨b3, 26, 2, [_, _]⟩]) rfl rfl ⟨lk, lk, lk, lk, lk, trivial⟩) ?_
     refine OD.nil ?_
     refine CD.region ?_
     refine os_ mv_ ?_
     refine os_ bn_ ?_
     refine os_ mv_ ?_
     refine nm_ [0, 3, 4, 5, 6] ?_
     refine ⟨((i + 1), es2), ⟨140, [(0, .list 1 (l.flatMap cI) l.length), (3, .v (.pointer (some ⟨b3, 0, none⟩))), (4, .v (.bool true)), (5, .v (.map (some b22))), (6, .v (.int .i64 (((i + 1)) : Nat)))], [dictB b22 es2, ⟨b3, 26, 2, [.list 5 (((treeL l)).pages.flatMap cP) ((treeL l)).pages.length, .v (.int .i64 ((treeL l)).root)]⟩]⟩, ?_, Wk.asS (n := 140) rfl (by repeat (first | exact List.Sublist.refl _ | apply List.Sublist.cons)) ⟨lq_, lq_, lq_, lq_, lq_, trivial⟩, (by omega), (by omega), (by rw [treeN_succ hil]; exact hM.del g hneg hes1 hes2), rfl⟩
     first | omega | (simp only []; omega)
    ·have hc1' := hc1
     (try simp only [V.cnd, ne_eq] at hc1')
     have hneg : ¬ l[i] < 0 := by simpa using hc1
     refine sr_ ?_
     refine os_ mv_ ?_
     refine os_ un_ ?_
     refine nm_ [0, 3, 4, 5, 6, 7, 53] ?_
     refine CD.cond ot (fun hc2 => ?_) (fun hc2 => ?_)
     ·exact absurd hc2 (by simp at hc2)
     ·have hc2' := hc2
      (try simp only [V.cnd, ne_eq] at hc2')
      refine CD.skip ?_
      refine CD.region ?_
      refine os_ mv_ ?_
      refine os_ bn_ ?_
      refine os_ mv_ ?_
      refine nm_ [0, 3, 4, 5, 6] ?_
      refine ⟨((i + 1), es), ⟨140, [(0, .list 1 (l.flatMap cI) l.length), (3, .v (.pointer (some ⟨b3, 0, none⟩))), (4, .v (.bool true)), (5, .v (.map (some b22))), (6, .v (.int .i64 (((i + 1)) : Nat)))], [dictB b22 es, ⟨b3, 26, 2, [.list 5 (((treeL l)).pages.flatMap cP) ((treeL l)).pages.length, .v (.int .i64 ((treeL l)).root)]⟩]⟩, ?_, Wk.asS (n := 140) rfl (by repeat (first | exact List.Sublist.refl _ | apply List.Sublist.cons)) ⟨lq_, lq_, lq_, lq_, lq_, trivial⟩, (by omega), (by omega), (by rw [treeN_succ hil]; exact hM.old (n := i) hneg hth), rfl⟩
      first | omega | (simp only []; omega)
  ·have hc0' := hc0
   (try simp only [V.cnd, ne_eq] at hc0')
   have hend : i = min l.length 70 := by simp_all; omega
   have hTl : treeN l i = treeL l := by rw [hend]; rfl
   rw [hTl] at hM
   have hlen := hM.len g0
   rw [← hal] at hlen
   refine CD.exit ?_
   refine sr_ ?_
   refine os_ (lab_ 1 [_, _]) ?_
   refine OD.callP (wants_plain rfl) rfl rfl rfl Try.call16 (hsv) ⟨ot, opd_const, opd_const, trivial⟩ ?_
   refine os_ mv_ ?_
   refine os_ ex_ ?_
   refine os_ ex_ ?_
   refine os_ mv_ ?_
   refine os_ mv_ ?_
   refine OD.wk (Wk.as_ (n := 140) (l' := [(3, _), (4, _), (5, _), (10, _), (11, _)]) (S' := [_, ⟨b3, 26, 2, [_, _]⟩]) rfl rfl ⟨lk, lk, lk, lk, lk, trivial⟩) ?_
   refine OD.nil ?_
   refine CD.seq ?_
   refine sr_ ?_
   refine os_ mv_ ?_
   refine os_ un_ ?_
   refine os_ mv_ ?_
   refine OD.split (t := 64) lk (fun hg64 => ?_) (fun hg64 => ?_)
   ·exact absurd hg64 (by simp at hg64)
   ·have hg64' := hg64; (try simp only [V.cnd, ne_eq] at hg64')
    refine os_ mv_ ?_
    refine os_ bn_ ?_
    refine os_ pkF_ ?_
    refine os_ mv_ ?_
    refine OD.split (t := 68) lk (fun hg68 => ?_) (fun hg68 => ?_)
    ·exact absurd hg68 (by simp at hg68)
    ·have hg68' := hg68; (try simp only [V.cnd, ne_eq] at hg68')
     refine os_ mv_ ?_
     refine os_ ln_ ?_
     refine os_ mv_ ?_
     refine OD.still (wants_T rfl rfl rfl lk (by first | rfl | assumption)) rfl (still_dlen (i := 0) rfl rfl ot rfl Try.underlying49) ?_
     refine os_ bn_ ?_
     refine os_ pkF_ ?_
     refine OD.wk (Wk.as_ (n := 140) (l' := [(3, _), (5, _), (10, _), (74, _)]) (S' := [_, ⟨b3, 26, 2, [_, _]⟩]) rfl rfl ⟨lk, lk, lk, lk, trivial⟩) ?_
     refine OD.nil ?_
     refine CD.cond ot (fun hc3 => ?_) (fun hc3 => ?_)
     ·exact absurd hc3 (by simp [hlen] at hc3)
     ·have hc3' := hc3
      (try simp only [V.cnd, ne_eq] at hc3')
      refine CD.skip ?_
      refine CD.seq ?_
      refine sr_ ?_
      refine os_ mv_ ?_
      refine nm_ [3, 5, 10, 12] ?_
      refine CD.block ?_
      refine CD.wk (Wk.asS (n := 140) (l' := [(3, .v (.pointer (some ⟨b3, 0, none⟩))), (5, .v (.map (some b22))), (10, .list 2 (al.flatMap cE) al.length), (12, .v (.int .i64 ((0) : Nat)))]) (S' := [dictB b22 es, ⟨b3, 26, 2, [.list 5 (((treeL l)).pages.flatMap cP) ((treeL l)).pages.length, .v (.int .i64 ((treeL l)).root)]⟩]) rfl (by repeat (first | exact List.Sublist.refl _ | apply List.Sublist.cons)) ⟨lq_, lq_, lq_, lq_, trivial⟩) (CD.loop (fun (j : Nat) y__ => (j ≤ al.length) ∧ y__ = (⟨140, [(3, .v (.pointer (some ⟨b3, 0, none⟩))), (5, .v (.map (some b22))), (10, .list 2 (al.flatMap cE) al.length), (12, .v (.int .i64 (j : Nat)))], [dictB b22 es, ⟨b3, 26, 2, [.list 5 (((treeL l)).pages.flatMap cP) ((treeL l)).pages.length, .v (.int .i64 ((treeL l)).root)]⟩]⟩ : St)) (fun (j : Nat) => al.length - j) 0 ⟨(Nat.zero_le _), rfl⟩ ?_)
      rintro j _ ⟨hj, rfl⟩
      refine CD.seq ?_
      refine sr_ ?_
      refine os_ mv_ ?_
      refine os_ mv_ ?_
      refine os_ ln_ ?_
      refine os_ bn_ ?_
      refine nm_ [3, 5, 10, 12, 78] ?_
      refine CD.cond ot (fun hc4 => ?_) (fun hc4 => ?_)
      ·have hc4' := hc4
       (try simp only [V.cnd, ne_eq] at hc4')
       have hlt : j < al.length := by simp at hc4; omega
       have hmem : (al[j].1, al[j].2) ∈ entsOf (treeL l) := by rw [← hal]; exact List.getElem_mem hlt
       have hdt : (true = true ∧ (∃ v, (al[j].1, v) ∈ es) ∧ ∀ v, (al[j].1, v) ∈ es → v = al[j].2) ∨ (true = false ∧ al[j].2 = 0 ∧ ∀ v, (al[j].1, v) ∉ es) := .inl ⟨rfl, ⟨_, (hM.same _).2 hmem⟩, hM.one g0 hmem⟩
       have hfj := hfv al[j].1
       rw [find_yes g0 (hak _ (List.getElem_mem hlt)).1 hmem] at hfj
       dsimp only at hfj
       have hup : ∀ (h : 0 < j), klt (al[j - 1]'(by omega)).1 al[j].1 := fun h => List.pairwise_iff_getElem.1 hri _ _ _ _ (by omega)
       refine CD.skip ?_
       refine CD.seq ?_
       refine CD.block ?_
       refine sr_ ?_
       refine os_ mv_ ?_
       refine os_ mv_ ?_
       refine os_ mv_ ?_
       refine os_ (ix_ 2 (h := by first | exact .l (j := j) rfl hlt | exact .r (j := j) rfl hlt)) ?_
       refine os_ (fa_ 0) ?_
       refine os_ ld_ ?_
       refine os_ sb_ ?_
       refine OD.still (wants_plain rfl) rfl (still_dict (i := 0) (k := al[j].1) rfl ot ot rfl hdt Try.underlying49 Try.underlying9 Try.zeroValue3) ?_
       refine os_ mv_ ?_
       refine os_ ex_ ?_
       refine os_ ex_ ?_
       refine os_ mv_ ?_
       refine os_ mv_ ?_
       refine OD.wk (Wk.as_ (n := 140) (l' := [(3, _), (5, _), (10, _), (12, _), (13, _), (14, _)]) (S' := [_, ⟨b3, 26, 2, [_, _]⟩]) rfl rfl ⟨lk, lk, lk, lk, lk, lk, trivial⟩) ?_
       refine OD.nil ?_
       refine CD.seq ?_
       refine CD.seq ?_
       refine CD.draw (bks _) (by kernel_rfl) (fun _ h => h) ?_
       refine a0_ 0 rfl mv_ ?_
       refine a0_ 1 rfl un_ ?_
       refine a0_ 2 rfl mv_ ?_
       refine AD0.split (t := 94) lk (fun hg94 => ?_) (fun hg94 => ?_)
       ·exact absurd hg94 (by simp at hg94)
       ·have hg94' := hg94; (try simp only [V.cnd, ne_eq] at hg94')
        refine a0_ 3 rfl mv_ ?_
        refine a0_ 4 rfl mv_ ?_
        refine a0_ 5 rfl mv_ ?_
        refine a0_ 6 rfl (ix_ 2 (h := by first | exact .l (j := j) rfl hlt | exact .r (j := j) rfl hlt)) ?_
        refine a0_ 7 rfl (fa_ 1) ?_
        refine a0_ 8 rfl ld_ ?_
        refine a0_ 9 rfl bn_ ?_
        refine a0_ 10 rfl pkF_ ?_
        refine a0_ 11 rfl mv_ ?_
        refine AD0.split (t := 103) lk (fun hg103 => ?_) (fun hg103 => ?_)
        ·exact absurd hg103 (by simp at hg103)
        ·have hg103' := hg103; (try simp only [V.cnd, ne_eq] at hg103')
         refine a0_ 12 rfl mv_ ?_
         refine a0_ 13 rfl bn_ ?_
         refine a0_ 14 rfl mv_ ?_
         refine AD0.split (t := 106) lk (fun hg106 => ?_) (fun hg106 => ?_)
         ·have hg106' := hg106; (try simp only [V.cnd, ne_eq] at hg106')
          refine a0_ 15 rfl mv_ ?_
          refine a0_ 16 rfl mv_ ?_
          refine a0_ 17 rfl (ix_ 2 (h := by first | exact .l (j := j) rfl hlt | exact .r (j := j) rfl hlt)) ?_
          refine a0_ 18 rfl (fa_ 0) ?_
          refine a0_ 19 rfl ld_ ?_
          refine a0_ 20 rfl sb_ ?_
          refine a0_ 21 rfl mv_ ?_
          refine a0_ 22 rfl mv_ ?_
          refine a0_ 23 rfl bn_ ?_
          refine a0_ 24 rfl (ix_ 2 (h := by first | exact .l (j := j - 1) (by omega) (by omega) | exact .r (j := j - 1) (by omega) (by omega))) ?_
          refine a0_ 25 rfl (fa_ 0) ?_
          refine a0_ 26 rfl ld_ ?_
          refine a0_ 27 rfl sb_ ?_
          refine a0_ 28 rfl bn_ ?_
          refine a0_ 29 rfl pkT_ ?_
          refine a0_ 30 rfl pkF_ ?_
          refine AD0.later rfl ?_
          refine AD.wk (y := ⟨140, [(3, _), (5, _), (10, _), (12, _), (13, _), (122, _)], [_, ⟨b3, 26, 2, [_, _]⟩]⟩) (Wk.as_ rfl rfl ⟨lk, lk, lk, lk, lk, lk, trivial⟩) rfl ?_
          refine AD.done (by kernel_rfl) ?_
          refine CD.cond ot (fun hc5 => ?_) (fun hc5 => ?_)
          ·exact absurd hc5 (by first | (simp at hc5; done) | (rw [str_leF (hup (by simp at hg106; omega))] at hc5; cases hc5))
          ·have hc5' := hc5
           (try simp only [V.cnd, ne_eq] at hc5')
           refine CD.skip ?_
           refine CD.seq ?_
           refine CD.draw (bks _) (by kernel_rfl) (fun _ h => h) ?_
           refine a0_ 0 rfl (lab_ 1 [_, _]) ?_
           refine a0_ 1 rfl mv_ ?_
           refine a0_ 2 rfl mv_ ?_
           refine a0_ 3 rfl (ix_ 2 (h := by first | exact .l (j := j) rfl hlt | exact .r (j := j) rfl hlt)) ?_
           refine a0_ 4 rfl (fa_ 0) ?_
           refine a0_ 5 rfl ld_ ?_
           refine AD0.later rfl ?_
           refine AD.one (i := 6) (by kernel_rfl) ?_
           refine AStep.callP rfl (wants_plain rfl) rfl rfl rfl Try.call18 (hfj) ⟨ot, ot, trivial⟩ ?_
           refine a1_ 7 rfl mv_ ?_
           refine a1_ 8 rfl ex_ ?_
           refine a1_ 9 rfl ex_ ?_
           refine a1_ 10 rfl mv_ ?_
           refine a1_ 11 rfl mv_ ?_
           refine AD.wk (y := ⟨140, [(3, _), (5, _), (10, _), (12, _), (13, _), (15, _), (16, _)], [_, ⟨b3, 26, 2, [_, _]⟩]⟩) (Wk.as_ rfl rfl ⟨lk, lk, lk, lk, lk, lk, lk, trivial⟩) rfl ?_
           refine AD.done (by kernel_rfl) ?_
           refine sr_ ?_
           refine os_ mv_ ?_
           refine os_ bn_ ?_
           refine os_ mv_ ?_
           refine OD.split (t := 135) lk (fun hg135 => ?_) (fun hg135 => ?_)
           ·exact absurd hg135 (by simp at hg135)
           ·have hg135' := hg135; (try simp only [V.cnd, ne_eq] at hg135')
            refine os_ mv_ ?_
            refine os_ mv_ ?_
            refine os_ bn_ ?_
            refine os_ pkF_ ?_
            refine nm_ [3, 5, 10, 12, 139] ?_
            refine CD.cond ot (fun hc6 => ?_) (fun hc6 => ?_)
            ·exact absurd hc6 (by simp at hc6)
            ·have hc6' := hc6
             (try simp only [V.cnd, ne_eq] at hc6')
             refine CD.skip ?_
             refine CD.region ?_
             refine os_ mv_ ?_
             refine os_ bn_ ?_
             refine os_ mv_ ?_
             refine nm_ [3, 5, 10, 12] ?_
             refine ⟨(j + 1), ⟨140, [(3, .v (.pointer (some ⟨b3, 0, none⟩))), (5, .v (.map (some b22))), (10, .list 2 (al.flatMap cE) al.length), (12, .v (.int .i64 (((j + 1)) : Nat)))], [dictB b22 es, ⟨b3, 26, 2, [.list 5 (((treeL l)).pages.flatMap cP) ((treeL l)).pages.length, .v (.int .i64 ((treeL l)).root)]⟩]⟩, ?_, Wk.asS (n := 140) rfl (by repeat (first | exact List.Sublist.refl _ | apply List.Sublist.cons)) ⟨lq_, lq_, lq_, lq_, trivial⟩, (by omega), rfl⟩
             first | omega | (simp only []; omega)
         ·have hg106' := hg106; (try simp only [V.cnd, ne_eq] at hg106')
          refine s0_ 15 rfl ?_
          refine s0_ 16 rfl ?_
          refine s0_ 17 rfl ?_
          refine s0_ 18 rfl ?_
          refine s0_ 19 rfl ?_
          refine s0_ 20 rfl ?_
          refine s0_ 21 rfl ?_
          refine s0_ 22 rfl ?_
          refine s0_ 23 rfl ?_
          refine s0_ 24 rfl ?_
          refine s0_ 25 rfl ?_
          refine s0_ 26 rfl ?_
          refine s0_ 27 rfl ?_
          refine s0_ 28 rfl ?_
          refine a0_ 29 rfl pkF_ ?_
          refine a0_ 30 rfl pkF_ ?_
          refine AD0.later rfl ?_
          refine AD.wk (y := ⟨140, [(3, _), (5, _), (10, _), (12, _), (13, _), (122, _)], [_, ⟨b3, 26, 2, [_, _]⟩]⟩) (Wk.as_ rfl rfl ⟨lk, lk, lk, lk, lk, lk, trivial⟩) rfl ?_
          refine AD.done (by kernel_rfl) ?_
          refine CD.condF ot (by first | rfl | assumption) ?_
          refine CD.skip ?_
          refine CD.seq ?_
          refine CD.draw (bks _) (by kernel_rfl) (fun _ h => h) ?_
          refine a0_ 0 rfl (lab_ 1 [_, _]) ?_
          refine a0_ 1 rfl mv_ ?_
          refine a0_ 2 rfl mv_ ?_
          refine a0_ 3 rfl (ix_ 2 (h := by first | exact .l (j := j) rfl hlt | exact .r (j := j) rfl hlt)) ?_
          refine a0_ 4 rfl (fa_ 0) ?_
          refine a0_ 5 rfl ld_ ?_
          refine AD0.later rfl ?_
          refine AD.one (i := 6) (by kernel_rfl) ?_
          refine AStep.callP rfl (wants_plain rfl) rfl rfl rfl Try.call18 (hfj) ⟨ot, ot, trivial⟩ ?_
          refine a1_ 7 rfl mv_ ?_
          refine a1_ 8 rfl ex_ ?_
          refine a1_ 9 rfl ex_ ?_
          refine a1_ 10 rfl mv_ ?_
          refine a1_ 11 rfl mv_ ?_
          refine AD.wk (y := ⟨140, [(3, _), (5, _), (10, _), (12, _), (13, _), (15, _), (16, _)], [_, ⟨b3, 26, 2, [_, _]⟩]⟩) (Wk.as_ rfl rfl ⟨lk, lk, lk, lk, lk, lk, lk, trivial⟩) rfl ?_
          refine AD.done (by kernel_rfl) ?_
          refine sr_ ?_
          refine os_ mv_ ?_
          refine os_ bn_ ?_
          refine os_ mv_ ?_
          refine OD.split (t := 135) lk (fun hg135 => ?_) (fun hg135 => ?_)
          ·exact absurd hg135 (by simp at hg135)
          ·have hg135' := hg135; (try simp only [V.cnd, ne_eq] at hg135')
           refine os_ mv_ ?_
           refine os_ mv_ ?_
           refine os_ bn_ ?_
           refine os_ pkF_ ?_
           refine nm_ [3, 5, 10, 12, 139] ?_
           refine CD.cond ot (fun hc6 => ?_) (fun hc6 => ?_)
           ·exact absurd hc6 (by simp at hc6)
           ·have hc6' := hc6
            (try simp only [V.cnd, ne_eq] at hc6')
            refine CD.skip ?_
            refine CD.region ?_
            refine os_ mv_ ?_
            refine os_ bn_ ?_
            refine os_ mv_ ?_
            refine nm_ [3, 5, 10, 12] ?_
            refine ⟨(j + 1), ⟨140, [(3, .v (.pointer (some ⟨b3, 0, none⟩))), (5, .v (.map (some b22))), (10, .list 2 (al.flatMap cE) al.length), (12, .v (.int .i64 (((j + 1)) : Nat)))], [dictB b22 es, ⟨b3, 26, 2, [.list 5 (((treeL l)).pages.flatMap cP) ((treeL l)).pages.length, .v (.int .i64 ((treeL l)).root)]⟩]⟩, ?_, Wk.asS (n := 140) rfl (by repeat (first | exact List.Sublist.refl _ | apply List.Sublist.cons)) ⟨lq_, lq_, lq_, lq_, trivial⟩, (by omega), rfl⟩
            first | omega | (simp only []; omega)
      ·have hc4' := hc4
       (try simp only [V.cnd, ne_eq] at hc4')
       refine CD.exit ?_
       refine sr_ ?_
       refine os_ mv_ ?_
       refine nm_ [2] ?_
       refine CD.ret ?_
       refine r1_ ?_
       exact ⟨rfl, rfl⟩
 ·have hg27' := hg27; (try simp only [V.cnd, ne_eq] at hg27')
  refine sk_ ?_
  refine sk_ ?_
  refine os_ pkF_ ?_
  refine nm_ [0, 3, 4, 5, 6, 30] ?_
  refine CD.condF ot (by first | rfl | assumption) ?_
  have hend : i = min l.length 70 := by simp_all; omega
  have hTl : treeN l i = treeL l := by rw [hend]; rfl
  rw [hTl] at hM
  have hlen := hM.len g0
  rw [← hal] at hlen
  refine CD.exit ?_
  refine sr_ ?_
  refine os_ (lab_ 1 [_, _]) ?_
  refine OD.callP (wants_plain rfl) rfl rfl rfl Try.call16 (hsv) ⟨ot, opd_const, opd_const, trivial⟩ ?_
  refine os_ mv_ ?_
  refine os_ ex_ ?_
  refine os_ ex_ ?_
  refine os_ mv_ ?_
  refine os_ mv_ ?_
  refine OD.wk (Wk.as_ (n := 140) (l' := [(3, _), (4, _), (5, _), (10, _), (11, _)]) (S' := [_, ⟨b3, 26, 2, [_, _]⟩]) rfl rfl ⟨lk, lk, lk, lk, lk, trivial⟩) ?_
  refine OD.nil ?_
  refine CD.seq ?_
  refine sr_ ?_
  refine os_ mv_ ?_
  refine os_ un_ ?_
  refine os_ mv_ ?_
  refine OD.split (t := 64) lk (fun hg64 => ?_) (fun hg64 => ?_)
  ·exact absurd hg64 (by simp at hg64)
  ·have hg64' := hg64; (try simp only [V.cnd, ne_eq] at hg64')
   refine os_ mv_ ?_
   refine os_ bn_ ?_
   refine os_ pkF_ ?_
   refine os_ mv_ ?_
   refine OD.split (t := 68) lk (fun hg68 => ?_) (fun hg68 => ?_)
   ·exact absurd hg68 (by simp at hg68)
   ·have hg68' := hg68; (try simp only [V.cnd, ne_eq] at hg68')
    refine os_ mv_ ?_
    refine os_ ln_ ?_
    refine os_ mv_ ?_
    refine OD.still (wants_T rfl rfl rfl lk (by first | rfl | assumption)) rfl (still_dlen (i := 0) rfl rfl ot rfl Try.underlying49) ?_
    refine os_ bn_ ?_
    refine os_ pkF_ ?_
    refine OD.wk (Wk.as_ (n := 140) (l' := [(3, _), (5, _), (10, _), (74, _)]) (S' := [_, ⟨b3, 26, 2, [_, _]⟩]) rfl rfl ⟨lk, lk, lk, lk, trivial⟩) ?_
    refine OD.nil ?_
    refine CD.cond ot (fun hc3 => ?_) (fun hc3 => ?_)
    ·exact absurd hc3 (by simp [hlen] at hc3)
    ·have hc3' := hc3
     (try simp only [V.cnd, ne_eq] at hc3')
     refine CD.skip ?_
     refine CD.seq ?_
     refine sr_ ?_
     refine os_ mv_ ?_
     refine nm_ [3, 5, 10, 12] ?_
     refine CD.block ?_
     refine CD.wk (Wk.asS (n := 140) (l' := [(3, .v (.pointer (some ⟨b3, 0, none⟩))), (5, .v (.map (some b22))), (10, .list 2 (al.flatMap cE) al.length), (12, .v (.int .i64 ((0) : Nat)))]) (S' := [dictB b22 es, ⟨b3, 26, 2, [.list 5 (((treeL l)).pages.flatMap cP) ((treeL l)).pages.length, .v (.int .i64 ((treeL l)).root)]⟩]) rfl (by repeat (first | exact List.Sublist.refl _ | apply List.Sublist.cons)) ⟨lq_, lq_, lq_, lq_, trivial⟩) (CD.loop (fun (j : Nat) y__ => (j ≤ al.length) ∧ y__ = (⟨140, [(3, .v (.pointer (some ⟨b3, 0, none⟩))), (5, .v (.map (some b22))), (10, .list 2 (al.flatMap cE) al.length), (12, .v (.int .i64 (j : Nat)))], [dictB b22 es, ⟨b3, 26, 2, [.list 5 (((treeL l)).pages.flatMap cP) ((treeL l)).pages.length, .v (.int .i64 ((treeL l)).root)]⟩]⟩ : St)) (fun (j : Nat) => al.length - j) 0 ⟨(Nat.zero_le _), rfl⟩ ?_)
     rintro j _ ⟨hj, rfl⟩
     refine CD.seq ?_
     refine sr_ ?_
     refine os_ mv_ ?_
     refine os_ mv_ ?_
     refine os_ ln_ ?_
     refine os_ bn_ ?_
     refine nm_ [3, 5, 10, 12, 78] ?_
     refine CD.cond ot (fun hc4 => ?_) (fun hc4 => ?_)
     ·have hc4' := hc4
      (try simp only [V.cnd, ne_eq] at hc4')
      have hlt : j < al.length := by simp at hc4; omega
      have hmem : (al[j].1, al[j].2) ∈ entsOf (treeL l) := by rw [← hal]; exact List.getElem_mem hlt
      have hdt : (true = true ∧ (∃ v, (al[j].1, v) ∈ es) ∧ ∀ v, (al[j].1, v) ∈ es → v = al[j].2) ∨ (true = false ∧ al[j].2 = 0 ∧ ∀ v, (al[j].1, v) ∉ es) := .inl ⟨rfl, ⟨_, (hM.same _).2 hmem⟩, hM.one g0 hmem⟩
      have hfj := hfv al[j].1
      rw [find_yes g0 (hak _ (List.getElem_mem hlt)).1 hmem] at hfj
      dsimp only at hfj
      have hup : ∀ (h : 0 < j), klt (al[j - 1]'(by omega)).1 al[j].1 := fun h => List.pairwise_iff_getElem.1 hri _ _ _ _ (by omega)
      refine CD.skip ?_
      refine CD.seq ?_
      refine CD.block ?_
      refine sr_ ?_
      refine os_ mv_ ?_
      refine os_ mv_ ?_
      refine os_ mv_ ?_
      refine os_ (ix_ 2 (h := by first | exact .l (j := j) rfl hlt | exact .r (j := j) rfl hlt)) ?_
      refine os_ (fa_ 0) ?_
      refine os_ ld_ ?_
      refine os_ sb_ ?_
      refine OD.still (wants_plain rfl) rfl (still_dict (i := 0) (k := al[j].1) rfl ot ot rfl hdt Try.underlying49 Try.underlying9 Try.zeroValue3) ?_
      refine os_ mv_ ?_
      refine os_ ex_ ?_
      refine os_ ex_ ?_
      refine os_ mv_ ?_
      refine os_ mv_ ?_
      refine OD.wk (Wk.as_ (n := 140) (l' := [(3, _), (5, _), (10, _), (12, _), (13, _), (14, _)]) (S' := [_, ⟨b3, 26, 2, [_, _]⟩]) rfl rfl ⟨lk, lk, lk, lk, lk, lk, trivial⟩) ?_
      refine OD.nil ?_
      refine CD.seq ?_
      refine CD.seq ?_
      refine CD.draw (bks _) (by kernel_rfl) (fun _ h => h) ?_
      refine a0_ 0 rfl mv_ ?_
      refine a0_ 1 rfl un_ ?_
      refine a0_ 2 rfl mv_ ?_
      refine AD0.split (t := 94) lk (fun hg94 => ?_) (fun hg94 => ?_)
      ·exact absurd hg94 (by simp at hg94)
      ·have hg94' := hg94; (try simp only [V.cnd, ne_eq] at hg94')
       refine a0_ 3 rfl mv_ ?_
       refine a0_ 4 rfl mv_ ?_
       refine a0_ 5 rfl mv_ ?_
       refine a0_ 6 rfl (ix_ 2 (h := by first | exact .l (j := j) rfl hlt | exact .r (j := j) rfl hlt)) ?_
       refine a0_ 7 rfl (fa_ 1) ?_
       refine a0_ 8 rfl ld_ ?_
       refine a0_ 9 rfl bn_ ?_
       refine a0_ 10 rfl pkF_ ?_
       refine a0_ 11 rfl mv_ ?_
       refine AD0.split (t := 103) lk (fun hg103 => ?_) (fun hg103 => ?_)
       ·exact absurd hg103 (by simp at hg103)
       ·have hg103' := hg103; (try simp only [V.cnd, ne_eq] at hg103')
        refine a0_ 12 rfl mv_ ?_
        refine a0_ 13 rfl bn_ ?_
        refine a0_ 14 rfl mv_ ?_
        refine AD0.split (t := 106) lk (fun hg106 => ?_) (fun hg106 => ?_)
        ·have hg106' := hg106; (try simp only [V.cnd, ne_eq] at hg106')
         refine a0_ 15 rfl mv_ ?_
         refine a0_ 16 rfl mv_ ?_
         refine a0_ 17 rfl (ix_ 2 (h := by first | exact .l (j := j) rfl hlt | exact .r (j := j) rfl hlt)) ?_
         refine a0_ 18 rfl (fa_ 0) ?_
         refine a0_ 19 rfl ld_ ?_
         refine a0_ 20 rfl sb_ ?_
         refine a0_ 21 rfl mv_ ?_
         refine a0_ 22 rfl mv_ ?_
         refine a0_ 23 rfl bn_ ?_
         refine a0_ 24 rfl (ix_ 2 (h := by first | exact .l (j := j - 1) (by omega) (by omega) | exact .r (j := j - 1) (by omega) (by omega))) ?_
         refine a0_ 25 rfl (fa_ 0) ?_
         refine a0_ 26 rfl ld_ ?_
         refine a0_ 27 rfl sb_ ?_
         refine a0_ 28 rfl bn_ ?_
         refine a0_ 29 rfl pkT_ ?_
         refine a0_ 30 rfl pkF_ ?_
         refine AD0.later rfl ?_
         refine AD.wk (y := ⟨140, [(3, _), (5, _), (10, _), (12, _), (13, _), (122, _)], [_, ⟨b3, 26, 2, [_, _]⟩]⟩) (Wk.as_ rfl rfl ⟨lk, lk, lk, lk, lk, lk, trivial⟩) rfl ?_
         refine AD.done (by kernel_rfl) ?_
         refine CD.cond ot (fun hc5 => ?_) (fun hc5 => ?_)
         ·exact absurd hc5 (by first | (simp at hc5; done) | (rw [str_leF (hup (by simp at hg106; omega))] at hc5; cases hc5))
         ·have hc5' := hc5
          (try simp only [V.cnd, ne_eq] at hc5')
          refine CD.skip ?_
          refine CD.seq ?_
          refine CD.draw (bks _) (by kernel_rfl) (fun _ h => h) ?_
          refine a0_ 0 rfl (lab_ 1 [_, _]) ?_
          refine a0_ 1 rfl mv_ ?_
          refine a0_ 2 rfl mv_ ?_
          refine a0_ 3 rfl (ix_ 2 (h := by first | exact .l (j := j) rfl hlt | exact .r (j := j) rfl hlt)) ?_
          refine a0_ 4 rfl (fa_ 0) ?_
          refine a0_ 5 rfl ld_ ?_
          refine AD0.later rfl ?_
          refine AD.one (i := 6) (by kernel_rfl) ?_
          refine AStep.callP rfl (wants_plain rfl) rfl rfl rfl Try.call18 (hfj) ⟨ot, ot, trivial⟩ ?_
          refine a1_ 7 rfl mv_ ?_
          refine a1_ 8 rfl ex_ ?_
          refine a1_ 9 rfl ex_ ?_
          refine a1_ 10 rfl mv_ ?_
          refine a1_ 11 rfl mv_ ?_
          refine AD.wk (y := ⟨140, [(3, _), (5, _), (10, _), (12, _), (13, _), (15, _), (16, _)], [_, ⟨b3, 26, 2, [_, _]⟩]⟩) (Wk.as_ rfl rfl ⟨lk, lk, lk, lk, lk, lk, lk, trivial⟩) rfl ?_
          refine AD.done (by kernel_rfl) ?_
          refine sr_ ?_
          refine os_ mv_ ?_
          refine os_ bn_ ?_
          refine os_ mv_ ?_
          refine OD.split (t := 135) lk (fun hg135 => ?_) (fun hg135 => ?_)
          ·exact absurd hg135 (by simp at hg135)
          ·have hg135' := hg135; (try simp only [V.cnd, ne_eq] at hg135')
           refine os_ mv_ ?_
           refine os_ mv_ ?_
           refine os_ bn_ ?_
           refine os_ pkF_ ?_
           refine nm_ [3, 5, 10, 12, 139] ?_
           refine CD.cond ot (fun hc6 => ?_) (fun hc6 => ?_)
           ·exact absurd hc6 (by simp at hc6)
           ·have hc6' := hc6
            (try simp only [V.cnd, ne_eq] at hc6')
            refine CD.skip ?_
            refine CD.region ?_
            refine os_ mv_ ?_
            refine os_ bn_ ?_
            refine os_ mv_ ?_
            refine nm_ [3, 5, 10, 12] ?_
            refine ⟨(j + 1), ⟨140, [(3, .v (.pointer (some ⟨b3, 0, none⟩))), (5, .v (.map (some b22))), (10, .list 2 (al.flatMap cE) al.length), (12, .v (.int .i64 (((j + 1)) : Nat)))], [dictB b22 es, ⟨b3, 26, 2, [.list 5 (((treeL l)).pages.flatMap cP) ((treeL l)).pages.length, .v (.int .i64 ((treeL l)).root)]⟩]⟩, ?_, Wk.asS (n := 140) rfl (by repeat (first | exact List.Sublist.refl _ | apply List.Sublist.cons)) ⟨lq_, lq_, lq_, lq_, trivial⟩, (by omega), rfl⟩
            first | omega | (simp only []; omega)
        ·have hg106' := hg106; (try simp only [V.cnd, ne_eq] at hg106')
         refine s0_ 15 rfl ?_
         refine s0_ 16 rfl ?_
         refine s0_ 17 rfl ?_
         refine s0_ 18 rfl ?_
         refine s0_ 19 rfl ?_
         refine s0_ 20 rfl ?_
         refine s0_ 21 rfl ?_
         refine s0_ 22 rfl ?_
         refine s0_ 23 rfl ?_
         refine s0_ 24 rfl ?_
         refine s0_ 25 rfl ?_
         refine s0_ 26 rfl ?_
         refine s0_ 27 rfl ?_
         refine s0_ 28 rfl ?_
         refine a0_ 29 rfl pkF_ ?_
         refine a0_ 30 rfl pkF_ ?_
         refine AD0.later rfl ?_
         refine AD.wk (y := ⟨140, [(3, _), (5, _), (10, _), (12, _), (13, _), (122, _)], [_, ⟨b3, 26, 2, [_, _]⟩]⟩) (Wk.as_ rfl rfl ⟨lk, lk, lk, lk, lk, lk, trivial⟩) rfl ?_
         refine AD.done (by kernel_rfl) ?_
         refine CD.condF ot (by first | rfl | assumption) ?_
         refine CD.skip ?_
         refine CD.seq ?_
         refine CD.draw (bks _) (by kernel_rfl) (fun _ h => h) ?_
         refine a0_ 0 rfl (lab_ 1 [_, _]) ?_
         refine a0_ 1 rfl mv_ ?_
         refine a0_ 2 rfl mv_ ?_
         refine a0_ 3 rfl (ix_ 2 (h := by first | exact .l (j := j) rfl hlt | exact .r (j := j) rfl hlt)) ?_
         refine a0_ 4 rfl (fa_ 0) ?_
         refine a0_ 5 rfl ld_ ?_
         refine AD0.later rfl ?_
         refine AD.one (i := 6) (by kernel_rfl) ?_
         refine AStep.callP rfl (wants_plain rfl) rfl rfl rfl Try.call18 (hfj) ⟨ot, ot, trivial⟩ ?_
         refine a1_ 7 rfl mv_ ?_
         refine a1_ 8 rfl ex_ ?_
         refine a1_ 9 rfl ex_ ?_
         refine a1_ 10 rfl mv_ ?_
         refine a1_ 11 rfl mv_ ?_
         refine AD.wk (y := ⟨140, [(3, _), (5, _), (10, _), (12, _), (13, _), (15, _), (16, _)], [_, ⟨b3, 26, 2, [_, _]⟩]⟩) (Wk.as_ rfl rfl ⟨lk, lk, lk, lk, lk, lk, lk, trivial⟩) rfl ?_
         refine AD.done (by kernel_rfl) ?_
         refine sr_ ?_
         refine os_ mv_ ?_
         refine os_ bn_ ?_
         refine os_ mv_ ?_
         refine OD.split (t := 135) lk (fun hg135 => ?_) (fun hg135 => ?_)
         ·exact absurd hg135 (by simp at hg135)
         ·have hg135' := hg135; (try simp only [V.cnd, ne_eq] at hg135')
          refine os_ mv_ ?_
          refine os_ mv_ ?_
          refine os_ bn_ ?_
          refine os_ pkF_ ?_
          refine nm_ [3, 5, 10, 12, 139] ?_
          refine CD.cond ot (fun hc6 => ?_) (fun hc6 => ?_)
          ·exact absurd hc6 (by simp at hc6)
          ·have hc6' := hc6
           (try simp only [V.cnd, ne_eq] at hc6')
           refine CD.skip ?_
           refine CD.region ?_
           refine os_ mv_ ?_
           refine os_ bn_ ?_
           refine os_ mv_ ?_
           refine nm_ [3, 5, 10, 12] ?_
           refine ⟨(j + 1), ⟨140, [(3, .v (.pointer (some ⟨b3, 0, none⟩))), (5, .v (.map (some b22))), (10, .list 2 (al.flatMap cE) al.length), (12, .v (.int .i64 (((j + 1)) : Nat)))], [dictB b22 es, ⟨b3, 26, 2, [.list 5 (((treeL l)).pages.flatMap cP) ((treeL l)).pages.length, .v (.int .i64 ((treeL l)).root)]⟩]⟩, ?_, Wk.asS (n := 140) rfl (by repeat (first | exact List.Sublist.refl _ | apply List.Sublist.cons)) ⟨lq_, lq_, lq_, lq_, trivial⟩, (by omega), rfl⟩
           first | omega | (simp only []; omega)
     ·have hc4' := hc4
      (try simp only [V.cnd, ne_eq] at hc4')
      refine CD.exit ?_
      refine sr_ ?_
      refine os_ mv_ ?_
      refine nm_ [2] ?_
      refine CD.ret ?_
      refine r1_ ?_
      exact ⟨rfl, rfl⟩

theorem walkTreeModel (l : List Int) (v : Value) (ok : l.length ≤ maxLen ∧ WfI l) (w : World) (hv : Rep w (fun _ => False) (.list 1 (l.flatMap cI) l.length) v) : Calls Try.prog 7 #[v] w fun e w' => e = .returned (.bool true) ∧ Below w.heap.size w w' :=
 (model_law (G := []) l ok.1 ok.2).runL (fun g hg => by cases hg) (vs := [v]) (RepL.cons hv (RepL.vs w _ []))

end Go.Proofs.Ythnobhekodiciaa.Tw
