/-
  What the proof of TreeRange leans on, part 5 of 5: walks of the program's functions at the level of values, and plain facts of what they compute.
-/
import Derived.Test.YthnobhekodiciaaPTreeRange4
namespace Go.Proofs.Ythnobhekodiciaa.Tw
open Go.RowKit V Go.Proofs.Ythnobhekodiciaa.Tr Pk
set_option linter.unusedVariables false
set_option linter.unusedSimpArgs false

noncomputable def insE (t : TreeL) (k : K) (row : Int) (h : Nat) : TreeL × Int := if refF t k = 0 then (if row < 0 then (noT, 3) else if thereB t k h = true then (noT, 9) else if 4000 < (insT t h k row).pages.length then (noT, 10) else (insT t h k row, 0)) else (noT, refF t k)
theorem flat_cI {ls : List Int} {r : D} {S : List Blk} (h : RetL cI 3 1 ls r S) : flatD r = true ∧ ∀ B ∈ S, ∀ d ∈ B.cs, flatD d = true := by
 obtain ⟨ad, cap, rfl, ho⟩ := h
 refine ⟨rfl, fun B hB d hd => ?_⟩
 rcases ho with ⟨_, _, _, _, rfl⟩ | ⟨b, _, _, _, rfl⟩
 ·cases hB
 ·rw [List.mem_singleton] at hB; subst hB
  obtain ⟨n, _, hn⟩ := List.mem_flatMap.1 hd
  rw [cI, List.mem_singleton] at hn; subst hn; rfl
theorem not_there {t : TreeL} {h : Nat} (v : Valid t h) {k : K} (hf : thereB t k h = false) : ∀ x ∈ allE t h, x.1 ≠ k := fun x hx e => by
 have : thereB t k h = true := (thereB_iff v k).2 ((there_iff v k).2 ⟨x.2, by rw [← e]; exact hx⟩)
 rw [hf] at this; cases this
theorem split_vcp {G : List (Nat × List Value)} (L : List PgO) (b : Nat) (root i : Int) (ad : Option Addr) (cap : Nat) (Sx : List Blk) (hi : 0 ≤ i ∧ i < L.length) (p : PgL) (hpp : (L[i.toNat]'(by omega)).p = p) (hn : L.length ≤ 10000) (hox : OwnP L ad cap Sx) (hok : ∀ o ∈ L, okO o) (h5 : p.keys.length = 5) (hkl : p.leaf = true → p.kids.length = 5) (hkn : p.leaf = false → p.kids.length = 6) (hks : ∀ k ∈ p.keys, k.length ≤ 100) (hh : p.high.length ≤ 100) :
 VC Try.prog G 30 [.v (.pointer (some ⟨b, 0, none⟩)), .v (.int .i64 i)] (⟨b, 26, 2, [.v (.slice ad L.length cap), .v (.int .i64 root)]⟩ :: (Sx ++ L.flatMap bO)) (RetS L b root i.toNat p) := by
 subst hpp; exact split_vc L b root i ad cap Sx hi hn hox hok h5 hkl hkn hks hh
theorem root_ins {t u : TreeL} {k up : K} {row kid : Int} {h : Nat} (e : pendF t k row h (h + 1) = (u, some (up, kid))) (hr : u.root = t.root) : insT t h k row = ⟨u.pages ++ [⟨false, [up], [t.root, kid], [], -1⟩], u.pages.length⟩ := by
 unfold insT; rw [← pend_top, e]; show (⟨u.pages ++ [⟨false, [up], [u.root, kid], [], -1⟩], u.pages.length⟩ : TreeL) = _; rw [hr]
theorem few_ins {t u : TreeL} {k up : K} {row kid : Int} {h m : Nat} (hm : m ≤ h) (e : pendF t k row h m = (u, some (up, kid))) (h4 : (putP (u.pg (nodeF t k h t.root m)) up kid).keys.length ≤ 4) : insT t h k row = u.set (nodeF t k h t.root m) (putP (u.pg (nodeF t k h t.root m)) up kid) := by
 have := pend_next hm e
 rw [putT_few h4] at this
 unfold insT; rw [pend_none (h - m) (m + 1) (by omega) (by omega) this]; rfl
theorem full_ins {t u : TreeL} {k up : K} {row kid : Int} {h m : Nat} (hm : m ≤ h) (e : pendF t k row h m = (u, some (up, kid))) (h4 : ¬ (putP (u.pg (nodeF t k h t.root m)) up kid).keys.length ≤ 4) :
  pendF t k row h (m + 1) = (addT u (nodeF t k h t.root m) (lowP (putP (u.pg (nodeF t k h t.root m)) up kid) u.pages.length) (highP (putP (u.pg (nodeF t k h t.root m)) up kid)), some (upK (putP (u.pg (nodeF t k h t.root m)) up kid), (u.pages.length : Int))) := by
 rw [pend_next hm e, putT_full h4]
variable {G : List (Nat × List Value)}

theorem info44_Twf : (Try.prog.info? 44).map (fun i => (i.zero, i.size, i.bytes)) = some (some (.agg #[.bool false, .slice none 0 0, .slice none 0 0, .slice none 0 0, .int .i64 0]), 5, 88) := by kernel_rfl

theorem places26_Twf : ∀ w, ((#[{ name := "Pages", type := 24, offset := 0, embedded := false, tag := "", pkgPath := "", byteOffset := 0 }, { name := "Root", type := 3, offset := 1, embedded := false, tag := "", pkgPath := "", byteOffset := 24 }] : Array Field).mapM fun f => do pure (f.offset, ← sizeOf f.type) : Sem (Array (Nat × Nat))).run Try.prog w = .ok #[(0, 1), (1, 1)] w := fun w => by simp [Try.sizeOf24, Try.sizeOf3]

theorem places44_Twf : ∀ w, ((#[{ name := "Leaf", type := 4, offset := 0, embedded := false, tag := "", pkgPath := "", byteOffset := 0 }, { name := "Keys", type := 42, offset := 1, embedded := false, tag := "", pkgPath := "", byteOffset := 8 }, { name := "Kids", type := 22, offset := 2, embedded := false, tag := "", pkgPath := "", byteOffset := 32 }, { name := "High", type := 31, offset := 3, embedded := false, tag := "", pkgPath := "", byteOffset := 56 }, { name := "Next", type := 3, offset := 4, embedded := false, tag := "", pkgPath := "", byteOffset := 80 }] : Array Field).mapM fun f => do pure (f.offset, ← sizeOf f.type) : Sem (Array (Nat × Nat))).run Try.prog w = .ok #[(0, 1), (1, 1), (2, 1), (3, 1), (4, 1)] w := fun w => by simp [Try.sizeOf22, Try.sizeOf3, Try.sizeOf31, Try.sizeOf4, Try.sizeOf42]

set_option maxHeartbeats 4000000 in
set_option maxRecDepth 100000 in
theorem insert_vc (t : TreeL) (h : Nat) (k : K) (row : Int) (hb : ∀ p ∈ t.pages, p.keys.length ≤ maxLen ∧ p.kids.length ≤ maxLen) (hv : checkF t = 0 → Valid t h) : VC Try.prog G 14 [.agg [.list 5 (t.pages.flatMap cP) t.pages.length, .v (.int .i64 t.root)], .list 1 (k.flatMap cB) k.length, .v (.int .i64 row)] [] (RetE (insE t k row h)) := by
 refine VC.body Try.func14 rfl Try.ntmps14 (Nat.le_of_ble_eq_true rfl) fun X0 w0 S00 => ?_
 have hcv := checked_vp (G := G) t k hb
 unfold cT at hcv
 have hmx : maxLen = 9223372036854775807 := rfl
 refine sr_ ?_
 refine OD.box (ds := [_, _]) (wants_plain rfl) rfl rfl ot rfl rfl (fun b3 => ?_)
 refine OD.alloc (ds := [_, _]) (wants_plain rfl) rfl rfl Try.zeroValue26 rfl (fun b6 => ?_)
 refine os_ mv_ ?_
 refine OD.wk (Wk.as_ (n := 131) (l' := [(1, _), (2, _), (3, _), (6, _)]) (S' := [⟨b6, 26, 2, [_, _]⟩, ⟨b3, 26, 2, [_, _]⟩]) rfl rfl ⟨lk, lk, lk, lk, trivial⟩) ?_
 refine OD.nil ?_
 refine CD.seq ?_
 refine sr_ ?_
 refine os_ (lab_ 1 [_, _]) ?_
 refine os_ mv_ ?_
 refine OD.callP (wants_plain rfl) rfl rfl rfl Try.call22 (hcv) ⟨ot, ot, trivial⟩ ?_
 refine os_ mv_ ?_
 refine OD.wk (Wk.as_ (n := 131) (l' := [(1, _), (2, _), (3, _), (6, _), (8, _)]) (S' := [⟨b6, 26, 2, [_, _]⟩, ⟨b3, 26, 2, [_, _]⟩]) rfl rfl ⟨lk, lk, lk, lk, lk, trivial⟩) ?_
 refine OD.nil ?_
 refine sr_ ?_
 refine os_ mv_ ?_
 refine os_ bn_ ?_
 refine nm_ [1, 2, 3, 6, 8, 23] ?_
 refine CD.cond ot (fun hc0 => ?_) (fun hc0 => ?_)
 ·have hc0' := hc0
  (try simp only [V.cnd, ne_eq] at hc0')
  have hn : ¬ refF t k = 0 := by simpa using hc0
  refine sr_ ?_
  refine OD.still (wants_plain rfl) rfl (still_bld (pl := []) (ds := [_, _]) rfl Try.zeroValue26 Try.runUnderlying26 places26_Twf trivial rfl rfl) ?_
  refine os_ mv_ ?_
  refine OD.store (k := 0) (cs' := [_, _]) (wants_plain rfl) rfl rfl ot rfl rfl ot rfl rfl Try.sizeOf26 rfl rfl rfl ?_
  refine os_ mv_ ?_
  refine OD.wk (Wk.as_ (n := 131) (l' := [(6, _), (7, _)]) (S' := [⟨b6, 26, 2, [_, _]⟩, ⟨b3, 26, 2, [_, _]⟩]) rfl rfl ⟨lk, lk, trivial⟩) ?_
  refine OD.nil ?_
  refine CD.ret ?_
  refine ⟨.inr rfl, _, [], List.nil_sublist _, ret_two Try.results14 (res_cells (k := 0) (ds := [_, _]) (Nat.le_of_ble_eq_true rfl) lk rfl rfl Try.isAgg26 Try.sizeOf26 rfl rfl) (res_tmp (Nat.le_of_ble_eq_true rfl) lk), ?_⟩
  unfold insE; rw [if_neg hn]; exact retE_no _
 ·have hc0' := hc0
  (try simp only [V.cnd, ne_eq] at hc0')
  have hz : refF t k = 0 := by simpa using hc0
  obtain ⟨hc, hkq⟩ := refF_zero hz
  have v := hv hc
  have hkl0 := keyQ_len hkq
  have hfv := find_vp (G := G) t h v k (by omega) (valid_path v k)
  unfold cT at hfv
  have hhigh0 := v.high
  have hmost0 := v.most
  refine CD.skip ?_
  refine CD.seq ?_
  refine sr_ ?_
  refine os_ mv_ ?_
  refine os_ bn_ ?_
  refine nm_ [1, 2, 3, 6, 27] ?_
  refine CD.cond ot (fun hc1 => ?_) (fun hc1 => ?_)
  ·have hc1' := hc1
   (try simp only [V.cnd, ne_eq] at hc1')
   have hrow : row < 0 := by omega
   refine sr_ ?_
   refine OD.still (wants_plain rfl) rfl (still_bld (pl := []) (ds := [_, _]) rfl Try.zeroValue26 Try.runUnderlying26 places26_Twf trivial rfl rfl) ?_
   refine OD.store (k := 0) (cs' := [_, _]) (wants_plain rfl) rfl rfl ot rfl rfl ot rfl rfl Try.sizeOf26 rfl rfl rfl ?_
   refine os_ mv_ ?_
   refine OD.wk (Wk.as_ (n := 131) (l' := [(6, _), (7, _)]) (S' := [⟨b6, 26, 2, [_, _]⟩, ⟨b3, 26, 2, [_, _]⟩]) rfl rfl ⟨lk, lk, trivial⟩) ?_
   refine OD.nil ?_
   refine CD.ret ?_
   refine ⟨.inr rfl, _, [], List.nil_sublist _, ret_two Try.results14 (res_cells (k := 0) (ds := [_, _]) (Nat.le_of_ble_eq_true rfl) lk rfl rfl Try.isAgg26 Try.sizeOf26 rfl rfl) (res_tmp (Nat.le_of_ble_eq_true rfl) lk), ?_⟩
   unfold insE; rw [if_pos hz, if_pos hrow]; exact retE_no _
  ·have hc1' := hc1
   (try simp only [V.cnd, ne_eq] at hc1')
   have hrow : 0 ≤ row := by omega
   refine CD.skip ?_
   refine CD.seq ?_
   refine sr_ ?_
   refine os_ (lab_ 1 [_, _]) ?_
   refine os_ mv_ ?_
   refine OD.callP (wants_plain rfl) rfl rfl rfl Try.call23 (hfv) ⟨ot, ot, trivial⟩ ?_
   refine os_ mv_ ?_
   refine os_ ex_ ?_
   refine os_ ex_ ?_
   refine os_ ex_ ?_
   refine os_ mv_ ?_
   refine os_ mv_ ?_
   refine os_ mv_ ?_
   refine OD.wk (Wk.as_ (n := 131) (l' := [(1, _), (2, _), (3, _), (6, _), (11, _)]) (S' := [⟨b6, 26, 2, [_, _]⟩, ⟨b3, 26, 2, [_, _]⟩]) rfl rfl ⟨lk, lk, lk, lk, lk, trivial⟩) ?_
   refine OD.nil ?_
   refine sr_ ?_
   refine os_ mv_ ?_
   refine nm_ [1, 2, 3, 6, 36] ?_
   refine CD.cond ot (fun hc2 => ?_) (fun hc2 => ?_)
   ·have hc2' := hc2
    (try simp only [V.cnd, ne_eq] at hc2')
    have hth : thereB t k h = true := hc2
    refine sr_ ?_
    refine OD.still (wants_plain rfl) rfl (still_bld (pl := []) (ds := [_, _]) rfl Try.zeroValue26 Try.runUnderlying26 places26_Twf trivial rfl rfl) ?_
    refine OD.store (k := 0) (cs' := [_, _]) (wants_plain rfl) rfl rfl ot rfl rfl ot rfl rfl Try.sizeOf26 rfl rfl rfl ?_
    refine os_ mv_ ?_
    refine OD.wk (Wk.as_ (n := 131) (l' := [(6, _), (7, _)]) (S' := [⟨b6, 26, 2, [_, _]⟩, ⟨b3, 26, 2, [_, _]⟩]) rfl rfl ⟨lk, lk, trivial⟩) ?_
    refine OD.nil ?_
    refine CD.ret ?_
    refine ⟨.inr rfl, _, [], List.nil_sublist _, ret_two Try.results14 (res_cells (k := 0) (ds := [_, _]) (Nat.le_of_ble_eq_true rfl) lk rfl rfl Try.isAgg26 Try.sizeOf26 rfl rfl) (res_tmp (Nat.le_of_ble_eq_true rfl) lk), ?_⟩
    unfold insE; rw [if_pos hz, if_neg (by omega), if_pos hth]; exact retE_no _
   ·have hc2' := hc2
    (try simp only [V.cnd, ne_eq] at hc2')
    have hth : thereB t k h = false := hc2
    have hne := not_there v hth
    refine CD.skip ?_
    refine sr_ ?_
    refine os_ (lab_ 1 [_, _]) ?_
    refine OD.call (wants_plain rfl) rfl rfl rfl Try.call24 (own_vc t h v) ⟨ot, trivial⟩ (perm_none _) ?_
    rintro _ _ ⟨L, ad, cap, Sx, rfl, hox, hok, hL, rfl⟩
    refine OD.perm (S' := ⟨b6, 26, 2, [.v (.slice none 0 0), .v (.int .i64 0)]⟩ :: ⟨b3, 26, 2, [.list 5 (t.pages.flatMap cP) t.pages.length, .v (.int .i64 t.root)]⟩ :: (Sx ++ L.flatMap bO)) (perm_q11 (A := [_, _])) ?_
    refine OD.alloc (ds := [_, _]) (wants_plain rfl) rfl rfl Try.zeroValue26 rfl (fun b12 => ?_)
    refine OD.store (k := 0) (cs' := [_, _]) (wants_plain rfl) rfl rfl ot rfl rfl ot rfl rfl Try.sizeOf26 rfl rfl rfl ?_
    refine OD.wk (Wk.as_ (n := 131) (l' := [(1, _), (2, _), (6, _), (12, _)]) (S' := (⟨b12, 26, 2, [_, _]⟩ :: ⟨b6, 26, 2, [_, _]⟩ :: ⟨b3, 26, 2, [_, _]⟩ :: (Sx ++ (L.flatMap bO)))) rfl rfl ⟨lk, lk, lk, lk, trivial⟩) ?_
    refine OD.nil ?_
    refine sr_ ?_
    refine os_ (lab_ 0 [_, _]) ?_
    refine os_ mv_ ?_
    refine OD.lookC (wants_plain rfl) rfl rfl rfl Try.call25 (path_vc t h v k) (fun r S => flat_cI) ⟨⟨_, ot, (by have := view_T (root := t.root) hox hok (fun B hB => List.mem_cons_of_mem ⟨b12, 26, 2, [.v (.slice ad L.length cap), .v (.int .i64 t.root)]⟩ (List.mem_cons_of_mem ⟨b6, 26, 2, [.v (.slice none 0 0), .v (.int .i64 0)]⟩ (List.mem_cons_of_mem ⟨b3, 26, 2, [.list 5 (t.pages.flatMap cP) t.pages.length, .v (.int .i64 t.root)]⟩ hB))); rw [hL] at this; exact this)⟩, ⟨_, ot, view_same⟩, trivial⟩ ?_
    rintro _ Sw ⟨aw, cw, rfl, how⟩
    refine OD.giveL (t := 42) (Sq := Sw) lk how (fm_len cI_len _) (List.Perm.refl _) ?_
    refine os_ mv_ ?_
    refine OD.wk (Wk.as_ (n := 131) (l' := [(1, _), (2, _), (6, _), (12, _), (13, _)]) (S' := (⟨b12, 26, 2, [_, _]⟩ :: ⟨b6, 26, 2, [_, _]⟩ :: ⟨b3, 26, 2, [_, _]⟩ :: (Sx ++ (L.flatMap bO)))) rfl rfl ⟨lk, lk, lk, lk, lk, trivial⟩) ?_
    refine OD.nil ?_
    refine sr_ ?_
    refine os_ mv_ ?_
    refine OD.callP (wants_plain rfl) rfl rfl rfl Try.call26 (cloneB_vp k (by omega)) ⟨ot, trivial⟩ ?_
    refine os_ mv_ ?_
    refine os_ mv_ ?_
    refine os_ mv_ ?_
    refine OD.wk (Wk.as_ (n := 131) (l' := [(6, _), (12, _), (13, _), (14, _), (15, _)]) (S' := (⟨b12, 26, 2, [_, _]⟩ :: ⟨b6, 26, 2, [_, _]⟩ :: ⟨b3, 26, 2, [_, _]⟩ :: (Sx ++ (L.flatMap bO)))) rfl rfl ⟨lk, lk, lk, lk, lk, trivial⟩) ?_
    refine OD.nil ?_
    refine CD.cut (fun y__ => ∃ (L : List PgO), ∃ (ad : Option Addr), ∃ (cap : Nat), ∃ (Sx : List Blk), ∃ (root : Int), (OwnP L ad cap Sx) ∧ (∀ o ∈ L, okO o) ∧ (insT t h k row = ⟨L.map PgO.p, root⟩) ∧ (L.length ≤ 10000) ∧ y__ = (⟨131, [(6, .v (.pointer (some ⟨b6, 0, none⟩))), (12, .v (.pointer (some ⟨b12, 0, none⟩)))], (⟨b12, 26, 2, [.v (.slice ad L.length cap), .v (.int .i64 root)]⟩ :: ⟨b6, 26, 2, [.v (.slice none 0 0), .v (.int .i64 0)]⟩ :: (Sx ++ L.flatMap bO))⟩ : St)) ?_ ?_
    ·skip
     refine sr_ ?_
     refine os_ mv_ ?_
     refine os_ ln_ ?_
     refine OD.still (wants_plain rfl) rfl (still_bin (r := .int .i64 ((h : Nat) : Int)) rfl ot opd_const (bin_sub (by rw [path_len, show (((h + 1 : Nat) : Int) - 1) = (h : Int) from by omega]; exact wrap_i64 (by omega) (by omega)))) ?_
     refine os_ mv_ ?_
     refine OD.wk (Wk.as_ (n := 131) (l' := [(6, _), (12, _), (13, _), (14, _), (15, _), (16, _)]) (S' := (⟨b12, 26, 2, [_, _]⟩ :: ⟨b6, 26, 2, [_, _]⟩ :: ⟨b3, 26, 2, [_, _]⟩ :: (Sx ++ (L.flatMap bO)))) rfl rfl ⟨lk, lk, lk, lk, lk, lk, trivial⟩) ?_
     refine OD.nil ?_
     refine CD.block ?_
     refine CD.wk (Wk.asS (n := 131) (l' := [(6, .v (.pointer (some ⟨b6, 0, none⟩))), (12, .v (.pointer (some ⟨b12, 0, none⟩))), (13, .list 1 ((pathF t k h t.root).flatMap cI) (pathF t k h t.root).length), (14, .list 1 (k.flatMap cB) k.length), (15, .v (.int .i64 row)), (16, .v (.int .i64 ((h : Int) - ((0) : Nat))))]) (S' := (⟨b12, 26, 2, [.v (.slice ad L.length cap), .v (.int .i64 t.root)]⟩ :: ⟨b6, 26, 2, [.v (.slice none 0 0), .v (.int .i64 0)]⟩ :: (Sx ++ L.flatMap bO))) rfl (by repeat (first | exact List.Sublist.refl _ | apply List.Sublist.cons_cons | apply List.Sublist.cons)) ⟨lq_, lq_, lq_, lq_, lq_, lq_, trivial⟩) (CD.loop (fun (gh__ : Nat × K × Int × List PgO × Option Addr × Nat × List Blk) y__ => match gh__ with | (m, up, kid, L, ad, cap, Sx) => (m ≤ h + 1) ∧ (pendF t k row h m = (⟨L.map PgO.p, t.root⟩, some (up, kid))) ∧ (OwnP L ad cap Sx) ∧ (∀ o ∈ L, okO o) ∧ y__ = (⟨131, [(6, .v (.pointer (some ⟨b6, 0, none⟩))), (12, .v (.pointer (some ⟨b12, 0, none⟩))), (13, .list 1 ((pathF t k h t.root).flatMap cI) (pathF t k h t.root).length), (14, .list 1 (up.flatMap cB) up.length), (15, .v (.int .i64 kid)), (16, .v (.int .i64 ((h : Int) - (m : Nat))))], (⟨b12, 26, 2, [.v (.slice ad L.length cap), .v (.int .i64 t.root)]⟩ :: ⟨b6, 26, 2, [.v (.slice none 0 0), .v (.int .i64 0)]⟩ :: (Sx ++ L.flatMap bO))⟩ : St)) (fun (gh__ : Nat × K × Int × List PgO × Option Addr × Nat × List Blk) => match gh__ with | (m, up, kid, L, ad, cap, Sx) => h + 1 - m) (0, k, row, L, ad, cap, Sx) ⟨(Nat.zero_le _), (by unfold pendF; rw [if_pos rfl, hL]), hox, hok, rfl⟩ ?_)
     rintro ⟨m, up, kid, L, ad, cap, Sx⟩ _ ⟨hm0, he, hox, hok, rfl⟩
     refine CD.seq ?_
     refine CD.block ?_
     refine CD.seq ?_
     refine sr_ ?_
     refine os_ mv_ ?_
     refine os_ bn_ ?_
     refine nm_ [6, 12, 13, 14, 15, 16, 52] ?_
     refine CD.cond ot (fun hc3 => ?_) (fun hc3 => ?_)
     ·have hc3' := hc3
      (try simp only [V.cnd, ne_eq] at hc3')
      obtain rfl : m = h + 1 := by omega
      obtain ⟨s1, s2, s3, s4⟩ := pend_size v hne hkl0 hrow (by omega) he
      have hLm : L.length ≤ t.pages.length + (h + 1) := by rw [← List.length_map (f := PgO.p)]; exact s2
      have hul := pend_up v hne hkl0 hrow (by omega) he
      refine sr_ ?_
      refine os_ (fa_ 0) ?_
      refine os_ (lb_ 0) ?_
      refine os_ mv_ ?_
      refine OD.bldS (pl := numD 0 [_]) (zvs := [.slice none 0 0]) (ds := [_]) (wants_plain rfl) rfl rfl Try.zeroValue31 Try.runUnderlying42 Try.sizeOf31 rfl rfl (by kernel_rfl) ⟨rfl, ot, trivial⟩ (by exact rfl) (fill_full (by exact rfl) (by exact rfl) (by exact rfl)) (fun b56 => ?_)
      refine os_ (fa_ 1) ?_
      refine os_ (lb_ 1) ?_
      refine os_ mv_ ?_
      refine OD.bldS (pl := numD 0 [_, _]) (zvs := [.int .i64 0, .int .i64 0]) (ds := [_, _]) (wants_plain rfl) rfl rfl Try.zeroValue3 Try.runUnderlying22 Try.sizeOf3 rfl rfl (by kernel_rfl) ⟨rfl, ot, rfl, ot, trivial⟩ (by exact rfl) (fill_full (by exact rfl) (by exact rfl) (by exact rfl)) (fun b60 => ?_)
      refine OD.still (wants_plain rfl) rfl (still_bld (pl := [(1, _), (2, _), (4, _)]) (ds := [_, _, _, _, _]) rfl Try.zeroValue44 Try.runUnderlying44 places44_Twf ⟨rfl, ot, rfl, ot, rfl, opd_const, trivial⟩ rfl rfl) ?_
      refine OD.bldS (pl := numD 0 [_]) (zvs := [.bool false, .slice none 0 0, .slice none 0 0, .slice none 0 0, .int .i64 0]) (ds := [_, _, _, _, _]) (wants_plain rfl) rfl rfl Try.zeroValue44 Try.runUnderlying24 Try.sizeOf44 rfl rfl (by kernel_rfl) ⟨rfl, ot, trivial⟩ (by exact rfl) (fill_full (by exact rfl) (by exact rfl) (by exact rfl)) (fun b62 => ?_)
      refine OD.cover0 (cs' := gO (⟨⟨false, [up], [t.root, kid], [], -1⟩, some ⟨b56, 0, none⟩, 1, [⟨b56, 31, 1 * 1, List.flatMap cK [up]⟩], some ⟨b60, 0, none⟩, 2, [⟨b60, 3, 2 * 1, List.flatMap cI [t.root, kid]⟩]⟩ : PgO)) rfl ⟨view_same, view_same, view_same, view_nil, view_same, trivial⟩ ?_
      refine OD.give (k := 0) (t := 62) (sz := 5) (m := 1) rfl lk rfl rfl rfl (Nat.le_refl _) (by decide) ?_
      refine OD.appendG (ls := L) (new := [(⟨⟨false, [up], [t.root, kid], [], -1⟩, some ⟨b56, 0, none⟩, 1, [⟨b56, 31, 1 * 1, List.flatMap cK [up]⟩], some ⟨b60, 0, none⟩, 2, [⟨b60, 3, 2 * 1, List.flatMap cI [t.root, kid]⟩]⟩ : PgO)]) (Sq := Sx) gO_len gO_one (wants_plain rfl) rfl rfl Try.underlying24 info44_Twf rfl (by decide) ot hox (perm_r12 (A := [_, _, _, _])) ot (by simp) (by simp only [maxLen, List.length_cons, List.length_nil] at *; omega) (by simp only [List.length_cons, List.length_nil] at *; omega) (fun b63 cp63 h163 h263 => ?_)
      refine os_ (fa_ 0) ?_
      refine OD.store (k := 3) (cs' := [_, _]) (wants_plain rfl) rfl rfl ot rfl rfl ot rfl rfl Try.sizeOf24 rfl rfl rfl ?_
      refine OD.wk (Wk.as_ (n := 131) (l' := [(6, _), (12, _)]) (S' := (_ :: _ :: _ :: ⟨b12, 26, 2, [_, _]⟩ :: ⟨b6, 26, 2, [_, _]⟩ :: (L.flatMap bO))) rfl rfl ⟨lk, lk, trivial⟩) ?_
      refine OD.nil ?_
      refine sr_ ?_
      refine os_ (fa_ 0) ?_
      refine os_ (lb_ 3) ?_
      refine os_ ln_ ?_
      refine OD.still (wants_plain rfl) rfl (still_bin (r := .int .i64 (L.length : Nat)) rfl ot opd_const (bin_sub (by rw [List.length_append, show (((L.length + [(⟨⟨false, [up], [t.root, kid], [], -1⟩, some ⟨b56, 0, none⟩, 1, [⟨b56, 31, 1 * 1, List.flatMap cK [up]⟩], some ⟨b60, 0, none⟩, 2, [⟨b60, 3, 2 * 1, List.flatMap cI [t.root, kid]⟩]⟩ : PgO)].length : Nat) : Int) - 1) = (L.length : Int) from by simp]; exact wrap_i64 (by omega) (by omega)))) ?_
      refine os_ (fa_ 1) ?_
      refine OD.store (k := 3) (cs' := [_, _]) (wants_plain rfl) rfl rfl ot rfl rfl ot rfl rfl Try.sizeOf3 rfl rfl rfl ?_
      have hX : ((⟨b60, 3, 2 * 1, List.flatMap cI [t.root, kid]⟩ : Blk) :: ⟨b56, 31, 1 * 1, List.flatMap cK [up]⟩ :: L.flatMap bO).Perm ((L ++ [(⟨⟨false, [up], [t.root, kid], [], -1⟩, some ⟨b56, 0, none⟩, 1, [⟨b56, 31, 1 * 1, List.flatMap cK [up]⟩], some ⟨b60, 0, none⟩, 2, [⟨b60, 3, 2 * 1, List.flatMap cI [t.root, kid]⟩]⟩ : PgO)]).flatMap bO) := by rw [bO_snoc]; exact (List.Perm.swap _ _ _).trans (List.perm_append_comm (l₁ := [_, _]))
      refine OD.perm (S' := ⟨b12, 26, 2, [.v (.slice (some ⟨b63, 0, none⟩) (L ++ [(⟨⟨false, [up], [t.root, kid], [], -1⟩, some ⟨b56, 0, none⟩, 1, [⟨b56, 31, 1 * 1, List.flatMap cK [up]⟩], some ⟨b60, 0, none⟩, 2, [⟨b60, 3, 2 * 1, List.flatMap cI [t.root, kid]⟩]⟩ : PgO)]).length cp63), .v (.int .i64 (L.length : Nat))]⟩ :: ⟨b6, 26, 2, [.v (.slice none 0 0), .v (.int .i64 0)]⟩ :: (([⟨b63, 44, cp63 * 5, List.flatMap gO (L ++ [(⟨⟨false, [up], [t.root, kid], [], -1⟩, some ⟨b56, 0, none⟩, 1, [⟨b56, 31, 1 * 1, List.flatMap cK [up]⟩], some ⟨b60, 0, none⟩, 2, [⟨b60, 3, 2 * 1, List.flatMap cI [t.root, kid]⟩]⟩ : PgO)])⟩] : List Blk) ++ (L ++ [(⟨⟨false, [up], [t.root, kid], [], -1⟩, some ⟨b56, 0, none⟩, 1, [⟨b56, 31, 1 * 1, List.flatMap cK [up]⟩], some ⟨b60, 0, none⟩, 2, [⟨b60, 3, 2 * 1, List.flatMap cI [t.root, kid]⟩]⟩ : PgO)]).flatMap bO)) (by exact (List.perm_middle (l₁ := [_, _, _])).trans (List.Perm.cons _ ((List.perm_middle (l₁ := [_, _, _])).trans (List.Perm.cons _ (List.Perm.cons _ hX))))) ?_
      refine OD.wk (Wk.as_ (n := 131) (l' := [(6, _), (12, _)]) (S' := (⟨b12, 26, 2, [_, _]⟩ :: ⟨b6, 26, 2, [_, _]⟩ :: ([⟨b63, 44, cp63 * 5, List.flatMap gO (L ++ [(⟨⟨false, [up], [t.root, kid], [], -1⟩, some ⟨b56, 0, none⟩, 1, [⟨b56, 31, 1 * 1, List.flatMap cK [up]⟩], some ⟨b60, 0, none⟩, 2, [⟨b60, 3, 2 * 1, List.flatMap cI [t.root, kid]⟩]⟩ : PgO)])⟩] ++ ((L ++ [(⟨⟨false, [up], [t.root, kid], [], -1⟩, some ⟨b56, 0, none⟩, 1, [⟨b56, 31, 1 * 1, List.flatMap cK [up]⟩], some ⟨b60, 0, none⟩, 2, [⟨b60, 3, 2 * 1, List.flatMap cI [t.root, kid]⟩]⟩ : PgO)]).flatMap bO)))) rfl rfl ⟨lk, lk, trivial⟩) ?_
      refine OD.nil ?_
      refine CD.exit ?_
      refine ⟨(⟨131, [(6, .v (.pointer (some ⟨b6, 0, none⟩))), (12, .v (.pointer (some ⟨b12, 0, none⟩)))], (⟨b12, 26, 2, [.v (.slice ((some ⟨b63, 0, none⟩)) ((L ++ [(⟨⟨false, [up], [t.root, kid], [], -1⟩, some ⟨b56, 0, none⟩, 1, [⟨b56, 31, 1 * 1, List.flatMap cK [up]⟩], some ⟨b60, 0, none⟩, 2, [⟨b60, 3, 2 * 1, List.flatMap cI [t.root, kid]⟩]⟩ : PgO)])).length (cp63)), .v (.int .i64 ((L.length : Nat)))]⟩ :: ⟨b6, 26, 2, [.v (.slice none 0 0), .v (.int .i64 0)]⟩ :: (([⟨b63, 44, cp63 * 5, List.flatMap gO (L ++ [(⟨⟨false, [up], [t.root, kid], [], -1⟩, some ⟨b56, 0, none⟩, 1, [⟨b56, 31, 1 * 1, List.flatMap cK [up]⟩], some ⟨b60, 0, none⟩, 2, [⟨b60, 3, 2 * 1, List.flatMap cI [t.root, kid]⟩]⟩ : PgO)])⟩]) ++ ((L ++ [(⟨⟨false, [up], [t.root, kid], [], -1⟩, some ⟨b56, 0, none⟩, 1, [⟨b56, 31, 1 * 1, List.flatMap cK [up]⟩], some ⟨b60, 0, none⟩, 2, [⟨b60, 3, 2 * 1, List.flatMap cI [t.root, kid]⟩]⟩ : PgO)])).flatMap bO))⟩ : St), Wk.asS (n := 131) rfl (by repeat (first | exact List.Sublist.refl _ | apply List.Sublist.cons_cons | apply List.Sublist.cons)) ⟨lq_, lq_, trivial⟩, (L ++ [(⟨⟨false, [up], [t.root, kid], [], -1⟩, some ⟨b56, 0, none⟩, 1, [⟨b56, 31, 1 * 1, List.flatMap cK [up]⟩], some ⟨b60, 0, none⟩, 2, [⟨b60, 3, 2 * 1, List.flatMap cI [t.root, kid]⟩]⟩ : PgO)]), (some ⟨b63, 0, none⟩), cp63, [⟨b63, 44, cp63 * 5, List.flatMap gO (L ++ [(⟨⟨false, [up], [t.root, kid], [], -1⟩, some ⟨b56, 0, none⟩, 1, [⟨b56, 31, 1 * 1, List.flatMap cK [up]⟩], some ⟨b60, 0, none⟩, 2, [⟨b60, 3, 2 * 1, List.flatMap cI [t.root, kid]⟩]⟩ : PgO)])⟩], (L.length : Nat), (ownL_row h163 h263), (fun o ho => by rcases List.mem_append.1 ho with ho | ho; exact hok o ho; rw [List.mem_singleton] at ho; subst ho; exact ⟨ownL_row (Nat.le_refl _) (show 1 ≤ maxLen by decide), ownL_row (Nat.le_refl _) (show 2 ≤ maxLen by decide)⟩), (by rw [root_ins he rfl]; show (⟨List.map PgO.p L ++ [_], ((List.map PgO.p L).length : Int)⟩ : TreeL) = _; rw [List.map_append, List.length_map]; rfl), (by rw [List.length_append]; simp; omega), rfl⟩
     ·have hc3' := hc3
      (try simp only [V.cnd, ne_eq] at hc3')
      have hm : m ≤ h := by omega
      have hP := pend_ok v hne hkl0 hrow hm he
      obtain ⟨s1, s2, s3, s4⟩ := pend_size v hne hkl0 hrow (by omega) he
      have hLm : L.length ≤ t.pages.length + m := by rw [← List.length_map (f := PgO.p)]; exact s2
      have hrg : 0 ≤ (nodeF t k h t.root m) ∧ (nodeF t k h t.root m) < L.length := by have := hP.rg; rw [← List.length_map (f := PgO.p)]; exact this
      have hj : (nodeF t k h t.root m).toNat < L.length := by omega
      have hpj : L[(nodeF t k h t.root m).toNat].p = (⟨L.map PgO.p, t.root⟩ : TreeL).pg (nodeF t k h t.root m) := map_pg (t := (⟨L.map PgO.p, t.root⟩ : TreeL)) rfl hP.rg hj
      have po : PageOk ((⟨L.map PgO.p, t.root⟩ : TreeL).pg (nodeF t k h t.root m)) (⟨L.map PgO.p, t.root⟩ : TreeL).pages.length := s4 _ (pg_mem hP.rg)
      have full := put_full po hP.out hP.len hP.high hP.nn hP.nnl
      obtain ⟨bx, rfl, hxl, hxc, rfl⟩ := hox.pos (by omega)
      have hoj := hok _ (List.getElem_mem hj)
      obtain ⟨o, ho⟩ : ∃ o, o = L[(nodeF t k h t.root m).toNat] := ⟨_, rfl⟩
      rw [← ho] at hoj hpj
      rcases o with ⟨p, ak, ck, sk, ai, ci, si⟩
      have hpe : p = (⟨L.map PgO.p, t.root⟩ : TreeL).pg (nodeF t k h t.root m) := hpj
      obtain ⟨hk1, hi1⟩ : OwnKs p.keys ak ck sk ∧ OwnI p.kids ai ci si := hoj
      rw [← hpe] at po full
      have hfew := po.few
      have hpl := place_le po up
      have hul := hP.len.2
      have hkids : (if p.leaf = true then placeF p up else placeF p up + 1) ≤ p.kids.length ∧ p.kids.length ≤ 5 := by cases hlf : p.leaf; (have := (po.node hlf).1; rw [if_neg (by decide)]; omega); (have := po.leaf hlf; rw [if_pos rfl]; omega)
      have hW : h - m < (pathF t k h t.root).length := by rw [path_len]; omega
      have hWn : (pathF t k h t.root)[h - m] = (nodeF t k h t.root m) := by have := path_node (t := t) (k := k) (h := h) (i := t.root) hm; exact (List.getElem?_eq_some_iff.1 this).2
      have hhigh := v.high
      have hmost := v.most
      have hperm : (L.flatMap bO).Perm (sk ++ (si ++ ((L.eraseIdx (nodeF t k h t.root m).toNat).flatMap bO))) := by have := perm_at bO hj; rw [← ho] at this; exact this.trans (by rw [show bO ⟨p, ak, ck, sk, ai, ci, si⟩ = sk ++ si from rfl, List.append_assoc])
      refine CD.perm (S' := ⟨b12, 26, 2, [.v (.slice (some ⟨bx, 0, none⟩) L.length cap), .v (.int .i64 t.root)]⟩ :: ⟨b6, 26, 2, [.v (.slice none 0 0), .v (.int .i64 0)]⟩ :: ⟨bx, 44, cap * 5, List.flatMap gO L⟩ :: (sk ++ (si ++ ((L.eraseIdx (nodeF t k h t.root m).toNat).flatMap bO)))) (List.Perm.cons _ (List.Perm.cons _ (List.Perm.cons _ hperm))) ?_
      refine CD.skip ?_
      refine CD.seq ?_
      refine CD.draw (bks _) (by kernel_rfl) (fun _ h => h) ?_
      refine a0_ 0 rfl (fa_ 0) ?_
      refine a0_ 1 rfl (lb_ 0) ?_
      refine a0_ 2 rfl mv_ ?_
      refine a0_ 3 rfl mv_ ?_
      refine a0_ 4 rfl (ix_ 1 (h := by first | exact .l (j := h - m) (by omega) hW | exact .r (j := h - m) (by omega) hW)) ?_
      refine a0_ 5 rfl (still_r1 (mk := Op.load 3) rfl ot (ld_fm0 (d := .v (.int .i64 (nodeF t k h t.root m))) (i := h - m) cI_len Try.isAgg3 hW (by rw [hWn]; rfl))) ?_
      refine a0_ 6 rfl (ix_ 5 (h := by first | exact .l (j := (nodeF t k h t.root m).toNat) (Int.toNat_of_nonneg hrg.1).symm hj | exact .r (j := (nodeF t k h t.root m).toNat) (Int.toNat_of_nonneg hrg.1).symm hj)) ?_
      refine a0_ 7 rfl mv_ ?_
      refine AD0.later rfl ?_
      refine AD.wk (y := ⟨131, [(6, _), (12, _), (13, _), (14, _), (15, _), (16, _), (17, _)], (⟨b12, 26, 2, [_, _]⟩ :: ⟨b6, 26, 2, [_, _]⟩ :: _ :: (sk ++ (si ++ ((L.eraseIdx (nodeF t k h t.root m).toNat).flatMap bO))))⟩) (Wk.as_ rfl rfl ⟨lk, lk, lk, lk, lk, lk, lk, trivial⟩) rfl ?_
      refine AD.done (by kernel_rfl) ?_
      refine sr_ ?_
      refine os_ mv_ ?_
      refine os_ nc_ ?_
      refine OD.still (wants_plain rfl) rfl (still_r1 (mk := Op.load 44) rfl ot (ld_rows (k := 2) (ls := L) (i := (nodeF t k h t.root m).toNat) gO_len rfl rfl rfl Try.isAgg44 Try.sizeOf44 hj)) ?_
      refine os_ mv_ ?_
      refine OD.look (wants_plain rfl) rfl rfl rfl Try.call27 (place_vp p up po.rise (by omega)) rfl ⟨⟨_, ot, (by rw [← ho]; exact view_agg ⟨view_same, view_own hk1 (fm_len cK_len _) (fun B hB => .tail _ (.tail _ (.tail _ (List.mem_append_left _ hB)))), view_own hi1 (fm_len cI_len _) (fun B hB => .tail _ (.tail _ (.tail _ (List.mem_append_right _ (List.mem_append_left _ hB))))), view_same, view_same, trivial⟩)⟩, ⟨_, ot, view_same⟩, trivial⟩ ?_
      refine os_ mv_ ?_
      refine OD.wk (Wk.as_ (n := 131) (l' := [(6, _), (12, _), (13, _), (14, _), (15, _), (16, _), (17, _), (18, _)]) (S' := (⟨b12, 26, 2, [_, _]⟩ :: ⟨b6, 26, 2, [_, _]⟩ :: _ :: (sk ++ (si ++ ((L.eraseIdx (nodeF t k h t.root m).toNat).flatMap bO))))) rfl rfl ⟨lk, lk, lk, lk, lk, lk, lk, lk, trivial⟩) ?_
      refine OD.nil ?_
      refine sr_ ?_
      refine os_ mv_ ?_
      refine os_ mv_ ?_
      refine os_ nc_ ?_
      refine os_ (fa_ 1) ?_
      refine OD.still (wants_plain rfl) rfl (still_r1 (mk := Op.load 42) rfl ot (ld_row (k := 2) (j := 1) (d := .v (.slice ak p.keys.length ck)) (ls := L) gO_len rfl rfl rfl Try.isAgg42 hj (by rw [← ho]; rfl))) ?_
      refine os_ mv_ ?_
      refine os_ mv_ ?_
      refine OD.bldS (pl := numD 0 [_]) (zvs := [.slice none 0 0]) (ds := [_]) (wants_plain rfl) rfl rfl Try.zeroValue31 Try.runUnderlying42 Try.sizeOf31 rfl rfl (by kernel_rfl) ⟨rfl, ot, trivial⟩ (by exact rfl) (fill_full (by exact rfl) (by exact rfl) (by exact rfl)) (fun b89 => ?_)
      refine OD.call (wants_plain rfl) rfl rfl rfl Try.call28 (insertK_vw p.keys (placeF p up) up ak ck sk b89 hpl (by omega) hk1) ⟨ot, ot, ot, trivial⟩ (List.Perm.cons _ (perm_r12 (A := [_, _, _]))) ?_
      rintro _ Sk2 ⟨ak2, ck2, rfl, hk2⟩
      refine OD.perm (perm_q12 (A := [_, _, _])) ?_
      refine os_ nc_ ?_
      refine os_ (fa_ 1) ?_
      refine OD.storeAt (k := 2) (cs' := List.flatMap gO (L.set (nodeF t k h t.root m).toNat (⟨{ p with keys := insF p.keys (placeF p up) up }, ak2, ck2, Sk2, ai, ci, si⟩ : PgO))) (wants_plain rfl) rfl rfl ot rfl rfl ot rfl rfl Try.sizeOf42 rfl (by show 0 + (nodeF t k h t.root m).toNat * 5 + 1 + 1 ≤ (List.flatMap gO L).length; rw [fm_len gO_len]; omega) (by show (L.flatMap gO).set (0 + (nodeF t k h t.root m).toNat * 5 + 1) _ = _; rw [Nat.zero_add]; exact fm_cellset gO_len (by decide) hj (by rw [← ho]; unfold gO; rw [insF_len hpl]; rfl)) ?_
      refine OD.wk (Wk.as_ (n := 131) (l' := [(6, _), (12, _), (13, _), (15, _), (16, _), (17, _), (18, _)]) (S' := (⟨b12, 26, 2, [_, _]⟩ :: ⟨b6, 26, 2, [_, _]⟩ :: _ :: (Sk2 ++ (si ++ ((L.eraseIdx (nodeF t k h t.root m).toNat).flatMap bO))))) rfl rfl ⟨lk, lk, lk, lk, lk, lk, lk, trivial⟩) ?_
      refine OD.nil ?_
      refine CD.cut (fun y__ => y__ = (⟨131, [(6, .v (.pointer (some ⟨b6, 0, none⟩))), (12, .v (.pointer (some ⟨b12, 0, none⟩))), (13, .list 1 ((pathF t k h t.root).flatMap cI) (pathF t k h t.root).length), (15, .v (.int .i64 kid)), (16, .v (.int .i64 ((h : Int) - (m : Nat)))), (17, .v (.pointer (some ⟨bx, 0 + (nodeF t k h t.root m).toNat * 5, none⟩))), (18, .v (.int .i64 (((if p.leaf = true then placeF p up else placeF p up + 1) : Nat) : Int)))], (⟨b12, 26, 2, [.v (.slice (some ⟨bx, 0, none⟩) L.length cap), .v (.int .i64 t.root)]⟩ :: ⟨b6, 26, 2, [.v (.slice none 0 0), .v (.int .i64 0)]⟩ :: ⟨bx, 44, cap * 5, List.flatMap gO (L.set (nodeF t k h t.root m).toNat (⟨{ p with keys := insF p.keys (placeF p up) up }, ak2, ck2, Sk2, ai, ci, si⟩ : PgO))⟩ :: (Sk2 ++ (si ++ ((L.eraseIdx (nodeF t k h t.root m).toNat).flatMap bO))))⟩ : St)) ?_ ?_
      ·skip
       refine sr_ ?_
       refine os_ mv_ ?_
       refine os_ nc_ ?_
       refine os_ (fa_ 0) ?_
       refine OD.still (wants_plain rfl) rfl (still_r1 (mk := Op.load 4) rfl ot (ld_row (k := 2) (j := 0) (d := .v (.bool p.leaf)) (ls := (L.set (nodeF t k h t.root m).toNat (⟨{ p with keys := insF p.keys (placeF p up) up }, ak2, ck2, Sk2, ai, ci, si⟩ : PgO))) gO_len rfl rfl rfl Try.isAgg4 (by rw [List.length_set]; exact hj) (by rw [List.getElem_set_self]; rfl))) ?_
       refine os_ un_ ?_
       refine OD.wk (Wk.as_ (n := 131) (l' := [(6, _), (12, _), (13, _), (15, _), (16, _), (17, _), (18, _), (97, _)]) (S' := (⟨b12, 26, 2, [_, _]⟩ :: ⟨b6, 26, 2, [_, _]⟩ :: _ :: (Sk2 ++ (si ++ ((L.eraseIdx (nodeF t k h t.root m).toNat).flatMap bO))))) rfl rfl ⟨lk, lk, lk, lk, lk, lk, lk, lk, trivial⟩) ?_
       refine OD.nil ?_
       refine CD.cond ot (fun hc4 => ?_) (fun hc4 => ?_)
       ·have hc4' := hc4
        (try simp only [V.cnd, ne_eq] at hc4')
        have hka : (((if p.leaf = true then placeF p up else placeF p up + 1) : Nat) : Int) = (((placeF p up) : Nat) : Int) + 1 := by rw [if_neg (by simpa using hc4)]; rfl
        refine CD.region ?_
        refine os_ mv_ ?_
        refine os_ bn_ ?_
        refine os_ mv_ ?_
        refine nm_ [6, 12, 13, 15, 16, 17, 18] ?_
        refine ⟨(⟨131, [(6, .v (.pointer (some ⟨b6, 0, none⟩))), (12, .v (.pointer (some ⟨b12, 0, none⟩))), (13, .list 1 ((pathF t k h t.root).flatMap cI) (pathF t k h t.root).length), (15, .v (.int .i64 kid)), (16, .v (.int .i64 ((h : Int) - (m : Nat)))), (17, .v (.pointer (some ⟨bx, 0 + (nodeF t k h t.root m).toNat * 5, none⟩))), (18, .v (.int .i64 (((if p.leaf = true then placeF p up else placeF p up + 1) : Nat) : Int)))], (⟨b12, 26, 2, [.v (.slice (some ⟨bx, 0, none⟩) L.length cap), .v (.int .i64 t.root)]⟩ :: ⟨b6, 26, 2, [.v (.slice none 0 0), .v (.int .i64 0)]⟩ :: ⟨bx, 44, cap * 5, List.flatMap gO (L.set (nodeF t k h t.root m).toNat (⟨{ p with keys := insF p.keys (placeF p up) up }, ak2, ck2, Sk2, ai, ci, si⟩ : PgO))⟩ :: (Sk2 ++ (si ++ ((L.eraseIdx (nodeF t k h t.root m).toNat).flatMap bO))))⟩ : St), Wk.asS (n := 131) rfl (by repeat (first | exact List.Sublist.refl _ | apply List.Sublist.cons_cons | apply List.Sublist.cons)) ⟨(by (repeat (first | exact look_hit | (apply look_at; focus (first | rfl | (rw [hka]; done) | (simp; done))) | (apply look_miss; focus rfl))); done), (by (repeat (first | exact look_hit | (apply look_at; focus (first | rfl | (rw [hka]; done) | (simp; done))) | (apply look_miss; focus rfl))); done), (by (repeat (first | exact look_hit | (apply look_at; focus (first | rfl | (rw [hka]; done) | (simp; done))) | (apply look_miss; focus rfl))); done), (by (repeat (first | exact look_hit | (apply look_at; focus (first | rfl | (rw [hka]; done) | (simp; done))) | (apply look_miss; focus rfl))); done), (by (repeat (first | exact look_hit | (apply look_at; focus (first | rfl | (rw [hka]; done) | (simp; done))) | (apply look_miss; focus rfl))); done), (by (repeat (first | exact look_hit | (apply look_at; focus (first | rfl | (rw [hka]; done) | (simp; done))) | (apply look_miss; focus rfl))); done), (by (repeat (first | exact look_hit | (apply look_at; focus (first | rfl | (rw [hka]; done) | (simp; done))) | (apply look_miss; focus rfl))); done), trivial⟩, rfl⟩
       ·have hc4' := hc4
        (try simp only [V.cnd, ne_eq] at hc4')
        have hka : (((if p.leaf = true then placeF p up else placeF p up + 1) : Nat) : Int) = (((placeF p up) : Nat) : Int) := by rw [if_pos (by simpa using hc4)]
        refine CD.skip ?_
        refine ⟨(⟨131, [(6, .v (.pointer (some ⟨b6, 0, none⟩))), (12, .v (.pointer (some ⟨b12, 0, none⟩))), (13, .list 1 ((pathF t k h t.root).flatMap cI) (pathF t k h t.root).length), (15, .v (.int .i64 kid)), (16, .v (.int .i64 ((h : Int) - (m : Nat)))), (17, .v (.pointer (some ⟨bx, 0 + (nodeF t k h t.root m).toNat * 5, none⟩))), (18, .v (.int .i64 (((if p.leaf = true then placeF p up else placeF p up + 1) : Nat) : Int)))], (⟨b12, 26, 2, [.v (.slice (some ⟨bx, 0, none⟩) L.length cap), .v (.int .i64 t.root)]⟩ :: ⟨b6, 26, 2, [.v (.slice none 0 0), .v (.int .i64 0)]⟩ :: ⟨bx, 44, cap * 5, List.flatMap gO (L.set (nodeF t k h t.root m).toNat (⟨{ p with keys := insF p.keys (placeF p up) up }, ak2, ck2, Sk2, ai, ci, si⟩ : PgO))⟩ :: (Sk2 ++ (si ++ ((L.eraseIdx (nodeF t k h t.root m).toNat).flatMap bO))))⟩ : St), Wk.asS (n := 131) rfl (by repeat (first | exact List.Sublist.refl _ | apply List.Sublist.cons_cons | apply List.Sublist.cons)) ⟨(by (repeat (first | exact look_hit | (apply look_at; focus (first | rfl | (rw [hka]; done) | (simp; done))) | (apply look_miss; focus rfl))); done), (by (repeat (first | exact look_hit | (apply look_at; focus (first | rfl | (rw [hka]; done) | (simp; done))) | (apply look_miss; focus rfl))); done), (by (repeat (first | exact look_hit | (apply look_at; focus (first | rfl | (rw [hka]; done) | (simp; done))) | (apply look_miss; focus rfl))); done), (by (repeat (first | exact look_hit | (apply look_at; focus (first | rfl | (rw [hka]; done) | (simp; done))) | (apply look_miss; focus rfl))); done), (by (repeat (first | exact look_hit | (apply look_at; focus (first | rfl | (rw [hka]; done) | (simp; done))) | (apply look_miss; focus rfl))); done), (by (repeat (first | exact look_hit | (apply look_at; focus (first | rfl | (rw [hka]; done) | (simp; done))) | (apply look_miss; focus rfl))); done), (by (repeat (first | exact look_hit | (apply look_at; focus (first | rfl | (rw [hka]; done) | (simp; done))) | (apply look_miss; focus rfl))); done), trivial⟩, rfl⟩
      rintro _ ⟨rfl⟩
      refine sr_ ?_
      refine os_ mv_ ?_
      refine os_ mv_ ?_
      refine os_ nc_ ?_
      refine os_ (fa_ 2) ?_
      refine OD.still (wants_plain rfl) rfl (still_r1 (mk := Op.load 22) rfl ot (ld_row (k := 2) (j := 2) (d := .v (.slice ai p.kids.length ci)) (ls := (L.set (nodeF t k h t.root m).toNat (⟨{ p with keys := insF p.keys (placeF p up) up }, ak2, ck2, Sk2, ai, ci, si⟩ : PgO))) gO_len rfl rfl rfl Try.isAgg22 (by rw [List.length_set]; exact hj) (by rw [List.getElem_set_self]; rfl))) ?_
      refine os_ mv_ ?_
      refine os_ mv_ ?_
      refine OD.bldS (pl := numD 0 [_]) (zvs := [.int .i64 0]) (ds := [_]) (wants_plain rfl) rfl rfl Try.zeroValue3 Try.runUnderlying22 Try.sizeOf3 rfl rfl (by kernel_rfl) ⟨rfl, ot, trivial⟩ (by exact rfl) (fill_full (by exact rfl) (by exact rfl) (by exact rfl)) (fun b107 => ?_)
      refine OD.call (wants_plain rfl) rfl rfl rfl Try.call29 (insertI_vw p.kids (if p.leaf = true then placeF p up else placeF p up + 1) kid ai ci si b107 hkids.1 (by omega) hi1) ⟨ot, ot, ot, trivial⟩ (List.Perm.cons _ (perm_r23 (A := [_, _, _]))) ?_
      rintro _ Si2 ⟨ai2, ci2, rfl, hi2⟩
      refine OD.perm (perm_q23 (A := [_, _, _])) ?_
      refine os_ nc_ ?_
      refine os_ (fa_ 2) ?_
      refine OD.storeAt (k := 2) (cs' := List.flatMap gO (L.set (nodeF t k h t.root m).toNat (⟨(putP p up kid), ak2, ck2, Sk2, ai2, ci2, Si2⟩ : PgO))) (wants_plain rfl) rfl rfl ot rfl rfl ot rfl rfl Try.sizeOf22 rfl (by show 0 + (nodeF t k h t.root m).toNat * 5 + 2 + 1 ≤ (List.flatMap gO (L.set (nodeF t k h t.root m).toNat (⟨{ p with keys := insF p.keys (placeF p up) up }, ak2, ck2, Sk2, ai, ci, si⟩ : PgO))).length; rw [fm_len gO_len, List.length_set]; omega) (by show (List.flatMap gO (L.set (nodeF t k h t.root m).toNat (⟨{ p with keys := insF p.keys (placeF p up) up }, ak2, ck2, Sk2, ai, ci, si⟩ : PgO))).set (0 + (nodeF t k h t.root m).toNat * 5 + 2) _ = _; rw [Nat.zero_add, fm_cellset gO_len (a' := (⟨(putP p up kid), ak2, ck2, Sk2, ai2, ci2, Si2⟩ : PgO)) (by decide) (by rw [List.length_set]; exact hj) (by rw [List.getElem_set_self]; show gO (⟨(putP p up kid), ak2, ck2, Sk2, ai2, ci2, Si2⟩ : PgO) = (gO (⟨{ p with keys := insF p.keys (placeF p up) up }, ak2, ck2, Sk2, ai, ci, si⟩ : PgO)).set 2 _; unfold gO; rw [show ((⟨(putP p up kid), ak2, ck2, Sk2, ai2, ci2, Si2⟩ : PgO)).p.kids.length = p.kids.length + 1 from insF_len hkids.1]; rfl), List.set_set]) ?_
      have hpm : (Sk2 ++ (Si2 ++ ((L.eraseIdx (nodeF t k h t.root m).toNat).flatMap bO))).Perm ((L.set (nodeF t k h t.root m).toNat (⟨(putP p up kid), ak2, ck2, Sk2, ai2, ci2, Si2⟩ : PgO)).flatMap bO) := by have := (perm_put bO hj (⟨(putP p up kid), ak2, ck2, Sk2, ai2, ci2, Si2⟩ : PgO)).symm; rw [show bO (⟨(putP p up kid), ak2, ck2, Sk2, ai2, ci2, Si2⟩ : PgO) = Sk2 ++ Si2 from rfl, List.append_assoc] at this; exact this
      refine OD.perm (S' := ⟨b12, 26, 2, [.v (.slice (some ⟨bx, 0, none⟩) (L.set (nodeF t k h t.root m).toNat (⟨(putP p up kid), ak2, ck2, Sk2, ai2, ci2, Si2⟩ : PgO)).length cap), .v (.int .i64 t.root)]⟩ :: ⟨b6, 26, 2, [.v (.slice none 0 0), .v (.int .i64 0)]⟩ :: (([⟨bx, 44, cap * 5, List.flatMap gO (L.set (nodeF t k h t.root m).toNat (⟨(putP p up kid), ak2, ck2, Sk2, ai2, ci2, Si2⟩ : PgO))⟩] : List Blk) ++ (L.set (nodeF t k h t.root m).toNat (⟨(putP p up kid), ak2, ck2, Sk2, ai2, ci2, Si2⟩ : PgO)).flatMap bO)) (by rw [List.length_set]; exact List.Perm.cons _ (List.Perm.cons _ (List.Perm.cons _ hpm))) ?_
      have hox2 : OwnP (L.set (nodeF t k h t.root m).toNat (⟨(putP p up kid), ak2, ck2, Sk2, ai2, ci2, Si2⟩ : PgO)) (some ⟨bx, 0, none⟩) cap [⟨bx, 44, cap * 5, List.flatMap gO (L.set (nodeF t k h t.root m).toNat (⟨(putP p up kid), ak2, ck2, Sk2, ai2, ci2, Si2⟩ : PgO))⟩] := ownL_row (by rw [List.length_set]; exact hxl) hxc
      have hok2 : ∀ o ∈ (L.set (nodeF t k h t.root m).toNat (⟨(putP p up kid), ak2, ck2, Sk2, ai2, ci2, Si2⟩ : PgO)), okO o := fun x hx => by rcases List.mem_or_eq_of_mem_set hx with hx | rfl; exact hok x hx; exact ⟨hk2, hi2⟩
      refine OD.wk (Wk.as_ (n := 131) (l' := [(6, _), (12, _), (13, _), (16, _), (17, _)]) (S' := (⟨b12, 26, 2, [_, _]⟩ :: ⟨b6, 26, 2, [_, _]⟩ :: ([⟨bx, 44, cap * 5, List.flatMap gO (L.set (nodeF t k h t.root m).toNat (⟨(putP p up kid), ak2, ck2, Sk2, ai2, ci2, Si2⟩ : PgO))⟩] ++ ((L.set (nodeF t k h t.root m).toNat (⟨(putP p up kid), ak2, ck2, Sk2, ai2, ci2, Si2⟩ : PgO)).flatMap bO)))) rfl rfl ⟨lk, lk, lk, lk, lk, trivial⟩) ?_
      refine OD.nil ?_
      refine CD.seq ?_
      refine sr_ ?_
      refine os_ mv_ ?_
      refine os_ nc_ ?_
      refine os_ (fa_ 1) ?_
      refine OD.still (wants_plain rfl) rfl (still_r1 (mk := Op.load 42) rfl ot (ld_row (k := 2) (j := 1) (d := .v (.slice ak2 (putP p up kid).keys.length ck2)) (ls := (L.set (nodeF t k h t.root m).toNat (⟨(putP p up kid), ak2, ck2, Sk2, ai2, ci2, Si2⟩ : PgO))) gO_len rfl rfl rfl Try.isAgg42 (by rw [List.length_set]; exact hj) (by rw [List.getElem_set_self]; rfl))) ?_
      refine os_ ln_ ?_
      refine os_ bn_ ?_
      refine OD.wk (Wk.as_ (n := 131) (l' := [(6, _), (12, _), (13, _), (16, _), (116, _)]) (S' := (⟨b12, 26, 2, [_, _]⟩ :: ⟨b6, 26, 2, [_, _]⟩ :: ([⟨bx, 44, cap * 5, List.flatMap gO (L.set (nodeF t k h t.root m).toNat (⟨(putP p up kid), ak2, ck2, Sk2, ai2, ci2, Si2⟩ : PgO))⟩] ++ ((L.set (nodeF t k h t.root m).toNat (⟨(putP p up kid), ak2, ck2, Sk2, ai2, ci2, Si2⟩ : PgO)).flatMap bO)))) rfl rfl ⟨lk, lk, lk, lk, lk, trivial⟩) ?_
      refine OD.nil ?_
      refine CD.cond ot (fun hc5 => ?_) (fun hc5 => ?_)
      ·have hc5' := hc5
       (try simp only [V.cnd, ne_eq] at hc5')
       have h4 : (putP p up kid).keys.length ≤ 4 := by have := of_decide_eq_true hc5; omega
       refine CD.exit ?_
       refine ⟨(⟨131, [(6, .v (.pointer (some ⟨b6, 0, none⟩))), (12, .v (.pointer (some ⟨b12, 0, none⟩)))], (⟨b12, 26, 2, [.v (.slice ((some ⟨bx, 0, none⟩)) ((L.set (nodeF t k h t.root m).toNat (⟨(putP p up kid), ak2, ck2, Sk2, ai2, ci2, Si2⟩ : PgO))).length (cap)), .v (.int .i64 (t.root))]⟩ :: ⟨b6, 26, 2, [.v (.slice none 0 0), .v (.int .i64 0)]⟩ :: (([⟨bx, 44, cap * 5, List.flatMap gO (L.set (nodeF t k h t.root m).toNat (⟨(putP p up kid), ak2, ck2, Sk2, ai2, ci2, Si2⟩ : PgO))⟩]) ++ ((L.set (nodeF t k h t.root m).toNat (⟨(putP p up kid), ak2, ck2, Sk2, ai2, ci2, Si2⟩ : PgO))).flatMap bO))⟩ : St), Wk.asS (n := 131) rfl (by repeat (first | exact List.Sublist.refl _ | apply List.Sublist.cons_cons | apply List.Sublist.cons)) ⟨lq_, lq_, trivial⟩, (L.set (nodeF t k h t.root m).toNat (⟨(putP p up kid), ak2, ck2, Sk2, ai2, ci2, Si2⟩ : PgO)), (some ⟨bx, 0, none⟩), cap, [⟨bx, 44, cap * 5, List.flatMap gO (L.set (nodeF t k h t.root m).toNat (⟨(putP p up kid), ak2, ck2, Sk2, ai2, ci2, Si2⟩ : PgO))⟩], t.root, hox2, hok2, (by rw [few_ins hm he (by rw [← hpe]; exact h4), ← hpe, List.map_set]; rfl), (by rw [List.length_set]; omega), rfl⟩
      ·have hc5' := hc5
       (try simp only [V.cnd, ne_eq] at hc5')
       have h4 : ¬ (putP p up kid).keys.length ≤ 4 := by have := of_decide_eq_false hc5; omega
       have h5 : (putP p up kid).keys.length = 5 := by have := full.few; omega
       refine CD.skip ?_
       refine CD.region ?_
       refine os_ mv_ ?_
       refine os_ mv_ ?_
       refine os_ (ix_ 1 (h := by first | exact .l (j := h - m) (by omega) hW | exact .r (j := h - m) (by omega) hW)) ?_
       refine OD.still (wants_plain rfl) rfl (still_r1 (mk := Op.load 3) rfl ot (ld_fm0 (d := .v (.int .i64 (nodeF t k h t.root m))) (i := h - m) cI_len Try.isAgg3 hW (by rw [hWn]; rfl))) ?_
       have hll : (L.set (nodeF t k h t.root m).toNat (⟨(putP p up kid), ak2, ck2, Sk2, ai2, ci2, Si2⟩ : PgO)).length = L.length := List.length_set ..
       refine OD.call (wants_plain rfl) rfl rfl rfl Try.call30 (split_vcp (L.set (nodeF t k h t.root m).toNat (⟨(putP p up kid), ak2, ck2, Sk2, ai2, ci2, Si2⟩ : PgO)) b12 t.root (nodeF t k h t.root m) (some ⟨bx, 0, none⟩) cap [⟨bx, 44, cap * 5, List.flatMap gO (L.set (nodeF t k h t.root m).toNat (⟨(putP p up kid), ak2, ck2, Sk2, ai2, ci2, Si2⟩ : PgO))⟩] (by rw [hll]; exact hrg) (putP p up kid) (by rw [List.getElem_set_self]) (by rw [hll]; omega) hox2 hok2 h5 (fun hl => by have := full.leaf hl; omega) (fun hl => by have := (full.node hl).1; omega) (fun x hx => (full.klen x hx).2) full.hlen) ⟨ot, ot, trivial⟩ (List.Perm.cons _ (List.perm_append_singleton _ _).symm) ?_
       rintro _ _ ⟨rfl, L3, ad3, cap3, Sx3, hox3, hok3, hL3, rfl⟩
       refine OD.perm (S' := ⟨b12, 26, 2, [.v (.slice ad3 L3.length cap3), .v (.int .i64 t.root)]⟩ :: ⟨b6, 26, 2, [.v (.slice none 0 0), .v (.int .i64 0)]⟩ :: (Sx3 ++ L3.flatMap bO)) (List.Perm.cons _ (List.perm_append_singleton _ _)) ?_
       have he3 : pendF t k row h (m + 1) = (⟨L3.map PgO.p, t.root⟩, some (upK (putP p up kid), ((L.set (nodeF t k h t.root m).toNat (⟨(putP p up kid), ak2, ck2, Sk2, ai2, ci2, Si2⟩ : PgO)).length : Int))) := by rw [full_ins hm he (by rw [← hpe]; exact h4), ← hpe, hL3, hll]; unfold addT; show (({ pages := (List.map PgO.p L).set _ _ ++ _, root := t.root } : TreeL), _) = _; rw [List.map_set, List.set_set, List.length_map]
       refine os_ mv_ ?_
       refine os_ ex_ ?_
       refine os_ ex_ ?_
       refine os_ mv_ ?_
       refine os_ mv_ ?_
       refine OD.wk (Wk.as_ (n := 131) (l' := [(6, _), (12, _), (13, _), (14, _), (15, _), (16, _)]) (S' := (⟨b12, 26, 2, [_, _]⟩ :: ⟨b6, 26, 2, [_, _]⟩ :: (Sx3 ++ (L3.flatMap bO)))) rfl rfl ⟨lk, lk, lk, lk, lk, lk, trivial⟩) ?_
       refine OD.nil ?_
       refine CD.region ?_
       refine os_ mv_ ?_
       refine os_ bn_ ?_
       refine os_ mv_ ?_
       refine nm_ [6, 12, 13, 14, 15, 16] ?_
       refine ⟨((m + 1), (upK (putP p up kid)), ((L.set (nodeF t k h t.root m).toNat (⟨(putP p up kid), ak2, ck2, Sk2, ai2, ci2, Si2⟩ : PgO)).length : Int), L3, ad3, cap3, Sx3), ⟨131, [(6, .v (.pointer (some ⟨b6, 0, none⟩))), (12, .v (.pointer (some ⟨b12, 0, none⟩))), (13, .list 1 ((pathF t k h t.root).flatMap cI) (pathF t k h t.root).length), (14, .list 1 (((upK (putP p up kid))).flatMap cB) ((upK (putP p up kid))).length), (15, .v (.int .i64 (((L.set (nodeF t k h t.root m).toNat (⟨(putP p up kid), ak2, ck2, Sk2, ai2, ci2, Si2⟩ : PgO)).length : Int)))), (16, .v (.int .i64 ((h : Int) - (((m + 1)) : Nat))))], (⟨b12, 26, 2, [.v (.slice ad3 L3.length cap3), .v (.int .i64 t.root)]⟩ :: ⟨b6, 26, 2, [.v (.slice none 0 0), .v (.int .i64 0)]⟩ :: (Sx3 ++ L3.flatMap bO))⟩, ?_, Wk.asS (n := 131) rfl (by repeat (first | exact List.Sublist.refl _ | apply List.Sublist.cons_cons | apply List.Sublist.cons)) ⟨lq_, lq_, lq_, lq_, lq_, lq_, trivial⟩, (by omega), he3, hox3, hok3, rfl⟩
       first | omega | (simp only []; omega)
    rintro _ ⟨L, ad, cap, Sx, root, hox, hok, hins, hLm, rfl⟩
    refine CD.seq ?_
    refine CD.seq ?_
    refine CD.region ?_
    refine os_ (fa_ 0) ?_
    refine os_ (lb_ 0) ?_
    refine os_ ln_ ?_
    refine os_ bn_ ?_
    refine nm_ [6, 12, 128] ?_
    refine CD.cond ot (fun hc6 => ?_) (fun hc6 => ?_)
    ·have hc6' := hc6
     (try simp only [V.cnd, ne_eq] at hc6')
     refine sr_ ?_
     refine OD.still (wants_plain rfl) rfl (still_bld (pl := []) (ds := [_, _]) rfl Try.zeroValue26 Try.runUnderlying26 places26_Twf trivial rfl rfl) ?_
     refine OD.store (k := 1) (cs' := [_, _]) (wants_plain rfl) rfl rfl ot rfl rfl ot rfl rfl Try.sizeOf26 rfl rfl rfl ?_
     refine os_ mv_ ?_
     refine OD.wk (Wk.as_ (n := 131) (l' := [(6, _), (7, _)]) (S' := (⟨b12, 26, 2, [_, _]⟩ :: ⟨b6, 26, 2, [_, _]⟩ :: (Sx ++ (L.flatMap bO)))) rfl rfl ⟨lk, lk, trivial⟩) ?_
     refine OD.nil ?_
     refine CD.ret ?_
     refine ⟨.inr rfl, _, [], List.nil_sublist _, ret_two Try.results14 (res_cells (k := 1) (ds := [_, _]) (Nat.le_of_ble_eq_true rfl) lk rfl rfl Try.isAgg26 Try.sizeOf26 rfl rfl) (res_tmp (Nat.le_of_ble_eq_true rfl) lk), ?_⟩
     unfold insE; rw [if_pos hz, if_neg (by omega), if_neg (by rw [hth]; decide), if_pos (by rw [hins]; show 4000 < (L.map PgO.p).length; rw [List.length_map]; omega)]; exact retE_no _
    ·have hc6' := hc6
     (try simp only [V.cnd, ne_eq] at hc6')
     refine CD.skip ?_
     refine sr_ ?_
     refine os_ (lab_ 0 [_, _]) ?_
     refine OD.store (k := 1) (cs' := [_, _]) (wants_plain rfl) rfl rfl ot rfl rfl ot rfl rfl Try.sizeOf26 rfl rfl rfl ?_
     refine os_ mv_ ?_
     refine OD.wk (Wk.as_ (n := 131) (l' := [(6, _), (7, _)]) (S' := (⟨b12, 26, 2, [_, _]⟩ :: ⟨b6, 26, 2, [_, _]⟩ :: (Sx ++ (L.flatMap bO)))) rfl rfl ⟨lk, lk, trivial⟩) ?_
     refine OD.nil ?_
     refine CD.ret ?_
     refine ⟨.inr rfl, _, (Sx ++ L.flatMap bO), (by repeat (first | exact List.Sublist.refl _ | apply List.Sublist.cons)), ret_two Try.results14 (res_cells (k := 1) (ds := [_, _]) (Nat.le_of_ble_eq_true rfl) lk rfl rfl Try.isAgg26 Try.sizeOf26 rfl rfl) (res_tmp (Nat.le_of_ble_eq_true rfl) lk), ?_⟩
     unfold insE; rw [if_pos hz, if_neg (by omega), if_neg (by rw [hth]; decide), if_neg (by rw [hins]; show ¬ 4000 < (L.map PgO.p).length; rw [List.length_map]; omega)]
     exact ⟨_, rfl, L, ad, cap, Sx, by rw [hins], hox, hok, by rw [hins], rfl⟩

theorem insert_vp (t : TreeL) (h : Nat) (k : K) (row : Int) (hb : ∀ p ∈ t.pages, p.keys.length ≤ maxLen ∧ p.kids.length ≤ maxLen) (hv : checkF t = 0 → Valid t h) : VP Try.prog G 14 [.agg (cT t), .list 1 (k.flatMap cB) k.length, .v (.int .i64 row)] (.tup [.agg (cT (insE t k row h).1), .v (.int .i64 (insE t k row h).2)]) := (insert_vc t h k row hb hv).cover fun r S hr => hr.view

end Go.Proofs.Ythnobhekodiciaa.Tw

namespace Go.Proofs.Ythnobhekodiciaa.Tr
open Go.Lib (compareBytes)
set_option linter.unusedVariables false
set_option linter.unusedSimpArgs false
variable {t : TreeL} {h : Nat} {k : K}

theorem okT_same (hp : ∀ p ∈ t.pages, PageOk p t.pages.length) : ∀ {h h' : Nat} {i : Int} {a b c d : K}, OkT t h i a b → OkT t h' i c d → h = h'
 | 0, 0, _, _, _, _, _, _, _ => rfl
 | 0, h' + 1, i, _, _, _, _, h1, h2 => by have := h1.2.1; rw [h2.2.1] at this; cases this
 | h + 1, 0, i, _, _, _, _, h1, h2 => by have := h1.2.1; rw [h2.2.1] at this; cases this
 | h + 1, h' + 1, i, _, _, _, _, h1, h2 => by
  obtain ⟨p1, p2, p3, p4, p5⟩ := h1
  obtain ⟨q1, q2, q3, q4, q5⟩ := h2
  have hn := ((hp _ (pg_mem p1)).node p2).1
  have := okT_same hp (p5 0 (by omega)) (q5 0 (by omega))
  rw [this]
/-- How high a tree is. -/
noncomputable def hOf (t : TreeL) : Nat := Classical.epsilon fun h => Valid t h
theorem hOf_valid (v : Valid t h) : Valid t (hOf t) := Classical.epsilon_spec (p := fun h => Valid t h) ⟨h, v⟩
theorem hOf_eq (v : Valid t h) : hOf t = h := okT_same v.page (hOf_valid v).ok v.ok
noncomputable def entsOf (t : TreeL) : List (K × Int) := allE t (hOf t)
theorem ids_pow (hp : ∀ p ∈ t.pages, PageOk p t.pages.length) : ∀ {h : Nat} {i : Int} {a b : K}, OkT t h i a b → 2 ^ h ≤ (ids t h i).length
 | 0, i, _, _, _ => by simp [ids]
 | h + 1, i, _, _, ok => by
  obtain ⟨p1, p2, p3, p4, p5⟩ := ok
  have hn := (hp _ (pg_mem p1)).node p2
  have hk : 1 ≤ (t.pg i).keys.length := by
   have := hn.2
   cases hkk : (t.pg i).keys with
   | nil => exact absurd hkk this
   | cons _ _ => simp
  have h0 := ids_pow hp (p5 0 (by omega))
  have h1 := ids_pow hp (p5 1 (by omega))
  have key : ∀ (l : List Int) (h2 : 2 ≤ l.length), 2 ^ h ≤ (ids t h (l[0]'(by omega))).length → 2 ^ h ≤ (ids t h (l[1]'(by omega))).length → 2 ^ h + 2 ^ h ≤ (l.flatMap (ids t h)).length := by
   intro l h2 a0 a1
   match l, h2 with
   | x :: y :: r, _ =>
    simp only [List.flatMap_cons, List.length_append]
    simp only [List.getElem_cons_zero, List.getElem_cons_succ] at a0 a1
    omega
  have := key _ (by omega) h0 h1
  rw [ids, List.length_cons, Nat.pow_succ]; omega
theorem high_11 (v : Valid t h) : h ≤ 11 := by
 have h1 := ids_pow v.page v.ok
 rw [v.all] at h1
 have h2 := v.most
 refine Nat.le_of_not_lt fun h3 => ?_
 have : 2 ^ 12 ≤ 2 ^ h := Nat.pow_le_pow_right (by decide) h3
 omega
/-- A tree that has grown so many times at most. -/
structure GoodT (t : TreeL) (n : Nat) : Prop where
  val : Valid t (hOf t)
  few : t.pages.length ≤ 1 + 13 * n
theorem GoodT.mono {n m : Nat} (g : GoodT t n) (h : n ≤ m) : GoodT t m := ⟨g.val, by have := g.few; omega⟩
theorem good_new : GoodT newT 0 := ⟨hOf_valid new_valid, by decide⟩
theorem good_ins {n : Nat} {row : Int} (g : GoodT t n) (hn : n ≤ 300) (hno : ∀ x ∈ entsOf t, x.1 ≠ k) (hk : 1 ≤ k.length ∧ k.length ≤ 100) (hr : 0 ≤ row) :
  GoodT (insT t (hOf t) k row) (n + 1) ∧ (insT t (hOf t) k row).pages.length ≤ 4000 ∧ ∀ x, x ∈ entsOf (insT t (hOf t) k row) ↔ x = (k, row) ∨ x ∈ entsOf t := by
 have h11 := high_11 g.val
 have hf := g.few
 obtain ⟨h', _, v, ⟨_, hm⟩, he⟩ := ins_valid g.val hno hk hr (by omega)
 refine ⟨⟨hOf_valid v, by omega⟩, v.most, fun x => ?_⟩
 unfold entsOf
 rw [hOf_eq v]; exact he x
theorem good_del {n : Nat} (g : GoodT t n) (ht : thereF t k (hOf t)) : GoodT (delT t (hOf t) k) n ∧ ∀ x, x ∈ entsOf (delT t (hOf t) k) ↔ x ∈ entsOf t ∧ x.1 ≠ k := by
 obtain ⟨v, hl, he⟩ := del_valid g.val ht
 refine ⟨⟨hOf_valid v, by have := g.few; omega⟩, fun x => ?_⟩
 unfold entsOf
 rw [hOf_eq v]; exact he x
/-- Of a list in order: what stands ahead of a bound is what is below it. -/
theorem take_rise {to : K} : ∀ {l : List (K × Int)}, l.Pairwise (fun x y => klt x.1 y.1) → l.takeWhile (fun x => decide (¬ klt to x.1)) = l.filter fun x => decide (¬ klt to x.1)
  | [], _ => rfl
  | x :: l, h => by
    obtain ⟨h1, h2⟩ := List.pairwise_cons.1 h
    rw [List.takeWhile_cons, List.filter_cons]
    by_cases hx : klt to x.1
    · rw [if_neg (by simpa using hx), if_neg (by simpa using hx)]
      exact (List.filter_eq_nil_iff.2 fun y hy => by simpa using klt_tr hx (h1 y hy)).symm
    · rw [if_pos (by simpa using hx), if_pos (by simpa using hx), take_rise h2]

end Go.Proofs.Ythnobhekodiciaa.Tr

namespace Go.Proofs.Ythnobhekodiciaa.Tw
open Go.RowKit V Go.Proofs.Ythnobhekodiciaa.Tr Pk
set_option linter.unusedVariables false
set_option linter.unusedSimpArgs false

open Go.Lib (compareBytes)
/-- The key of a number. -/
def keyM (m : Nat) : K := [UInt8.ofNat (97 + m % 9), UInt8.ofNat (97 + m / 9)]
def keyN (n : Int) : K := keyM (pickedF n 90).toNat
theorem keyN_len (n : Int) : (keyN n).length = 2 := rfl
theorem keyN_ok (n : Int) : 1 ≤ (keyN n).length ∧ (keyN n).length ≤ 100 := by rw [keyN_len]; decide
theorem keyQ_ok {k : K} (h : 1 ≤ k.length ∧ k.length ≤ 100) : keyQ k = true := decide_eq_true h
theorem key_w1 (m : Nat) : IntKind.u8.wrap (97 + ((m % 9 : Nat) : Int)) = ((UInt8.ofNat (97 + m % 9)).toNat : Int) := by
 rw [UInt8.toNat_ofNat']; show (97 + ((m % 9 : Nat) : Int)) % 256 = _; omega
theorem key_w2 (m : Nat) : IntKind.u8.wrap (97 + ((m / 9 : Nat) : Int)) = ((UInt8.ofNat (97 + m / 9)).toNat : Int) := by
 rw [UInt8.toNat_ofNat']; show (97 + ((m / 9 : Nat) : Int)) % 256 = _; omega
theorem ref_ok {t : TreeL} {n : Nat} {k : K} (g : GoodT t n) (hk : 1 ≤ k.length ∧ k.length ≤ 100) : refF t k = 0 := refF_ok (check_ok g.val) (keyQ_ok hk)
theorem there_has {t : TreeL} {n : Nat} (g : GoodT t n) (k : K) : thereB t k (hOf t) = true ↔ ∃ row, (k, row) ∈ entsOf t := (thereB_iff g.val k).trans (there_iff g.val k)
theorem there_no {t : TreeL} {n : Nat} (g : GoodT t n) {k : K} : thereB t k (hOf t) = false ↔ ∀ x ∈ entsOf t, x.1 ≠ k := by
 constructor
 ·exact fun h => not_there g.val h
 ·intro h
  cases hq : thereB t k (hOf t) with
  | false => rfl
  | true => obtain ⟨row, hr⟩ := (there_has g k).1 hq; exact absurd rfl (h _ hr)
theorem ins_yes {t : TreeL} {n : Nat} {k : K} {row : Int} (g : GoodT t n) (hk : 1 ≤ k.length ∧ k.length ≤ 100) (hr : 0 ≤ row) (h : thereB t k (hOf t) = true) : insE t k row (hOf t) = (noT, 9) := by
 unfold insE; rw [if_pos (ref_ok g hk), if_neg (by omega), if_pos h]
theorem ins_no {t : TreeL} {n : Nat} {k : K} {row : Int} (g : GoodT t n) (hn : n ≤ 300) (hk : 1 ≤ k.length ∧ k.length ≤ 100) (hr : 0 ≤ row) (h : thereB t k (hOf t) = false) : insE t k row (hOf t) = (insT t (hOf t) k row, 0) := by
 have := (good_ins g hn ((there_no g).1 h) hk hr).2.1
 unfold insE; rw [if_pos (ref_ok g hk), if_neg (by omega), if_neg (by rw [h]; decide), if_neg (by omega)]
theorem del_yes {t : TreeL} {n : Nat} {k : K} (g : GoodT t n) (hk : 1 ≤ k.length ∧ k.length ≤ 100) (h : thereB t k (hOf t) = true) : delF t k (hOf t) = (delT t (hOf t) k, 0) := by
 unfold delF; rw [if_pos (ref_ok g hk), if_pos h]
theorem del_no {t : TreeL} {n : Nat} {k : K} (g : GoodT t n) (hk : 1 ≤ k.length ∧ k.length ≤ 100) (h : thereB t k (hOf t) = false) : delF t k (hOf t) = (noT, 8) := by
 unfold delF; rw [if_pos (ref_ok g hk), if_neg (by rw [h]; decide)]
/-- One number more. -/
noncomputable def stepT (t : TreeL) (i : Nat) (x : Int) : TreeL := if x < 0 then (if thereB t (keyN x) (hOf t) = true then delT t (hOf t) (keyN x) else t) else (if thereB t (keyN x) (hOf t) = true then t else insT t (hOf t) (keyN x) i)
noncomputable def treeN (l : List Int) : Nat → TreeL
 | 0 => newT
 | n + 1 => stepT (treeN l n) n (l.getD n 0)
noncomputable def treeL (l : List Int) : TreeL := treeN l (min l.length 70)
theorem good_step {t : TreeL} {n i : Nat} {x : Int} (g : GoodT t n) (hn : n ≤ 300) : GoodT (stepT t i x) (n + 1) := by
 unfold stepT
 split
 ·split
  ·rename_i h; exact (good_del g ((thereB_iff g.val _).1 h)).1.mono (by omega)
  ·exact g.mono (by omega)
 ·split
  ·exact g.mono (by omega)
  ·rename_i h; exact (good_ins g hn ((there_no g).1 (by simpa using h)) (keyN_ok x) (by omega)).1
theorem good_treeN (l : List Int) : ∀ {n : Nat}, n ≤ 300 → GoodT (treeN l n) n
 | 0, _ => good_new
 | n + 1, h => good_step (good_treeN l (by omega)) (by omega)
theorem good_treeL (l : List Int) : GoodT (treeL l) 70 := (good_treeN l (by omega)).mono (by omega)
theorem good_hb {t : TreeL} {n : Nat} (g : GoodT t n) : ∀ p ∈ t.pages, p.keys.length ≤ maxLen ∧ p.kids.length ≤ maxLen := valid_hb g.val
variable {G : List (Nat × List Value)}
theorem insert_g {t : TreeL} {n : Nat} (g : GoodT t n) (k : K) (row : Int) : VP Try.prog G 14 [.agg (cT t), .list 1 (k.flatMap cB) k.length, .v (.int .i64 row)] (.tup [.agg (cT (insE t k row (hOf t)).1), .v (.int .i64 (insE t k row (hOf t)).2)]) := insert_vp t (hOf t) k row (good_hb g) fun _ => g.val
theorem delete_g {t : TreeL} {n : Nat} (g : GoodT t n) (k : K) : VP Try.prog G 20 [.agg (cT t), .list 1 (k.flatMap cB) k.length] (.tup [.agg (cT (delF t k (hOf t)).1), .v (.int .i64 (delF t k (hOf t)).2)]) := delete_vp t (hOf t) k (good_hb g) fun _ => g.val
theorem check_g {t : TreeL} {n : Nat} (g : GoodT t n) : VP Try.prog G 19 [.agg (cT t)] (.v (.int .i64 0)) := by have := check_vp (G := G) t (good_hb g); rwa [check_ok g.val] at this
/-- What a scan tells. -/
noncomputable def spanF (t : TreeL) (f to : K) : List (K × Int) := scanF t (hOf t) f to
theorem scan_g {t : TreeL} {n : Nat} (g : GoodT t n) (f to : K) (hf : f.length ≤ 100) (ht : to.length ≤ 100) : VP Try.prog G 16 [.agg (cT t), .list 1 (f.flatMap cB) f.length, .list 1 (to.flatMap cB) to.length] (.tup [.list 2 ((spanF t f to).flatMap cE) (spanF t f to).length, .v (.int .i64 0)]) := by
 have := scan_vp (G := G) t (hOf t) (good_hb g) (fun _ => g.val) f to
 unfold scanR at this
 rwa [if_pos (check_ok g.val), if_pos ⟨hf, ht⟩] at this
theorem span_all (t : TreeL) : spanF t [] [] = entsOf t := by
 unfold spanF scanF entsOf
 rw [from_nil, takeW_all fun x _ => by simp [stopQ]]
theorem span_both {t : TreeL} {n : Nat} (g : GoodT t n) (f to : K) (h0 : 0 < to.length) : spanF t f to = (entsOf t).filter fun x => decide (¬ klt x.1 f) && decide (¬ klt to x.1) := by
 unfold spanF scanF
 have : (fun x : K × Int => !stopQ to x) = fun x => decide (¬ klt to x.1) := by funext x; simp [stopQ, h0]
 rw [this, take_rise (from_rise g.val f)]
 unfold fromE entsOf
 rw [List.filter_filter]
 congr 1; funext x; rw [Bool.and_comm]
theorem scan_n2 {t : TreeL} {n : Nat} (g : GoodT t n) : VP Try.prog G 16 [.agg (cT t), .v (.slice none 0 0), .v (.slice none 0 0)] (.tup [.list 2 ((spanF t [] []).flatMap cE) (spanF t [] []).length, .v (.int .i64 0)]) := VC.to (args' := [.agg (cT t), .v (.slice none 0 0), .v (.slice none 0 0)]) (scan_g g [] [] (by decide) (by decide)) ⟨.inl rfl, .inr ⟨1, rfl, rfl⟩, .inr ⟨1, rfl, rfl⟩, trivial⟩

set_option maxHeartbeats 4000000 in
set_option maxRecDepth 100000 in
theorem key_vpN (n : Int) (h1 : -9223372036854775808 ≤ n) (h2 : n ≤ 9223372036854775807) : VP Try.prog G 15 [.v (.int .i64 n)] (.list 1 ((keyN n).flatMap cB) (keyN n).length) := by
 refine VC.body Try.func15 rfl Try.ntmps15 (Nat.le_of_ble_eq_true rfl) fun X0 w0 S00 => ?_
 have hmx : maxLen = 9223372036854775807 := rfl
 have hpb := pickedF_bd n (by decide : (1 : Int) ≤ 90)
 obtain ⟨m, hm⟩ := Int.eq_ofNat_of_zero_le hpb.1
 have hm90 : m < 90 := by omega
 have hpk := picked_vp G n 90 h1 h2 (by decide)
 rw [hm] at hpk
 have hkm : keyN n = keyM m := by unfold keyN; rw [hm]; rfl
 rw [hkm]
 refine sr_ ?_
 refine os_ mv_ ?_
 refine nm_ [0] ?_
 refine sr_ ?_
 refine os_ mv_ ?_
 refine OD.callP (wants_plain rfl) rfl rfl rfl Try.call12 (hpk) ⟨ot, opd_const, trivial⟩ ?_
 refine os_ mv_ ?_
 refine OD.wk (Wk.as_ (n := 15) (l' := [(3, _)]) (S' := []) rfl rfl ⟨lk, trivial⟩) ?_
 refine OD.nil ?_
 refine sr_ ?_
 refine os_ mv_ ?_
 refine OD.still (wants_plain rfl) rfl (still_bin (r := .int .i64 ((m % 9 : Nat) : Int)) rfl ot opd_const (bin_rem (a := (m : Int)) (b := 9) (by omega))) ?_
 refine OD.still (wants_plain rfl) rfl (still_bin (r := .int .i64 (97 + ((m % 9 : Nat) : Int))) rfl opd_const ot (bin_add (wrap_i64 (by omega) (by omega)))) ?_
 refine OD.still (wants_plain rfl) rfl (still_conv (r := .int .u8 ((UInt8.ofNat (97 + m % 9)).toNat : Int)) rfl ot (conv_int Try.runUnderlying3 Try.runUnderlying5 (key_w1 m))) ?_
 refine os_ mv_ ?_
 refine OD.still (wants_plain rfl) rfl (still_bin (r := .int .i64 ((m / 9 : Nat) : Int)) rfl ot opd_const (bin_quo (a := (m : Int)) (b := 9) (by omega) (wrap_i64 (by show -9223372036854775808 ≤ ((m / 9 : Nat) : Int); omega) (by show ((m / 9 : Nat) : Int) ≤ 9223372036854775807; omega)))) ?_
 refine OD.still (wants_plain rfl) rfl (still_bin (r := .int .i64 (97 + ((m / 9 : Nat) : Int))) rfl opd_const ot (bin_add (wrap_i64 (by omega) (by omega)))) ?_
 refine OD.still (wants_plain rfl) rfl (still_conv (r := .int .u8 ((UInt8.ofNat (97 + m / 9)).toNat : Int)) rfl ot (conv_int Try.runUnderlying3 Try.runUnderlying5 (key_w2 m))) ?_
 refine OD.bldS (pl := numD 0 [_, _]) (zvs := [.int .u8 0, .int .u8 0]) (ds := [_, _]) (wants_plain rfl) rfl rfl Try.zeroValue5 Try.runUnderlying31 Try.sizeOf5 rfl rfl (by kernel_rfl) ⟨rfl, ot, rfl, ot, trivial⟩ (by exact rfl) (fill_full (by exact rfl) (by exact rfl) (by exact rfl)) (fun b14 => ?_)
 refine OD.perm (perm_q11 (S1 := [⟨b14, 5, 2 * 1, List.flatMap cB ([UInt8.ofNat (97 + m % 9), UInt8.ofNat (97 + m / 9)])⟩]) (A := [])) ?_
 refine os_ mv_ ?_
 refine OD.wk (Wk.as_ (n := 15) (l' := [(2, _)]) (S' := ([⟨b14, 5, 2 * 1, List.flatMap cB ([UInt8.ofNat (97 + m % 9), UInt8.ofNat (97 + m / 9)])⟩])) rfl rfl ⟨lk, trivial⟩) ?_
 refine OD.nil ?_
 refine CD.giveL (t := 2) (Sq := [⟨b14, 5, 2 * 1, List.flatMap cB ([UInt8.ofNat (97 + m % 9), UInt8.ofNat (97 + m / 9)])⟩]) lk (ownL_row (g := cB) (sz := 1) (e := 5) (ls := [UInt8.ofNat (97 + m % 9), UInt8.ofNat (97 + m / 9)]) (Nat.le_refl _) (show 2 ≤ maxLen by decide)) (fm_len cB_len _) (perm_r11 (A := [])) ?_
 refine CD.ret ?_
 refine ⟨.inr rfl, _, [], List.nil_sublist _, ret_one Try.results15 (res_tmp (Nat.le_of_ble_eq_true rfl) lk), ?_⟩
 exact ⟨rfl, rfl⟩

end Go.Proofs.Ythnobhekodiciaa.Tw

namespace Go.Proofs.Ythnobhekodiciaa.Tw
open Go.RowKit V Go.Proofs.Ythnobhekodiciaa.Tr Pk
set_option linter.unusedVariables false
set_option linter.unusedSimpArgs false

/-- Numbers as they are told. -/
abbrev WfI (l : List Int) : Prop := ∀ x ∈ l, -9223372036854775808 ≤ x ∧ x ≤ 9223372036854775807
theorem treeN_succ {l : List Int} {i : Nat} (hi : i < l.length) : treeN l (i + 1) = stepT (treeN l i) i l[i] := by
 show stepT (treeN l i) i (l.getD i 0) = _
 rw [List.getD_eq_getElem?_getD, List.getElem?_eq_getElem hi]; rfl
variable {G : List (Nat × List Value)}

set_option maxHeartbeats 4000000 in
set_option maxRecDepth 100000 in
theorem tree_vp (l : List Int) (hl : l.length ≤ maxLen) (hw : WfI l) : VP Try.prog G 17 [.list 1 (l.flatMap cI) l.length] (.tup [.agg (cT (treeL l)), .v (.bool true)]) := by
 refine VC.body Try.func17 rfl Try.ntmps17 (Nat.le_of_ble_eq_true rfl) fun X0 w0 S00 => ?_
 have hmx : maxLen = 9223372036854775807 := rfl
 have hnv := new_vp (G := G)
 unfold cT at hnv
 refine sr_ ?_
 refine OD.alloc (ds := [_, _]) (wants_plain rfl) rfl rfl Try.zeroValue26 rfl (fun b2 => ?_)
 refine os_ mv_ ?_
 refine OD.wk (Wk.as_ (n := 66) (l' := [(0, _), (2, _)]) (S' := [⟨b2, 26, 2, [_, _]⟩]) rfl rfl ⟨lk, lk, trivial⟩) ?_
 refine OD.nil ?_
 refine sr_ ?_
 refine OD.callP (wants_plain rfl) rfl rfl rfl Try.call13 (hnv) trivial ?_
 refine OD.alloc (ds := [_, _]) (wants_plain rfl) rfl rfl Try.zeroValue26 rfl (fun b4 => ?_)
 refine OD.store (k := 0) (cs' := [_, _]) (wants_plain rfl) rfl rfl ot rfl rfl ot rfl rfl Try.sizeOf26 rfl rfl rfl ?_
 refine OD.wk (Wk.as_ (n := 66) (l' := [(0, _), (2, _), (4, _)]) (S' := [⟨b4, 26, 2, [_, _]⟩, ⟨b2, 26, 2, [_, _]⟩]) rfl rfl ⟨lk, lk, lk, trivial⟩) ?_
 refine OD.nil ?_
 refine CD.seq ?_
 refine sr_ ?_
 refine os_ mv_ ?_
 refine nm_ [0, 2, 4, 5] ?_
 refine CD.block ?_
 refine CD.wk (Wk.asS (n := 66) (l' := [(0, .list 1 (l.flatMap cI) l.length), (2, .v (.pointer (some ⟨b2, 0, none⟩))), (4, .v (.pointer (some ⟨b4, 0, none⟩))), (5, .v (.int .i64 ((0) : Nat)))]) (S' := [⟨b4, 26, 2, [.list 5 ((newT).pages.flatMap cP) (newT).pages.length, .v (.int .i64 (newT).root)]⟩, ⟨b2, 26, 2, [.v (.slice none 0 0), .v (.int .i64 0)]⟩]) rfl (by repeat (first | exact List.Sublist.refl _ | apply List.Sublist.cons)) ⟨(by (repeat (first | exact look_hit | (apply look_at; focus (first | rfl | (simp; done) | (congr 2; omega))) | (apply look_miss; focus rfl))); done), (by (repeat (first | exact look_hit | (apply look_at; focus (first | rfl | (simp; done) | (congr 2; omega))) | (apply look_miss; focus rfl))); done), (by (repeat (first | exact look_hit | (apply look_at; focus (first | rfl | (simp; done) | (congr 2; omega))) | (apply look_miss; focus rfl))); done), (by (repeat (first | exact look_hit | (apply look_at; focus (first | rfl | (simp; done) | (congr 2; omega))) | (apply look_miss; focus rfl))); done), trivial⟩) (CD.loop (fun (gh__ : Nat × TreeL) y__ => match gh__ with | (i, T) => (i ≤ l.length) ∧ (i ≤ 70) ∧ (T = treeN l i) ∧ y__ = (⟨66, [(0, .list 1 (l.flatMap cI) l.length), (2, .v (.pointer (some ⟨b2, 0, none⟩))), (4, .v (.pointer (some ⟨b4, 0, none⟩))), (5, .v (.int .i64 (i : Nat)))], [⟨b4, 26, 2, [.list 5 ((T).pages.flatMap cP) (T).pages.length, .v (.int .i64 (T).root)]⟩, ⟨b2, 26, 2, [.v (.slice none 0 0), .v (.int .i64 0)]⟩]⟩ : St)) (fun (gh__ : Nat × TreeL) => match gh__ with | (i, T) => 70 - i) (0, newT) ⟨(Nat.zero_le _), (by omega), rfl, rfl⟩ ?_)
 rintro ⟨i, T⟩ _ ⟨hi1, hi2, hT, rfl⟩
 refine CD.seq ?_
 refine sr_ ?_
 refine os_ mv_ ?_
 refine os_ mv_ ?_
 refine os_ ln_ ?_
 refine os_ bn_ ?_
 refine os_ mv_ ?_
 refine OD.split (t := 15) lk (fun hg15 => ?_) (fun hg15 => ?_)
 ·have hg15' := hg15; (try simp only [V.cnd, ne_eq] at hg15')
  refine os_ mv_ ?_
  refine os_ bn_ ?_
  refine os_ pkT_ ?_
  refine nm_ [0, 2, 4, 5, 18] ?_
  refine CD.cond ot (fun hc0 => ?_) (fun hc0 => ?_)
  ·have hc0' := hc0
   (try simp only [V.cnd, ne_eq] at hc0')
   have hil : i < l.length := by simp_all
   have hi70 : i < 70 := by simp_all; omega
   have hg : GoodT (treeN l i) i := good_treeN l (by omega)
   rw [← hT] at hg
   have g : GoodT T i := hg
   obtain ⟨x1, x2⟩ := hw _ (List.getElem_mem hil)
   refine CD.skip ?_
   refine CD.seq ?_
   refine CD.block ?_
   refine CD.seq ?_
   refine sr_ ?_
   refine os_ mv_ ?_
   refine os_ mv_ ?_
   refine os_ (ix_ 1 (h := by first | exact .l (j := i) rfl hil | exact .r (j := i) rfl hil)) ?_
   refine os_ ld_ ?_
   refine os_ bn_ ?_
   refine nm_ [0, 2, 4, 5, 25] ?_
   refine CD.cond ot (fun hc1 => ?_) (fun hc1 => ?_)
   ·have hc1' := hc1
    (try simp only [V.cnd, ne_eq] at hc1')
    have hneg : l[i] < 0 := by simpa using hc1
    refine CD.seq ?_
    rcases hth : thereB T (keyN l[i]) (hOf T) with _ | _
    ·skip
     have hdv := delete_g (G := G) g (keyN l[i])
     rw [del_no g (keyN_ok _) hth] at hdv
     unfold cT at hdv
     refine CD.draw (bks _) (by kernel_rfl) (fun _ h => h) ?_
     refine a0_ 0 rfl (lab_ 0 [_, _]) ?_
     refine a0_ 1 rfl mv_ ?_
     refine a0_ 2 rfl mv_ ?_
     refine a0_ 3 rfl (ix_ 1 (h := by first | exact .l (j := i) rfl hil | exact .r (j := i) rfl hil)) ?_
     refine a0_ 4 rfl ld_ ?_
     refine AD0.later rfl ?_
     refine AD.two (i := 5) (j := 10) (by kernel_rfl) ?_ ?_
     ·skip
      refine AStep.callP rfl (wants_plain rfl) rfl rfl rfl Try.call15 (key_vpN _ x1 x2) ⟨ot, trivial⟩ ?_
      refine AD.two (i := 6) (j := 10) (by kernel_rfl) ?_ ?_
      ·skip
       refine AStep.callP rfl (wants_plain rfl) rfl rfl rfl Try.call20 (hdv) ⟨ot, ot, trivial⟩ ?_
       refine a1_ 7 rfl mv_ ?_
       refine a1_ 8 rfl ex_ ?_
       refine a1_ 9 rfl ex_ ?_
       refine AD.one (i := 10) (by kernel_rfl) ?_
       refine AStep.alloc (ds := [_, _]) rfl (wants_plain rfl) rfl rfl Try.zeroValue26 rfl (fun b6 => ?_)
       refine AD.one (i := 11) (by kernel_rfl) ?_
       refine AStep.store (k := 0) (cs' := [_, _]) rfl (wants_plain rfl) rfl rfl ot rfl rfl ot rfl rfl Try.sizeOf26 rfl rfl rfl (by intro b hb; simp [bks, St.put] at hb ⊢; try first | exact hb | simp [hb] | (rcases hb with hb | hb <;> simp [hb]) | (rcases hb with hb | hb | hb <;> simp [hb])) ?_
       refine a1_ 12 rfl mv_ ?_
       refine AD.wk (y := ⟨66, [(0, _), (2, _), (4, _), (5, _), (6, _), (7, _)], [⟨b6, 26, 2, [_, _]⟩, ⟨b4, 26, 2, [_, _]⟩, ⟨b2, 26, 2, [_, _]⟩]⟩) (Wk.as_ rfl rfl ⟨lk, lk, lk, lk, lk, lk, trivial⟩) rfl ?_
       refine AD.done (by kernel_rfl) ?_
       refine CD.seq ?_
       refine sr_ ?_
       refine os_ mv_ ?_
       refine os_ bn_ ?_
       refine nm_ [0, 2, 4, 5, 6, 37] ?_
       refine CD.cond ot (fun hc2 => ?_) (fun hc2 => ?_)
       ·exact absurd hc2 (by simp at hc2)
       ·have hc2' := hc2
        (try simp only [V.cnd, ne_eq] at hc2')
        refine CD.skip ?_
        refine CD.exit ?_
        refine CD.region ?_
        refine os_ mv_ ?_
        refine os_ bn_ ?_
        refine os_ mv_ ?_
        refine nm_ [0, 2, 4, 5] ?_
        refine ⟨((i + 1), T), ⟨66, [(0, .list 1 (l.flatMap cI) l.length), (2, .v (.pointer (some ⟨b2, 0, none⟩))), (4, .v (.pointer (some ⟨b4, 0, none⟩))), (5, .v (.int .i64 (((i + 1)) : Nat)))], [⟨b4, 26, 2, [.list 5 ((T).pages.flatMap cP) (T).pages.length, .v (.int .i64 (T).root)]⟩, ⟨b2, 26, 2, [.v (.slice none 0 0), .v (.int .i64 0)]⟩]⟩, ?_, Wk.asS (n := 66) rfl (by repeat (first | exact List.Sublist.refl _ | apply List.Sublist.cons)) ⟨(by (repeat (first | exact look_hit | (apply look_at; focus (first | rfl | (simp; done) | (congr 2; omega))) | (apply look_miss; focus rfl))); done), (by (repeat (first | exact look_hit | (apply look_at; focus (first | rfl | (simp; done) | (congr 2; omega))) | (apply look_miss; focus rfl))); done), (by (repeat (first | exact look_hit | (apply look_at; focus (first | rfl | (simp; done) | (congr 2; omega))) | (apply look_miss; focus rfl))); done), (by (repeat (first | exact look_hit | (apply look_at; focus (first | rfl | (simp; done) | (congr 2; omega))) | (apply look_miss; focus rfl))); done), trivial⟩, (by omega), (by omega), (by rw [treeN_succ hil, ← hT]; unfold stepT; rw [if_pos hneg, if_neg (by rw [hth]; decide)]), rfl⟩
        first | omega | (simp only []; omega)
      ·skip
       refine AStep.alloc (ds := [_, _]) rfl (wants_plain rfl) rfl rfl Try.zeroValue26 rfl (fun b6 => ?_)
       refine AD.one (i := 6) (by kernel_rfl) ?_
       refine AStep.callP rfl (wants_plain rfl) rfl rfl rfl Try.call20 (hdv) ⟨ot, ot, trivial⟩ ?_
       refine a1_ 7 rfl mv_ ?_
       refine a1_ 8 rfl ex_ ?_
       refine a1_ 9 rfl ex_ ?_
       refine AD.one (i := 11) (by kernel_rfl) ?_
       refine AStep.store (k := 0) (cs' := [_, _]) rfl (wants_plain rfl) rfl rfl ot rfl rfl ot rfl rfl Try.sizeOf26 rfl rfl rfl (by intro b hb; simp [bks, St.put] at hb ⊢; try first | exact hb | simp [hb] | (rcases hb with hb | hb <;> simp [hb]) | (rcases hb with hb | hb | hb <;> simp [hb])) ?_
       refine a1_ 12 rfl mv_ ?_
       refine AD.wk (y := ⟨66, [(0, _), (2, _), (4, _), (5, _), (6, _), (7, _)], [⟨b6, 26, 2, [_, _]⟩, ⟨b4, 26, 2, [_, _]⟩, ⟨b2, 26, 2, [_, _]⟩]⟩) (Wk.as_ rfl rfl ⟨lk, lk, lk, lk, lk, lk, trivial⟩) rfl ?_
       refine AD.done (by kernel_rfl) ?_
       refine CD.seq ?_
       refine sr_ ?_
       refine os_ mv_ ?_
       refine os_ bn_ ?_
       refine nm_ [0, 2, 4, 5, 6, 37] ?_
       refine CD.cond ot (fun hc2 => ?_) (fun hc2 => ?_)
       ·exact absurd hc2 (by simp at hc2)
       ·have hc2' := hc2
        (try simp only [V.cnd, ne_eq] at hc2')
        refine CD.skip ?_
        refine CD.exit ?_
        refine CD.region ?_
        refine os_ mv_ ?_
        refine os_ bn_ ?_
        refine os_ mv_ ?_
        refine nm_ [0, 2, 4, 5] ?_
        refine ⟨((i + 1), T), ⟨66, [(0, .list 1 (l.flatMap cI) l.length), (2, .v (.pointer (some ⟨b2, 0, none⟩))), (4, .v (.pointer (some ⟨b4, 0, none⟩))), (5, .v (.int .i64 (((i + 1)) : Nat)))], [⟨b4, 26, 2, [.list 5 ((T).pages.flatMap cP) (T).pages.length, .v (.int .i64 (T).root)]⟩, ⟨b2, 26, 2, [.v (.slice none 0 0), .v (.int .i64 0)]⟩]⟩, ?_, Wk.asS (n := 66) rfl (by repeat (first | exact List.Sublist.refl _ | apply List.Sublist.cons)) ⟨(by (repeat (first | exact look_hit | (apply look_at; focus (first | rfl | (simp; done) | (congr 2; omega))) | (apply look_miss; focus rfl))); done), (by (repeat (first | exact look_hit | (apply look_at; focus (first | rfl | (simp; done) | (congr 2; omega))) | (apply look_miss; focus rfl))); done), (by (repeat (first | exact look_hit | (apply look_at; focus (first | rfl | (simp; done) | (congr 2; omega))) | (apply look_miss; focus rfl))); done), (by (repeat (first | exact look_hit | (apply look_at; focus (first | rfl | (simp; done) | (congr 2; omega))) | (apply look_miss; focus rfl))); done), trivial⟩, (by omega), (by omega), (by rw [treeN_succ hil, ← hT]; unfold stepT; rw [if_pos hneg, if_neg (by rw [hth]; decide)]), rfl⟩
        first | omega | (simp only []; omega)
     ·skip
      refine AStep.alloc (ds := [_, _]) rfl (wants_plain rfl) rfl rfl Try.zeroValue26 rfl (fun b6 => ?_)
      refine AD.one (i := 5) (by kernel_rfl) ?_
      refine AStep.callP rfl (wants_plain rfl) rfl rfl rfl Try.call15 (key_vpN _ x1 x2) ⟨ot, trivial⟩ ?_
      refine AD.one (i := 6) (by kernel_rfl) ?_
      refine AStep.callP rfl (wants_plain rfl) rfl rfl rfl Try.call20 (hdv) ⟨ot, ot, trivial⟩ ?_
      refine a1_ 7 rfl mv_ ?_
      refine a1_ 8 rfl ex_ ?_
      refine a1_ 9 rfl ex_ ?_
      refine AD.one (i := 11) (by kernel_rfl) ?_
      refine AStep.store (k := 0) (cs' := [_, _]) rfl (wants_plain rfl) rfl rfl ot rfl rfl ot rfl rfl Try.sizeOf26 rfl rfl rfl (by intro b hb; simp [bks, St.put] at hb ⊢; try first | exact hb | simp [hb] | (rcases hb with hb | hb <;> simp [hb]) | (rcases hb with hb | hb | hb <;> simp [hb])) ?_
      refine a1_ 12 rfl mv_ ?_
      refine AD.wk (y := ⟨66, [(0, _), (2, _), (4, _), (5, _), (6, _), (7, _)], [⟨b6, 26, 2, [_, _]⟩, ⟨b4, 26, 2, [_, _]⟩, ⟨b2, 26, 2, [_, _]⟩]⟩) (Wk.as_ rfl rfl ⟨lk, lk, lk, lk, lk, lk, trivial⟩) rfl ?_
      refine AD.done (by kernel_rfl) ?_
      refine CD.seq ?_
      refine sr_ ?_
      refine os_ mv_ ?_
      refine os_ bn_ ?_
      refine nm_ [0, 2, 4, 5, 6, 37] ?_
      refine CD.cond ot (fun hc2 => ?_) (fun hc2 => ?_)
      ·exact absurd hc2 (by simp at hc2)
      ·have hc2' := hc2
       (try simp only [V.cnd, ne_eq] at hc2')
       refine CD.skip ?_
       refine CD.exit ?_
       refine CD.region ?_
       refine os_ mv_ ?_
       refine os_ bn_ ?_
       refine os_ mv_ ?_
       refine nm_ [0, 2, 4, 5] ?_
       refine ⟨((i + 1), T), ⟨66, [(0, .list 1 (l.flatMap cI) l.length), (2, .v (.pointer (some ⟨b2, 0, none⟩))), (4, .v (.pointer (some ⟨b4, 0, none⟩))), (5, .v (.int .i64 (((i + 1)) : Nat)))], [⟨b4, 26, 2, [.list 5 ((T).pages.flatMap cP) (T).pages.length, .v (.int .i64 (T).root)]⟩, ⟨b2, 26, 2, [.v (.slice none 0 0), .v (.int .i64 0)]⟩]⟩, ?_, Wk.asS (n := 66) rfl (by repeat (first | exact List.Sublist.refl _ | apply List.Sublist.cons)) ⟨(by (repeat (first | exact look_hit | (apply look_at; focus (first | rfl | (simp; done) | (congr 2; omega))) | (apply look_miss; focus rfl))); done), (by (repeat (first | exact look_hit | (apply look_at; focus (first | rfl | (simp; done) | (congr 2; omega))) | (apply look_miss; focus rfl))); done), (by (repeat (first | exact look_hit | (apply look_at; focus (first | rfl | (simp; done) | (congr 2; omega))) | (apply look_miss; focus rfl))); done), (by (repeat (first | exact look_hit | (apply look_at; focus (first | rfl | (simp; done) | (congr 2; omega))) | (apply look_miss; focus rfl))); done), trivial⟩, (by omega), (by omega), (by rw [treeN_succ hil, ← hT]; unfold stepT; rw [if_pos hneg, if_neg (by rw [hth]; decide)]), rfl⟩
       first | omega | (simp only []; omega)
    ·skip
     have hdv := delete_g (G := G) g (keyN l[i])
     rw [del_yes g (keyN_ok _) hth] at hdv
     unfold cT at hdv
     refine CD.draw (bks _) (by kernel_rfl) (fun _ h => h) ?_
     refine a0_ 0 rfl (lab_ 0 [_, _]) ?_
     refine a0_ 1 rfl mv_ ?_
     refine a0_ 2 rfl mv_ ?_
     refine a0_ 3 rfl (ix_ 1 (h := by first | exact .l (j := i) rfl hil | exact .r (j := i) rfl hil)) ?_
     refine a0_ 4 rfl ld_ ?_
     refine AD0.later rfl ?_
     refine AD.two (i := 5) (j := 10) (by kernel_rfl) ?_ ?_
     ·skip
      refine AStep.callP rfl (wants_plain rfl) rfl rfl rfl Try.call15 (key_vpN _ x1 x2) ⟨ot, trivial⟩ ?_
      refine AD.two (i := 6) (j := 10) (by kernel_rfl) ?_ ?_
      ·skip
       refine AStep.callP rfl (wants_plain rfl) rfl rfl rfl Try.call20 (hdv) ⟨ot, ot, trivial⟩ ?_
       refine a1_ 7 rfl mv_ ?_
       refine a1_ 8 rfl ex_ ?_
       refine a1_ 9 rfl ex_ ?_
       refine AD.one (i := 10) (by kernel_rfl) ?_
       refine AStep.alloc (ds := [_, _]) rfl (wants_plain rfl) rfl rfl Try.zeroValue26 rfl (fun b6 => ?_)
       refine AD.one (i := 11) (by kernel_rfl) ?_
       refine AStep.store (k := 0) (cs' := [_, _]) rfl (wants_plain rfl) rfl rfl ot rfl rfl ot rfl rfl Try.sizeOf26 rfl rfl rfl (by intro b hb; simp [bks, St.put] at hb ⊢; try first | exact hb | simp [hb] | (rcases hb with hb | hb <;> simp [hb]) | (rcases hb with hb | hb | hb <;> simp [hb])) ?_
       refine a1_ 12 rfl mv_ ?_
       refine AD.wk (y := ⟨66, [(0, _), (2, _), (4, _), (5, _), (6, _), (7, _)], [⟨b6, 26, 2, [_, _]⟩, ⟨b4, 26, 2, [_, _]⟩, ⟨b2, 26, 2, [_, _]⟩]⟩) (Wk.as_ rfl rfl ⟨lk, lk, lk, lk, lk, lk, trivial⟩) rfl ?_
       refine AD.done (by kernel_rfl) ?_
       refine CD.seq ?_
       refine sr_ ?_
       refine os_ mv_ ?_
       refine os_ bn_ ?_
       refine nm_ [0, 2, 4, 5, 6, 37] ?_
       refine CD.cond ot (fun hc2 => ?_) (fun hc2 => ?_)
       ·have hc2' := hc2
        (try simp only [V.cnd, ne_eq] at hc2')
        refine CD.region ?_
        refine os_ (lab_ 0 [_, _]) ?_
        refine OD.store (k := 1) (cs' := [_, _]) (wants_plain rfl) rfl rfl ot rfl rfl ot rfl rfl Try.sizeOf26 rfl rfl rfl ?_
        refine OD.wk (Wk.as_ (n := 66) (l' := [(0, _), (2, _), (4, _), (5, _)]) (S' := [⟨b6, 26, 2, [_, _]⟩, ⟨b4, 26, 2, [_, _]⟩, ⟨b2, 26, 2, [_, _]⟩]) rfl rfl ⟨lk, lk, lk, lk, trivial⟩) ?_
        refine OD.nil ?_
        refine CD.exit ?_
        refine CD.region ?_
        refine os_ mv_ ?_
        refine os_ bn_ ?_
        refine os_ mv_ ?_
        refine nm_ [0, 2, 4, 5] ?_
        refine ⟨((i + 1), (delT T (hOf T) (keyN l[i]))), ⟨66, [(0, .list 1 (l.flatMap cI) l.length), (2, .v (.pointer (some ⟨b2, 0, none⟩))), (4, .v (.pointer (some ⟨b4, 0, none⟩))), (5, .v (.int .i64 (((i + 1)) : Nat)))], [⟨b4, 26, 2, [.list 5 ((((delT T (hOf T) (keyN l[i])))).pages.flatMap cP) (((delT T (hOf T) (keyN l[i])))).pages.length, .v (.int .i64 (((delT T (hOf T) (keyN l[i])))).root)]⟩, ⟨b2, 26, 2, [.v (.slice none 0 0), .v (.int .i64 0)]⟩]⟩, ?_, Wk.asS (n := 66) rfl (by repeat (first | exact List.Sublist.refl _ | apply List.Sublist.cons)) ⟨(by (repeat (first | exact look_hit | (apply look_at; focus (first | rfl | (simp; done) | (congr 2; omega))) | (apply look_miss; focus rfl))); done), (by (repeat (first | exact look_hit | (apply look_at; focus (first | rfl | (simp; done) | (congr 2; omega))) | (apply look_miss; focus rfl))); done), (by (repeat (first | exact look_hit | (apply look_at; focus (first | rfl | (simp; done) | (congr 2; omega))) | (apply look_miss; focus rfl))); done), (by (repeat (first | exact look_hit | (apply look_at; focus (first | rfl | (simp; done) | (congr 2; omega))) | (apply look_miss; focus rfl))); done), trivial⟩, (by omega), (by omega), (by rw [treeN_succ hil, ← hT]; unfold stepT; rw [if_pos hneg, if_pos hth]), rfl⟩
        first | omega | (simp only []; omega)
       ·exact absurd hc2 (by simp at hc2)
      ·skip
       refine AStep.alloc (ds := [_, _]) rfl (wants_plain rfl) rfl rfl Try.zeroValue26 rfl (fun b6 => ?_)
       refine AD.one (i := 6) (by kernel_rfl) ?_
       refine AStep.callP rfl (wants_plain rfl) rfl rfl rfl Try.call20 (hdv) ⟨ot, ot, trivial⟩ ?_
       refine a1_ 7 rfl mv_ ?_
       refine a1_ 8 rfl ex_ ?_
       refine a1_ 9 rfl ex_ ?_
       refine AD.one (i := 11) (by kernel_rfl) ?_
       refine AStep.store (k := 0) (cs' := [_, _]) rfl (wants_plain rfl) rfl rfl ot rfl rfl ot rfl rfl Try.sizeOf26 rfl rfl rfl (by intro b hb; simp [bks, St.put] at hb ⊢; try first | exact hb | simp [hb] | (rcases hb with hb | hb <;> simp [hb]) | (rcases hb with hb | hb | hb <;> simp [hb])) ?_
       refine a1_ 12 rfl mv_ ?_
       refine AD.wk (y := ⟨66, [(0, _), (2, _), (4, _), (5, _), (6, _), (7, _)], [⟨b6, 26, 2, [_, _]⟩, ⟨b4, 26, 2, [_, _]⟩, ⟨b2, 26, 2, [_, _]⟩]⟩) (Wk.as_ rfl rfl ⟨lk, lk, lk, lk, lk, lk, trivial⟩) rfl ?_
       refine AD.done (by kernel_rfl) ?_
       refine CD.seq ?_
       refine sr_ ?_
       refine os_ mv_ ?_
       refine os_ bn_ ?_
       refine nm_ [0, 2, 4, 5, 6, 37] ?_
       refine CD.cond ot (fun hc2 => ?_) (fun hc2 => ?_)
       ·have hc2' := hc2
        (try simp only [V.cnd, ne_eq] at hc2')
        refine CD.region ?_
        refine os_ (lab_ 0 [_, _]) ?_
        refine OD.store (k := 1) (cs' := [_, _]) (wants_plain rfl) rfl rfl ot rfl rfl ot rfl rfl Try.sizeOf26 rfl rfl rfl ?_
        refine OD.wk (Wk.as_ (n := 66) (l' := [(0, _), (2, _), (4, _), (5, _)]) (S' := [⟨b6, 26, 2, [_, _]⟩, ⟨b4, 26, 2, [_, _]⟩, ⟨b2, 26, 2, [_, _]⟩]) rfl rfl ⟨lk, lk, lk, lk, trivial⟩) ?_
        refine OD.nil ?_
        refine CD.exit ?_
        refine CD.region ?_
        refine os_ mv_ ?_
        refine os_ bn_ ?_
        refine os_ mv_ ?_
        refine nm_ [0, 2, 4, 5] ?_
        refine ⟨((i + 1), (delT T (hOf T) (keyN l[i]))), ⟨66, [(0, .list 1 (l.flatMap cI) l.length), (2, .v (.pointer (some ⟨b2, 0, none⟩))), (4, .v (.pointer (some ⟨b4, 0, none⟩))), (5, .v (.int .i64 (((i + 1)) : Nat)))], [⟨b4, 26, 2, [.list 5 ((((delT T (hOf T) (keyN l[i])))).pages.flatMap cP) (((delT T (hOf T) (keyN l[i])))).pages.length, .v (.int .i64 (((delT T (hOf T) (keyN l[i])))).root)]⟩, ⟨b2, 26, 2, [.v (.slice none 0 0), .v (.int .i64 0)]⟩]⟩, ?_, Wk.asS (n := 66) rfl (by repeat (first | exact List.Sublist.refl _ | apply List.Sublist.cons)) ⟨(by (repeat (first | exact look_hit | (apply look_at; focus (first | rfl | (simp; done) | (congr 2; omega))) | (apply look_miss; focus rfl))); done), (by (repeat (first | exact look_hit | (apply look_at; focus (first | rfl | (simp; done) | (congr 2; omega))) | (apply look_miss; focus rfl))); done), (by (repeat (first | exact look_hit | (apply look_at; focus (first | rfl | (simp; done) | (congr 2; omega))) | (apply look_miss; focus rfl))); done), (by (repeat (first | exact look_hit | (apply look_at; focus (first | rfl | (simp; done) | (congr 2; omega))) | (apply look_miss; focus rfl))); done), trivial⟩, (by omega), (by omega), (by rw [treeN_succ hil, ← hT]; unfold stepT; rw [if_pos hneg, if_pos hth]), rfl⟩
        first | omega | (simp only []; omega)
       ·exact absurd hc2 (by simp at hc2)
     ·skip
      refine AStep.alloc (ds := [_, _]) rfl (wants_plain rfl) rfl rfl Try.zeroValue26 rfl (fun b6 => ?_)
      refine AD.one (i := 5) (by kernel_rfl) ?_
      refine AStep.callP rfl (wants_plain rfl) rfl rfl rfl Try.call15 (key_vpN _ x1 x2) ⟨ot, trivial⟩ ?_
      refine AD.one (i := 6) (by kernel_rfl) ?_
      refine AStep.callP rfl (wants_plain rfl) rfl rfl rfl Try.call20 (hdv) ⟨ot, ot, trivial⟩ ?_
      refine a1_ 7 rfl mv_ ?_
      refine a1_ 8 rfl ex_ ?_
      refine a1_ 9 rfl ex_ ?_
      refine AD.one (i := 11) (by kernel_rfl) ?_
      refine AStep.store (k := 0) (cs' := [_, _]) rfl (wants_plain rfl) rfl rfl ot rfl rfl ot rfl rfl Try.sizeOf26 rfl rfl rfl (by intro b hb; simp [bks, St.put] at hb ⊢; try first | exact hb | simp [hb] | (rcases hb with hb | hb <;> simp [hb]) | (rcases hb with hb | hb | hb <;> simp [hb])) ?_
      refine a1_ 12 rfl mv_ ?_
      refine AD.wk (y := ⟨66, [(0, _), (2, _), (4, _), (5, _), (6, _), (7, _)], [⟨b6, 26, 2, [_, _]⟩, ⟨b4, 26, 2, [_, _]⟩, ⟨b2, 26, 2, [_, _]⟩]⟩) (Wk.as_ rfl rfl ⟨lk, lk, lk, lk, lk, lk, trivial⟩) rfl ?_
      refine AD.done (by kernel_rfl) ?_
      refine CD.seq ?_
      refine sr_ ?_
      refine os_ mv_ ?_
      refine os_ bn_ ?_
      refine nm_ [0, 2, 4, 5, 6, 37] ?_
      refine CD.cond ot (fun hc2 => ?_) (fun hc2 => ?_)
      ·have hc2' := hc2
       (try simp only [V.cnd, ne_eq] at hc2')
       refine CD.region ?_
       refine os_ (lab_ 0 [_, _]) ?_
       refine OD.store (k := 1) (cs' := [_, _]) (wants_plain rfl) rfl rfl ot rfl rfl ot rfl rfl Try.sizeOf26 rfl rfl rfl ?_
       refine OD.wk (Wk.as_ (n := 66) (l' := [(0, _), (2, _), (4, _), (5, _)]) (S' := [⟨b6, 26, 2, [_, _]⟩, ⟨b4, 26, 2, [_, _]⟩, ⟨b2, 26, 2, [_, _]⟩]) rfl rfl ⟨lk, lk, lk, lk, trivial⟩) ?_
       refine OD.nil ?_
       refine CD.exit ?_
       refine CD.region ?_
       refine os_ mv_ ?_
       refine os_ bn_ ?_
       refine os_ mv_ ?_
       refine nm_ [0, 2, 4, 5] ?_
       refine ⟨((i + 1), (delT T (hOf T) (keyN l[i]))), ⟨66, [(0, .list 1 (l.flatMap cI) l.length), (2, .v (.pointer (some ⟨b2, 0, none⟩))), (4, .v (.pointer (some ⟨b4, 0, none⟩))), (5, .v (.int .i64 (((i + 1)) : Nat)))], [⟨b4, 26, 2, [.list 5 ((((delT T (hOf T) (keyN l[i])))).pages.flatMap cP) (((delT T (hOf T) (keyN l[i])))).pages.length, .v (.int .i64 (((delT T (hOf T) (keyN l[i])))).root)]⟩, ⟨b2, 26, 2, [.v (.slice none 0 0), .v (.int .i64 0)]⟩]⟩, ?_, Wk.asS (n := 66) rfl (by repeat (first | exact List.Sublist.refl _ | apply List.Sublist.cons)) ⟨(by (repeat (first | exact look_hit | (apply look_at; focus (first | rfl | (simp; done) | (congr 2; omega))) | (apply look_miss; focus rfl))); done), (by (repeat (first | exact look_hit | (apply look_at; focus (first | rfl | (simp; done) | (congr 2; omega))) | (apply look_miss; focus rfl))); done), (by (repeat (first | exact look_hit | (apply look_at; focus (first | rfl | (simp; done) | (congr 2; omega))) | (apply look_miss; focus rfl))); done), (by (repeat (first | exact look_hit | (apply look_at; focus (first | rfl | (simp; done) | (congr 2; omega))) | (apply look_miss; focus rfl))); done), trivial⟩, (by omega), (by omega), (by rw [treeN_succ hil, ← hT]; unfold stepT; rw [if_pos hneg, if_pos hth]), rfl⟩
       first | omega | (simp only []; omega)
      ·exact absurd hc2 (by simp at hc2)
   ·have hc1' := hc1
    (try simp only [V.cnd, ne_eq] at hc1')
    have hneg : ¬ l[i] < 0 := by simpa using hc1
    refine CD.skip ?_
    refine CD.seq ?_
    rcases hth : thereB T (keyN l[i]) (hOf T) with _ | _
    ·skip
     have hdv := insert_g (G := G) g (keyN l[i]) (i : Nat)
     rw [ins_no g (by omega) (keyN_ok _) (by omega) hth] at hdv
     unfold cT at hdv
     refine CD.draw (bks _) (by kernel_rfl) (fun _ h => h) ?_
     refine a0_ 0 rfl (lab_ 0 [_, _]) ?_
     refine a0_ 1 rfl mv_ ?_
     refine a0_ 2 rfl mv_ ?_
     refine a0_ 3 rfl (ix_ 1 (h := by first | exact .l (j := i) rfl hil | exact .r (j := i) rfl hil)) ?_
     refine a0_ 4 rfl ld_ ?_
     refine a0_ 6 rfl mv_ ?_
     refine AD0.later rfl ?_
     refine AD.two (i := 5) (j := 11) (by kernel_rfl) ?_ ?_
     ·skip
      refine AStep.callP rfl (wants_plain rfl) rfl rfl rfl Try.call15 (key_vpN _ x1 x2) ⟨ot, trivial⟩ ?_
      refine AD.two (i := 7) (j := 11) (by kernel_rfl) ?_ ?_
      ·skip
       refine AStep.callP rfl (wants_plain rfl) rfl rfl rfl Try.call14 (hdv) ⟨ot, ot, ot, trivial⟩ ?_
       refine a1_ 8 rfl mv_ ?_
       refine a1_ 9 rfl ex_ ?_
       refine a1_ 10 rfl ex_ ?_
       refine AD.one (i := 11) (by kernel_rfl) ?_
       refine AStep.alloc (ds := [_, _]) rfl (wants_plain rfl) rfl rfl Try.zeroValue26 rfl (fun b8 => ?_)
       refine AD.one (i := 12) (by kernel_rfl) ?_
       refine AStep.store (k := 0) (cs' := [_, _]) rfl (wants_plain rfl) rfl rfl ot rfl rfl ot rfl rfl Try.sizeOf26 rfl rfl rfl (by intro b hb; simp [bks, St.put] at hb ⊢; try first | exact hb | simp [hb] | (rcases hb with hb | hb <;> simp [hb]) | (rcases hb with hb | hb | hb <;> simp [hb])) ?_
       refine a1_ 13 rfl mv_ ?_
       refine AD.wk (y := ⟨66, [(0, _), (2, _), (4, _), (5, _), (8, _), (9, _)], [⟨b8, 26, 2, [_, _]⟩, ⟨b4, 26, 2, [_, _]⟩, ⟨b2, 26, 2, [_, _]⟩]⟩) (Wk.as_ rfl rfl ⟨lk, lk, lk, lk, lk, lk, trivial⟩) rfl ?_
       refine AD.done (by kernel_rfl) ?_
       refine sr_ ?_
       refine os_ mv_ ?_
       refine os_ bn_ ?_
       refine nm_ [0, 2, 4, 5, 8, 9, 51] ?_
       refine CD.cond ot (fun hc3 => ?_) (fun hc3 => ?_)
       ·have hc3' := hc3
        (try simp only [V.cnd, ne_eq] at hc3')
        refine CD.region ?_
        refine os_ (lab_ 0 [_, _]) ?_
        refine OD.store (k := 1) (cs' := [_, _]) (wants_plain rfl) rfl rfl ot rfl rfl ot rfl rfl Try.sizeOf26 rfl rfl rfl ?_
        refine OD.wk (Wk.as_ (n := 66) (l' := [(0, _), (2, _), (4, _), (5, _)]) (S' := [⟨b8, 26, 2, [_, _]⟩, ⟨b4, 26, 2, [_, _]⟩, ⟨b2, 26, 2, [_, _]⟩]) rfl rfl ⟨lk, lk, lk, lk, trivial⟩) ?_
        refine OD.nil ?_
        refine CD.region ?_
        refine os_ mv_ ?_
        refine os_ bn_ ?_
        refine os_ mv_ ?_
        refine nm_ [0, 2, 4, 5] ?_
        refine ⟨((i + 1), (insT T (hOf T) (keyN l[i]) i)), ⟨66, [(0, .list 1 (l.flatMap cI) l.length), (2, .v (.pointer (some ⟨b2, 0, none⟩))), (4, .v (.pointer (some ⟨b4, 0, none⟩))), (5, .v (.int .i64 (((i + 1)) : Nat)))], [⟨b4, 26, 2, [.list 5 ((((insT T (hOf T) (keyN l[i]) i))).pages.flatMap cP) (((insT T (hOf T) (keyN l[i]) i))).pages.length, .v (.int .i64 (((insT T (hOf T) (keyN l[i]) i))).root)]⟩, ⟨b2, 26, 2, [.v (.slice none 0 0), .v (.int .i64 0)]⟩]⟩, ?_, Wk.asS (n := 66) rfl (by repeat (first | exact List.Sublist.refl _ | apply List.Sublist.cons)) ⟨(by (repeat (first | exact look_hit | (apply look_at; focus (first | rfl | (simp; done) | (congr 2; omega))) | (apply look_miss; focus rfl))); done), (by (repeat (first | exact look_hit | (apply look_at; focus (first | rfl | (simp; done) | (congr 2; omega))) | (apply look_miss; focus rfl))); done), (by (repeat (first | exact look_hit | (apply look_at; focus (first | rfl | (simp; done) | (congr 2; omega))) | (apply look_miss; focus rfl))); done), (by (repeat (first | exact look_hit | (apply look_at; focus (first | rfl | (simp; done) | (congr 2; omega))) | (apply look_miss; focus rfl))); done), trivial⟩, (by omega), (by omega), (by rw [treeN_succ hil, ← hT]; unfold stepT; rw [if_neg hneg, if_neg (by rw [hth]; decide)]), rfl⟩
        first | omega | (simp only []; omega)
       ·exact absurd hc3 (by simp at hc3)
      ·skip
       refine AStep.alloc (ds := [_, _]) rfl (wants_plain rfl) rfl rfl Try.zeroValue26 rfl (fun b8 => ?_)
       refine AD.one (i := 7) (by kernel_rfl) ?_
       refine AStep.callP rfl (wants_plain rfl) rfl rfl rfl Try.call14 (hdv) ⟨ot, ot, ot, trivial⟩ ?_
       refine a1_ 8 rfl mv_ ?_
       refine a1_ 9 rfl ex_ ?_
       refine a1_ 10 rfl ex_ ?_
       refine AD.one (i := 12) (by kernel_rfl) ?_
       refine AStep.store (k := 0) (cs' := [_, _]) rfl (wants_plain rfl) rfl rfl ot rfl rfl ot rfl rfl Try.sizeOf26 rfl rfl rfl (by intro b hb; simp [bks, St.put] at hb ⊢; try first | exact hb | simp [hb] | (rcases hb with hb | hb <;> simp [hb]) | (rcases hb with hb | hb | hb <;> simp [hb])) ?_
       refine a1_ 13 rfl mv_ ?_
       refine AD.wk (y := ⟨66, [(0, _), (2, _), (4, _), (5, _), (8, _), (9, _)], [⟨b8, 26, 2, [_, _]⟩, ⟨b4, 26, 2, [_, _]⟩, ⟨b2, 26, 2, [_, _]⟩]⟩) (Wk.as_ rfl rfl ⟨lk, lk, lk, lk, lk, lk, trivial⟩) rfl ?_
       refine AD.done (by kernel_rfl) ?_
       refine sr_ ?_
       refine os_ mv_ ?_
       refine os_ bn_ ?_
       refine nm_ [0, 2, 4, 5, 8, 9, 51] ?_
       refine CD.cond ot (fun hc3 => ?_) (fun hc3 => ?_)
       ·have hc3' := hc3
        (try simp only [V.cnd, ne_eq] at hc3')
        refine CD.region ?_
        refine os_ (lab_ 0 [_, _]) ?_
        refine OD.store (k := 1) (cs' := [_, _]) (wants_plain rfl) rfl rfl ot rfl rfl ot rfl rfl Try.sizeOf26 rfl rfl rfl ?_
        refine OD.wk (Wk.as_ (n := 66) (l' := [(0, _), (2, _), (4, _), (5, _)]) (S' := [⟨b8, 26, 2, [_, _]⟩, ⟨b4, 26, 2, [_, _]⟩, ⟨b2, 26, 2, [_, _]⟩]) rfl rfl ⟨lk, lk, lk, lk, trivial⟩) ?_
        refine OD.nil ?_
        refine CD.region ?_
        refine os_ mv_ ?_
        refine os_ bn_ ?_
        refine os_ mv_ ?_
        refine nm_ [0, 2, 4, 5] ?_
        refine ⟨((i + 1), (insT T (hOf T) (keyN l[i]) i)), ⟨66, [(0, .list 1 (l.flatMap cI) l.length), (2, .v (.pointer (some ⟨b2, 0, none⟩))), (4, .v (.pointer (some ⟨b4, 0, none⟩))), (5, .v (.int .i64 (((i + 1)) : Nat)))], [⟨b4, 26, 2, [.list 5 ((((insT T (hOf T) (keyN l[i]) i))).pages.flatMap cP) (((insT T (hOf T) (keyN l[i]) i))).pages.length, .v (.int .i64 (((insT T (hOf T) (keyN l[i]) i))).root)]⟩, ⟨b2, 26, 2, [.v (.slice none 0 0), .v (.int .i64 0)]⟩]⟩, ?_, Wk.asS (n := 66) rfl (by repeat (first | exact List.Sublist.refl _ | apply List.Sublist.cons)) ⟨(by (repeat (first | exact look_hit | (apply look_at; focus (first | rfl | (simp; done) | (congr 2; omega))) | (apply look_miss; focus rfl))); done), (by (repeat (first | exact look_hit | (apply look_at; focus (first | rfl | (simp; done) | (congr 2; omega))) | (apply look_miss; focus rfl))); done), (by (repeat (first | exact look_hit | (apply look_at; focus (first | rfl | (simp; done) | (congr 2; omega))) | (apply look_miss; focus rfl))); done), (by (repeat (first | exact look_hit | (apply look_at; focus (first | rfl | (simp; done) | (congr 2; omega))) | (apply look_miss; focus rfl))); done), trivial⟩, (by omega), (by omega), (by rw [treeN_succ hil, ← hT]; unfold stepT; rw [if_neg hneg, if_neg (by rw [hth]; decide)]), rfl⟩
        first | omega | (simp only []; omega)
       ·exact absurd hc3 (by simp at hc3)
     ·skip
      refine AStep.alloc (ds := [_, _]) rfl (wants_plain rfl) rfl rfl Try.zeroValue26 rfl (fun b8 => ?_)
      refine AD.one (i := 5) (by kernel_rfl) ?_
      refine AStep.callP rfl (wants_plain rfl) rfl rfl rfl Try.call15 (key_vpN _ x1 x2) ⟨ot, trivial⟩ ?_
      refine AD.one (i := 7) (by kernel_rfl) ?_
      refine AStep.callP rfl (wants_plain rfl) rfl rfl rfl Try.call14 (hdv) ⟨ot, ot, ot, trivial⟩ ?_
      refine a1_ 8 rfl mv_ ?_
      refine a1_ 9 rfl ex_ ?_
      refine a1_ 10 rfl ex_ ?_
      refine AD.one (i := 12) (by kernel_rfl) ?_
      refine AStep.store (k := 0) (cs' := [_, _]) rfl (wants_plain rfl) rfl rfl ot rfl rfl ot rfl rfl Try.sizeOf26 rfl rfl rfl (by intro b hb; simp [bks, St.put] at hb ⊢; try first | exact hb | simp [hb] | (rcases hb with hb | hb <;> simp [hb]) | (rcases hb with hb | hb | hb <;> simp [hb])) ?_
      refine a1_ 13 rfl mv_ ?_
      refine AD.wk (y := ⟨66, [(0, _), (2, _), (4, _), (5, _), (8, _), (9, _)], [⟨b8, 26, 2, [_, _]⟩, ⟨b4, 26, 2, [_, _]⟩, ⟨b2, 26, 2, [_, _]⟩]⟩) (Wk.as_ rfl rfl ⟨lk, lk, lk, lk, lk, lk, trivial⟩) rfl ?_
      refine AD.done (by kernel_rfl) ?_
      refine sr_ ?_
      refine os_ mv_ ?_
      refine os_ bn_ ?_
      refine nm_ [0, 2, 4, 5, 8, 9, 51] ?_
      refine CD.cond ot (fun hc3 => ?_) (fun hc3 => ?_)
      ·have hc3' := hc3
       (try simp only [V.cnd, ne_eq] at hc3')
       refine CD.region ?_
       refine os_ (lab_ 0 [_, _]) ?_
       refine OD.store (k := 1) (cs' := [_, _]) (wants_plain rfl) rfl rfl ot rfl rfl ot rfl rfl Try.sizeOf26 rfl rfl rfl ?_
       refine OD.wk (Wk.as_ (n := 66) (l' := [(0, _), (2, _), (4, _), (5, _)]) (S' := [⟨b8, 26, 2, [_, _]⟩, ⟨b4, 26, 2, [_, _]⟩, ⟨b2, 26, 2, [_, _]⟩]) rfl rfl ⟨lk, lk, lk, lk, trivial⟩) ?_
       refine OD.nil ?_
       refine CD.region ?_
       refine os_ mv_ ?_
       refine os_ bn_ ?_
       refine os_ mv_ ?_
       refine nm_ [0, 2, 4, 5] ?_
       refine ⟨((i + 1), (insT T (hOf T) (keyN l[i]) i)), ⟨66, [(0, .list 1 (l.flatMap cI) l.length), (2, .v (.pointer (some ⟨b2, 0, none⟩))), (4, .v (.pointer (some ⟨b4, 0, none⟩))), (5, .v (.int .i64 (((i + 1)) : Nat)))], [⟨b4, 26, 2, [.list 5 ((((insT T (hOf T) (keyN l[i]) i))).pages.flatMap cP) (((insT T (hOf T) (keyN l[i]) i))).pages.length, .v (.int .i64 (((insT T (hOf T) (keyN l[i]) i))).root)]⟩, ⟨b2, 26, 2, [.v (.slice none 0 0), .v (.int .i64 0)]⟩]⟩, ?_, Wk.asS (n := 66) rfl (by repeat (first | exact List.Sublist.refl _ | apply List.Sublist.cons)) ⟨(by (repeat (first | exact look_hit | (apply look_at; focus (first | rfl | (simp; done) | (congr 2; omega))) | (apply look_miss; focus rfl))); done), (by (repeat (first | exact look_hit | (apply look_at; focus (first | rfl | (simp; done) | (congr 2; omega))) | (apply look_miss; focus rfl))); done), (by (repeat (first | exact look_hit | (apply look_at; focus (first | rfl | (simp; done) | (congr 2; omega))) | (apply look_miss; focus rfl))); done), (by (repeat (first | exact look_hit | (apply look_at; focus (first | rfl | (simp; done) | (congr 2; omega))) | (apply look_miss; focus rfl))); done), trivial⟩, (by omega), (by omega), (by rw [treeN_succ hil, ← hT]; unfold stepT; rw [if_neg hneg, if_neg (by rw [hth]; decide)]), rfl⟩
       first | omega | (simp only []; omega)
      ·exact absurd hc3 (by simp at hc3)
    ·skip
     have hdv := insert_g (G := G) g (keyN l[i]) (i : Nat)
     rw [ins_yes g (keyN_ok _) (by omega) hth] at hdv
     unfold cT at hdv
     refine CD.draw (bks _) (by kernel_rfl) (fun _ h => h) ?_
     refine a0_ 0 rfl (lab_ 0 [_, _]) ?_
     refine a0_ 1 rfl mv_ ?_
     refine a0_ 2 rfl mv_ ?_
     refine a0_ 3 rfl (ix_ 1 (h := by first | exact .l (j := i) rfl hil | exact .r (j := i) rfl hil)) ?_
     refine a0_ 4 rfl ld_ ?_
     refine a0_ 6 rfl mv_ ?_
     refine AD0.later rfl ?_
     refine AD.two (i := 5) (j := 11) (by kernel_rfl) ?_ ?_
     ·skip
      refine AStep.callP rfl (wants_plain rfl) rfl rfl rfl Try.call15 (key_vpN _ x1 x2) ⟨ot, trivial⟩ ?_
      refine AD.two (i := 7) (j := 11) (by kernel_rfl) ?_ ?_
      ·skip
       refine AStep.callP rfl (wants_plain rfl) rfl rfl rfl Try.call14 (hdv) ⟨ot, ot, ot, trivial⟩ ?_
       refine a1_ 8 rfl mv_ ?_
       refine a1_ 9 rfl ex_ ?_
       refine a1_ 10 rfl ex_ ?_
       refine AD.one (i := 11) (by kernel_rfl) ?_
       refine AStep.alloc (ds := [_, _]) rfl (wants_plain rfl) rfl rfl Try.zeroValue26 rfl (fun b8 => ?_)
       refine AD.one (i := 12) (by kernel_rfl) ?_
       refine AStep.store (k := 0) (cs' := [_, _]) rfl (wants_plain rfl) rfl rfl ot rfl rfl ot rfl rfl Try.sizeOf26 rfl rfl rfl (by intro b hb; simp [bks, St.put] at hb ⊢; try first | exact hb | simp [hb] | (rcases hb with hb | hb <;> simp [hb]) | (rcases hb with hb | hb | hb <;> simp [hb])) ?_
       refine a1_ 13 rfl mv_ ?_
       refine AD.wk (y := ⟨66, [(0, _), (2, _), (4, _), (5, _), (8, _), (9, _)], [⟨b8, 26, 2, [_, _]⟩, ⟨b4, 26, 2, [_, _]⟩, ⟨b2, 26, 2, [_, _]⟩]⟩) (Wk.as_ rfl rfl ⟨lk, lk, lk, lk, lk, lk, trivial⟩) rfl ?_
       refine AD.done (by kernel_rfl) ?_
       refine sr_ ?_
       refine os_ mv_ ?_
       refine os_ bn_ ?_
       refine nm_ [0, 2, 4, 5, 8, 9, 51] ?_
       refine CD.cond ot (fun hc3 => ?_) (fun hc3 => ?_)
       ·exact absurd hc3 (by simp at hc3)
       ·have hc3' := hc3
        (try simp only [V.cnd, ne_eq] at hc3')
        refine sr_ ?_
        refine os_ mv_ ?_
        refine os_ bn_ ?_
        refine nm_ [0, 2, 4, 5, 54] ?_
        refine CD.cond ot (fun hc4 => ?_) (fun hc4 => ?_)
        ·exact absurd hc4 (by simp at hc4)
        ·have hc4' := hc4
         (try simp only [V.cnd, ne_eq] at hc4')
         refine CD.skip ?_
         refine CD.region ?_
         refine os_ mv_ ?_
         refine os_ bn_ ?_
         refine os_ mv_ ?_
         refine nm_ [0, 2, 4, 5] ?_
         refine ⟨((i + 1), T), ⟨66, [(0, .list 1 (l.flatMap cI) l.length), (2, .v (.pointer (some ⟨b2, 0, none⟩))), (4, .v (.pointer (some ⟨b4, 0, none⟩))), (5, .v (.int .i64 (((i + 1)) : Nat)))], [⟨b4, 26, 2, [.list 5 ((T).pages.flatMap cP) (T).pages.length, .v (.int .i64 (T).root)]⟩, ⟨b2, 26, 2, [.v (.slice none 0 0), .v (.int .i64 0)]⟩]⟩, ?_, Wk.asS (n := 66) rfl (by repeat (first | exact List.Sublist.refl _ | apply List.Sublist.cons)) ⟨(by (repeat (first | exact look_hit | (apply look_at; focus (first | rfl | (simp; done) | (congr 2; omega))) | (apply look_miss; focus rfl))); done), (by (repeat (first | exact look_hit | (apply look_at; focus (first | rfl | (simp; done) | (congr 2; omega))) | (apply look_miss; focus rfl))); done), (by (repeat (first | exact look_hit | (apply look_at; focus (first | rfl | (simp; done) | (congr 2; omega))) | (apply look_miss; focus rfl))); done), (by (repeat (first | exact look_hit | (apply look_at; focus (first | rfl | (simp; done) | (congr 2; omega))) | (apply look_miss; focus rfl))); done), trivial⟩, (by omega), (by omega), (by rw [treeN_succ hil, ← hT]; unfold stepT; rw [if_neg hneg, if_pos hth]), rfl⟩
         first | omega | (simp only []; omega)
      ·skip
       refine AStep.alloc (ds := [_, _]) rfl (wants_plain rfl) rfl rfl Try.zeroValue26 rfl (fun b8 => ?_)
       refine AD.one (i := 7) (by kernel_rfl) ?_
       refine AStep.callP rfl (wants_plain rfl) rfl rfl rfl Try.call14 (hdv) ⟨ot, ot, ot, trivial⟩ ?_
       refine a1_ 8 rfl mv_ ?_
       refine a1_ 9 rfl ex_ ?_
       refine a1_ 10 rfl ex_ ?_
       refine AD.one (i := 12) (by kernel_rfl) ?_
       refine AStep.store (k := 0) (cs' := [_, _]) rfl (wants_plain rfl) rfl rfl ot rfl rfl ot rfl rfl Try.sizeOf26 rfl rfl rfl (by intro b hb; simp [bks, St.put] at hb ⊢; try first | exact hb | simp [hb] | (rcases hb with hb | hb <;> simp [hb]) | (rcases hb with hb | hb | hb <;> simp [hb])) ?_
       refine a1_ 13 rfl mv_ ?_
       refine AD.wk (y := ⟨66, [(0, _), (2, _), (4, _), (5, _), (8, _), (9, _)], [⟨b8, 26, 2, [_, _]⟩, ⟨b4, 26, 2, [_, _]⟩, ⟨b2, 26, 2, [_, _]⟩]⟩) (Wk.as_ rfl rfl ⟨lk, lk, lk, lk, lk, lk, trivial⟩) rfl ?_
       refine AD.done (by kernel_rfl) ?_
       refine sr_ ?_
       refine os_ mv_ ?_
       refine os_ bn_ ?_
       refine nm_ [0, 2, 4, 5, 8, 9, 51] ?_
       refine CD.cond ot (fun hc3 => ?_) (fun hc3 => ?_)
       ·exact absurd hc3 (by simp at hc3)
       ·have hc3' := hc3
        (try simp only [V.cnd, ne_eq] at hc3')
        refine sr_ ?_
        refine os_ mv_ ?_
        refine os_ bn_ ?_
        refine nm_ [0, 2, 4, 5, 54] ?_
        refine CD.cond ot (fun hc4 => ?_) (fun hc4 => ?_)
        ·exact absurd hc4 (by simp at hc4)
        ·have hc4' := hc4
         (try simp only [V.cnd, ne_eq] at hc4')
         refine CD.skip ?_
         refine CD.region ?_
         refine os_ mv_ ?_
         refine os_ bn_ ?_
         refine os_ mv_ ?_
         refine nm_ [0, 2, 4, 5] ?_
         refine ⟨((i + 1), T), ⟨66, [(0, .list 1 (l.flatMap cI) l.length), (2, .v (.pointer (some ⟨b2, 0, none⟩))), (4, .v (.pointer (some ⟨b4, 0, none⟩))), (5, .v (.int .i64 (((i + 1)) : Nat)))], [⟨b4, 26, 2, [.list 5 ((T).pages.flatMap cP) (T).pages.length, .v (.int .i64 (T).root)]⟩, ⟨b2, 26, 2, [.v (.slice none 0 0), .v (.int .i64 0)]⟩]⟩, ?_, Wk.asS (n := 66) rfl (by repeat (first | exact List.Sublist.refl _ | apply List.Sublist.cons)) ⟨(by (repeat (first | exact look_hit | (apply look_at; focus (first | rfl | (simp; done) | (congr 2; omega))) | (apply look_miss; focus rfl))); done), (by (repeat (first | exact look_hit | (apply look_at; focus (first | rfl | (simp; done) | (congr 2; omega))) | (apply look_miss; focus rfl))); done), (by (repeat (first | exact look_hit | (apply look_at; focus (first | rfl | (simp; done) | (congr 2; omega))) | (apply look_miss; focus rfl))); done), (by (repeat (first | exact look_hit | (apply look_at; focus (first | rfl | (simp; done) | (congr 2; omega))) | (apply look_miss; focus rfl))); done), trivial⟩, (by omega), (by omega), (by rw [treeN_succ hil, ← hT]; unfold stepT; rw [if_neg hneg, if_pos hth]), rfl⟩
         first | omega | (simp only []; omega)
     ·skip
      refine AStep.alloc (ds := [_, _]) rfl (wants_plain rfl) rfl rfl Try.zeroValue26 rfl (fun b8 => ?_)
      refine AD.one (i := 5) (by kernel_rfl) ?_
      refine AStep.callP rfl (wants_plain rfl) rfl rfl rfl Try.call15 (key_vpN _ x1 x2) ⟨ot, trivial⟩ ?_
      refine AD.one (i := 7) (by kernel_rfl) ?_
      refine AStep.callP rfl (wants_plain rfl) rfl rfl rfl Try.call14 (hdv) ⟨ot, ot, ot, trivial⟩ ?_
      refine a1_ 8 rfl mv_ ?_
      refine a1_ 9 rfl ex_ ?_
      refine a1_ 10 rfl ex_ ?_
      refine AD.one (i := 12) (by kernel_rfl) ?_
      refine AStep.store (k := 0) (cs' := [_, _]) rfl (wants_plain rfl) rfl rfl ot rfl rfl ot rfl rfl Try.sizeOf26 rfl rfl rfl (by intro b hb; simp [bks, St.put] at hb ⊢; try first | exact hb | simp [hb] | (rcases hb with hb | hb <;> simp [hb]) | (rcases hb with hb | hb | hb <;> simp [hb])) ?_
      refine a1_ 13 rfl mv_ ?_
      refine AD.wk (y := ⟨66, [(0, _), (2, _), (4, _), (5, _), (8, _), (9, _)], [⟨b8, 26, 2, [_, _]⟩, ⟨b4, 26, 2, [_, _]⟩, ⟨b2, 26, 2, [_, _]⟩]⟩) (Wk.as_ rfl rfl ⟨lk, lk, lk, lk, lk, lk, trivial⟩) rfl ?_
      refine AD.done (by kernel_rfl) ?_
      refine sr_ ?_
      refine os_ mv_ ?_
      refine os_ bn_ ?_
      refine nm_ [0, 2, 4, 5, 8, 9, 51] ?_
      refine CD.cond ot (fun hc3 => ?_) (fun hc3 => ?_)
      ·exact absurd hc3 (by simp at hc3)
      ·have hc3' := hc3
       (try simp only [V.cnd, ne_eq] at hc3')
       refine sr_ ?_
       refine os_ mv_ ?_
       refine os_ bn_ ?_
       refine nm_ [0, 2, 4, 5, 54] ?_
       refine CD.cond ot (fun hc4 => ?_) (fun hc4 => ?_)
       ·exact absurd hc4 (by simp at hc4)
       ·have hc4' := hc4
        (try simp only [V.cnd, ne_eq] at hc4')
        refine CD.skip ?_
        refine CD.region ?_
        refine os_ mv_ ?_
        refine os_ bn_ ?_
        refine os_ mv_ ?_
        refine nm_ [0, 2, 4, 5] ?_
        refine ⟨((i + 1), T), ⟨66, [(0, .list 1 (l.flatMap cI) l.length), (2, .v (.pointer (some ⟨b2, 0, none⟩))), (4, .v (.pointer (some ⟨b4, 0, none⟩))), (5, .v (.int .i64 (((i + 1)) : Nat)))], [⟨b4, 26, 2, [.list 5 ((T).pages.flatMap cP) (T).pages.length, .v (.int .i64 (T).root)]⟩, ⟨b2, 26, 2, [.v (.slice none 0 0), .v (.int .i64 0)]⟩]⟩, ?_, Wk.asS (n := 66) rfl (by repeat (first | exact List.Sublist.refl _ | apply List.Sublist.cons)) ⟨(by (repeat (first | exact look_hit | (apply look_at; focus (first | rfl | (simp; done) | (congr 2; omega))) | (apply look_miss; focus rfl))); done), (by (repeat (first | exact look_hit | (apply look_at; focus (first | rfl | (simp; done) | (congr 2; omega))) | (apply look_miss; focus rfl))); done), (by (repeat (first | exact look_hit | (apply look_at; focus (first | rfl | (simp; done) | (congr 2; omega))) | (apply look_miss; focus rfl))); done), (by (repeat (first | exact look_hit | (apply look_at; focus (first | rfl | (simp; done) | (congr 2; omega))) | (apply look_miss; focus rfl))); done), trivial⟩, (by omega), (by omega), (by rw [treeN_succ hil, ← hT]; unfold stepT; rw [if_neg hneg, if_pos hth]), rfl⟩
        first | omega | (simp only []; omega)
  ·have hc0' := hc0
   (try simp only [V.cnd, ne_eq] at hc0')
   have hend : i = min l.length 70 := by simp_all; omega
   subst hT
   have g : GoodT (treeL l) 70 := good_treeL l
   have hTl : treeN l i = treeL l := by rw [hend]; rfl
   rw [hTl]
   have hcv := check_g (G := G) g
   unfold cT at hcv
   refine CD.exit ?_
   refine CD.seq ?_
   refine CD.draw (bks (List.eraseIdx _ 1)) (by kernel_rfl) (fun _ h => (List.Sublist.map _ (List.eraseIdx_sublist _ 1)).subset h) ?_
   refine a0_ 0 rfl (lab_ 0 [_, _]) ?_
   refine a0_ 1 rfl (lab_ 0 [_, _]) ?_
   refine AD0.later rfl ?_
   refine AD.one (i := 2) (by kernel_rfl) ?_
   refine AStep.callP rfl (wants_plain rfl) rfl rfl rfl Try.call19 (hcv) ⟨ot, trivial⟩ ?_
   refine a1_ 3 rfl bn_ ?_
   refine a1_ 4 rfl mv_ ?_
   refine AD.split (t := 60) lk (fun hg60 => ?_) (fun hg60 => ?_)
   ·have hg60' := hg60; (try simp only [V.cnd, ne_eq] at hg60')
    refine a1_ 5 rfl (fa_ 0) ?_
    refine AD.two (i := 6) (j := 10) (by kernel_rfl) ?_ ?_
    ·skip
     refine at_ rfl (lb_ 0) ?_
     refine a1_ 7 rfl ln_ ?_
     refine a1_ 8 rfl bn_ ?_
     refine a1_ 9 rfl pkT_ ?_
     refine AD.one (i := 10) (by kernel_rfl) ?_
     refine AStep.store (k := 1) (cs' := [_, _]) rfl (wants_plain rfl) rfl rfl ot rfl rfl ot rfl rfl Try.sizeOf26 rfl rfl rfl (by intro b hb; simp [bks, St.put] at hb ⊢; try first | exact hb | simp [hb] | (rcases hb with hb | hb <;> simp [hb]) | (rcases hb with hb | hb | hb <;> simp [hb])) ?_
     refine a1_ 11 rfl mv_ ?_
     refine AD.wk (y := ⟨66, [(2, _), (3, _)], [⟨b4, 26, 2, [_, _]⟩, ⟨b2, 26, 2, [_, _]⟩]⟩) (Wk.as_ rfl rfl ⟨lk, lk, trivial⟩) rfl ?_
     refine AD.done (by kernel_rfl) ?_
     refine CD.ret ?_
     refine ⟨.inr rfl, _, [], List.nil_sublist _, ret_two Try.results17 (res_cells (k := 1) (ds := [_, _]) (Nat.le_of_ble_eq_true rfl) lk rfl rfl Try.isAgg26 Try.sizeOf26 rfl rfl) (res_tmp (Nat.le_of_ble_eq_true rfl) lk), ?_⟩
     have hpos := g.val.pos
     exact ⟨by rw [show decide (((treeL l).pages.length : Int) > 0) = true from decide_eq_true (by omega)]; rfl, rfl⟩
    ·skip
     refine AStep.store (k := 1) (cs' := [_, _]) rfl (wants_plain rfl) rfl rfl ot rfl rfl ot rfl rfl Try.sizeOf26 rfl rfl rfl (by intro b hb; simp [bks, St.put] at hb ⊢; try first | exact hb | simp [hb] | (rcases hb with hb | hb <;> simp [hb]) | (rcases hb with hb | hb | hb <;> simp [hb])) ?_
     refine AD.one (i := 6) (by kernel_rfl) ?_
     refine at_ rfl (lb_ 0) ?_
     refine a1_ 7 rfl ln_ ?_
     refine a1_ 8 rfl bn_ ?_
     refine a1_ 9 rfl pkT_ ?_
     refine a1_ 11 rfl mv_ ?_
     refine AD.wk (y := ⟨66, [(2, _), (3, _)], [⟨b4, 26, 2, [_, _]⟩, ⟨b2, 26, 2, [_, _]⟩]⟩) (Wk.as_ rfl rfl ⟨lk, lk, trivial⟩) rfl ?_
     refine AD.done (by kernel_rfl) ?_
     refine CD.ret ?_
     refine ⟨.inr rfl, _, [], List.nil_sublist _, ret_two Try.results17 (res_cells (k := 1) (ds := [_, _]) (Nat.le_of_ble_eq_true rfl) lk rfl rfl Try.isAgg26 Try.sizeOf26 rfl rfl) (res_tmp (Nat.le_of_ble_eq_true rfl) lk), ?_⟩
     have hpos := g.val.pos
     exact ⟨by rw [show decide (((treeL l).pages.length : Int) > 0) = true from decide_eq_true (by omega)]; rfl, rfl⟩
   ·exact absurd hg60 (by simp at hg60)
 ·have hg15' := hg15; (try simp only [V.cnd, ne_eq] at hg15')
  refine sk_ ?_
  refine sk_ ?_
  refine os_ pkF_ ?_
  refine nm_ [0, 2, 4, 5, 18] ?_
  refine CD.condF ot (by first | rfl | assumption) ?_
  have hend : i = min l.length 70 := by simp_all; omega
  subst hT
  have g : GoodT (treeL l) 70 := good_treeL l
  have hTl : treeN l i = treeL l := by rw [hend]; rfl
  rw [hTl]
  have hcv := check_g (G := G) g
  unfold cT at hcv
  refine CD.exit ?_
  refine CD.seq ?_
  refine CD.draw (bks (List.eraseIdx _ 1)) (by kernel_rfl) (fun _ h => (List.Sublist.map _ (List.eraseIdx_sublist _ 1)).subset h) ?_
  refine a0_ 0 rfl (lab_ 0 [_, _]) ?_
  refine a0_ 1 rfl (lab_ 0 [_, _]) ?_
  refine AD0.later rfl ?_
  refine AD.one (i := 2) (by kernel_rfl) ?_
  refine AStep.callP rfl (wants_plain rfl) rfl rfl rfl Try.call19 (hcv) ⟨ot, trivial⟩ ?_
  refine a1_ 3 rfl bn_ ?_
  refine a1_ 4 rfl mv_ ?_
  refine AD.split (t := 60) lk (fun hg60 => ?_) (fun hg60 => ?_)
  ·have hg60' := hg60; (try simp only [V.cnd, ne_eq] at hg60')
   refine a1_ 5 rfl (fa_ 0) ?_
   refine AD.two (i := 6) (j := 10) (by kernel_rfl) ?_ ?_
   ·skip
    refine at_ rfl (lb_ 0) ?_
    refine a1_ 7 rfl ln_ ?_
    refine a1_ 8 rfl bn_ ?_
    refine a1_ 9 rfl pkT_ ?_
    refine AD.one (i := 10) (by kernel_rfl) ?_
    refine AStep.store (k := 1) (cs' := [_, _]) rfl (wants_plain rfl) rfl rfl ot rfl rfl ot rfl rfl Try.sizeOf26 rfl rfl rfl (by intro b hb; simp [bks, St.put] at hb ⊢; try first | exact hb | simp [hb] | (rcases hb with hb | hb <;> simp [hb]) | (rcases hb with hb | hb | hb <;> simp [hb])) ?_
    refine a1_ 11 rfl mv_ ?_
    refine AD.wk (y := ⟨66, [(2, _), (3, _)], [⟨b4, 26, 2, [_, _]⟩, ⟨b2, 26, 2, [_, _]⟩]⟩) (Wk.as_ rfl rfl ⟨lk, lk, trivial⟩) rfl ?_
    refine AD.done (by kernel_rfl) ?_
    refine CD.ret ?_
    refine ⟨.inr rfl, _, [], List.nil_sublist _, ret_two Try.results17 (res_cells (k := 1) (ds := [_, _]) (Nat.le_of_ble_eq_true rfl) lk rfl rfl Try.isAgg26 Try.sizeOf26 rfl rfl) (res_tmp (Nat.le_of_ble_eq_true rfl) lk), ?_⟩
    have hpos := g.val.pos
    exact ⟨by rw [show decide (((treeL l).pages.length : Int) > 0) = true from decide_eq_true (by omega)]; rfl, rfl⟩
   ·skip
    refine AStep.store (k := 1) (cs' := [_, _]) rfl (wants_plain rfl) rfl rfl ot rfl rfl ot rfl rfl Try.sizeOf26 rfl rfl rfl (by intro b hb; simp [bks, St.put] at hb ⊢; try first | exact hb | simp [hb] | (rcases hb with hb | hb <;> simp [hb]) | (rcases hb with hb | hb | hb <;> simp [hb])) ?_
    refine AD.one (i := 6) (by kernel_rfl) ?_
    refine at_ rfl (lb_ 0) ?_
    refine a1_ 7 rfl ln_ ?_
    refine a1_ 8 rfl bn_ ?_
    refine a1_ 9 rfl pkT_ ?_
    refine a1_ 11 rfl mv_ ?_
    refine AD.wk (y := ⟨66, [(2, _), (3, _)], [⟨b4, 26, 2, [_, _]⟩, ⟨b2, 26, 2, [_, _]⟩]⟩) (Wk.as_ rfl rfl ⟨lk, lk, trivial⟩) rfl ?_
    refine AD.done (by kernel_rfl) ?_
    refine CD.ret ?_
    refine ⟨.inr rfl, _, [], List.nil_sublist _, ret_two Try.results17 (res_cells (k := 1) (ds := [_, _]) (Nat.le_of_ble_eq_true rfl) lk rfl rfl Try.isAgg26 Try.sizeOf26 rfl rfl) (res_tmp (Nat.le_of_ble_eq_true rfl) lk), ?_⟩
    have hpos := g.val.pos
    exact ⟨by rw [show decide (((treeL l).pages.length : Int) > 0) = true from decide_eq_true (by omega)]; rfl, rfl⟩
  ·exact absurd hg60 (by simp at hg60)

end Go.Proofs.Ythnobhekodiciaa.Tw

namespace Go.Proofs.Ythnobhekodiciaa.Tw
open Go.RowKit V Go.Proofs.Ythnobhekodiciaa.Tr Pk
set_option linter.unusedVariables false
set_option linter.unusedSimpArgs false

open Go.Lib (compareBytes)
theorem rd_ints {H : Type} {enc : TypeId × Value → H} {w : World} {base b' : Nat} {sp : Nat → Bool} {held : Bool} {v : Value} {d : DataW H} {p : List MemPlace} (hval : Value.okWide Try.prog w .any b' 22 v) (h : DataW.Trod enc Try.prog w base sp held 22 v d p) :
  ∃ l : List Int, Rep w (fun _ => False) (.list 1 (l.flatMap cI) l.length) v ∧ (l.length ≤ maxLen ∧ WfI l) ∧ True := by
 obtain ⟨l, h1, h2, h3⟩ := rd_slice Try.underlying22 (by kernel_rfl) (by decide) (rd_int Try.underlying3) cI_len hval h
 exact ⟨l, h1, ⟨h3, h2⟩, trivial⟩
theorem str_of (a : K) : (⟨a.toArray⟩ : ByteArray).toList = a := by rw [str_list]
theorem str_eq (a b : K) : ((⟨a.toArray⟩ : ByteArray).toList == (⟨b.toArray⟩ : ByteArray).toList) = decide (a = b) := by
 rw [str_of, str_of]; by_cases h : a = b <;> simp [h]
theorem lt_nat {a b : UInt8} : a < b ↔ a.toNat < b.toNat := UInt8.lt_iff_toNat_lt
theorem less_cb0 : ∀ (x y : K), Op.bytesLess x y = decide (compareBytes x y < 0)
 | [], [] => rfl
 | [], _ :: _ => rfl
 | _ :: _, [] => rfl
 | a :: x, b :: y => by
  have ih := less_cb0 x y
  rw [cbb, Op.bytesLess]
  rcases Nat.lt_trichotomy a.toNat b.toNat with h | h | h
  ·rw [if_pos (lt_nat.2 h)]; simp [lt_nat, h]
  ·have e : a = b := UInt8.toNat_inj.1 h
   subst e
   rw [if_neg (by rw [lt_nat]; omega), if_neg (by rw [lt_nat]; omega), ← ih]; simp [lt_nat]
  ·rw [if_neg (by rw [lt_nat]; omega), if_pos (lt_nat.2 h)]
   have hne : ¬ a = b := fun e => by subst e; omega
   have hnl : ¬ a < b := by rw [lt_nat]; omega
   simp [hne, hnl]
theorem less_cb (x y : K) : Op.bytesLess x y = decide (klt x y) := by
 rw [less_cb0]; unfold klt
 by_cases h : compareBytes x y < 0 <;> simp [h]
theorem str_lt (a b : K) : Op.bytesLess (⟨a.toArray⟩ : ByteArray).toList (⟨b.toArray⟩ : ByteArray).toList = decide (klt a b) := by rw [str_of, str_of, less_cb]
variable {G : List (Nat × List Value)}

end Go.Proofs.Ythnobhekodiciaa.Tw

namespace Go.Proofs.Ythnobhekodiciaa.Tw
end Go.Proofs.Ythnobhekodiciaa.Tw


namespace Go.Proofs.Ythnobhekodiciaa.Tw
open Go.RowKit V Go.Proofs.Ythnobhekodiciaa.Tr Pk
set_option linter.unusedVariables false
set_option linter.unusedSimpArgs false

/-- Does an entry lie within bounds? -/
noncomputable def midQ (f to : K) (x : K × Int) : Bool := decide (¬ klt x.1 f) && decide (¬ klt to x.1)
theorem str_le (a b : K) : (Op.bytesLess (⟨a.toArray⟩ : ByteArray).toList (⟨b.toArray⟩ : ByteArray).toList || (⟨a.toArray⟩ : ByteArray).toList == (⟨b.toArray⟩ : ByteArray).toList) = decide (¬ klt b a) := by
 rw [str_lt, str_eq]
 rcases klt_or a b with h | h | h
 ·simp [h, klt_as h]
 ·subst h; simp [klt_irr]
 ·have h1 := klt_as h
  have h2 : a ≠ b := fun e => by subst e; exact klt_irr _ h
  simp [h, h1, h2]
theorem mid_T {f to : K} {x : K × Int} (h1 : (!Op.bytesLess (⟨x.1.toArray⟩ : ByteArray).toList (⟨f.toArray⟩ : ByteArray).toList) = true) (h2 : (Op.bytesLess (⟨x.1.toArray⟩ : ByteArray).toList (⟨to.toArray⟩ : ByteArray).toList || (⟨x.1.toArray⟩ : ByteArray).toList == (⟨to.toArray⟩ : ByteArray).toList) = true) : midQ f to x = true := by
 rw [str_lt] at h1; rw [str_le] at h2
 unfold midQ; rw [h2]; simpa using h1
theorem mid_F1 {f to : K} {x : K × Int} (h1 : (!Op.bytesLess (⟨x.1.toArray⟩ : ByteArray).toList (⟨f.toArray⟩ : ByteArray).toList) = false) : midQ f to x = false := by
 rw [str_lt] at h1
 unfold midQ; simp at h1 ⊢; intro h; exact absurd h1 h
theorem mid_F2 {f to : K} {x : K × Int} (h2 : (Op.bytesLess (⟨x.1.toArray⟩ : ByteArray).toList (⟨to.toArray⟩ : ByteArray).toList || (⟨x.1.toArray⟩ : ByteArray).toList == (⟨to.toArray⟩ : ByteArray).toList) = false) : midQ f to x = false := by
 rw [str_le] at h2
 unfold midQ; rw [h2, Bool.and_false]
theorem take_filter {α : Type} {p : α → Bool} {l : List α} {i : Nat} (hi : i < l.length) : (l.take (i + 1)).filter p = (l.take i).filter p ++ (if p l[i] = true then [l[i]] else []) := by
 rw [List.take_succ_eq_append_getElem hi, List.filter_append]
 congr 1
 by_cases h : p l[i] = true
 ·rw [if_pos h]; simp [h]
 ·rw [if_neg h]; simp [h]
variable {G : List (Nat × List Value)}

theorem info37_Twq : (Try.prog.info? 37).map (fun i => (i.zero, i.size, i.bytes)) = some (some (.agg #[.slice none 0 0, .int .i64 0]), 2, 32) := by kernel_rfl

set_option maxHeartbeats 4000000 in
set_option maxRecDepth 100000 in
theorem range_law (l : List Int) (hl : l.length ≤ maxLen) (hw : WfI l) (a : Int) (a1 : -9223372036854775808 ≤ a) (a2 : a ≤ 9223372036854775807) (b : Int) (b1 : -9223372036854775808 ≤ b) (b2 : b ≤ 9223372036854775807) : VP Try.prog G 5 [.list 1 (l.flatMap cI) l.length, .v (.int .i64 a), .v (.int .i64 b)] (.v (.bool true)) := by
 refine VC.body Try.func5 rfl Try.ntmps5 (Nat.le_of_ble_eq_true rfl) fun X0 w0 S00 => ?_
 have hmx : maxLen = 9223372036854775807 := rfl
 have g := good_treeL l
 have htv := tree_vp (G := G) l hl hw
 unfold cT at htv
 have hs1 := scan_g (G := G) g (keyN a) (keyN b) (keyN_ok a).2 (keyN_ok b).2
 rw [span_both g _ _ (by rw [keyN_len]; decide)] at hs1
 change VP _ _ _ _ (.tup [.list 2 (((entsOf (treeL l)).filter (midQ (keyN a) (keyN b))).flatMap cE) ((entsOf (treeL l)).filter (midQ (keyN a) (keyN b))).length, _]) at hs1
 have hs2 := scan_n2 (G := G) g
 rw [span_all] at hs2
 have hel : (entsOf (treeL l)).length ≤ 16000 := (by have := allE_few g.val; have := g.val.most; show (allE _ _).length ≤ _; omega)
 generalize entsOf (treeL l) = es at hs1 hs2 hel
 unfold cT at hs1 hs2
 have hwl : (es.filter (midQ (keyN a) (keyN b))).length ≤ es.length := (List.filter_sublist).length_le
 refine sr_ ?_
 refine os_ mv_ ?_
 refine nm_ [0, 1, 2] ?_
 refine sr_ ?_
 refine os_ mv_ ?_
 refine OD.callP (wants_plain rfl) rfl rfl rfl Try.call17 (htv) ⟨ot, trivial⟩ ?_
 refine os_ mv_ ?_
 refine os_ ex_ ?_
 refine os_ ex_ ?_
 refine OD.alloc (ds := [_, _]) (wants_plain rfl) rfl rfl Try.zeroValue26 rfl (fun b7 => ?_)
 refine OD.store (k := 0) (cs' := [_, _]) (wants_plain rfl) rfl rfl ot rfl rfl ot rfl rfl Try.sizeOf26 rfl rfl rfl ?_
 refine os_ mv_ ?_
 refine OD.wk (Wk.as_ (n := 121) (l' := [(1, _), (2, _), (7, _), (8, _)]) (S' := [⟨b7, 26, 2, [_, _]⟩]) rfl rfl ⟨lk, lk, lk, lk, trivial⟩) ?_
 refine OD.nil ?_
 refine sr_ ?_
 refine os_ mv_ ?_
 refine OD.callP (wants_plain rfl) rfl rfl rfl Try.call15 (key_vpN a a1 a2) ⟨ot, trivial⟩ ?_
 refine os_ mv_ ?_
 refine OD.wk (Wk.as_ (n := 121) (l' := [(2, _), (7, _), (8, _), (9, _)]) (S' := [⟨b7, 26, 2, [_, _]⟩]) rfl rfl ⟨lk, lk, lk, lk, trivial⟩) ?_
 refine OD.nil ?_
 refine sr_ ?_
 refine os_ mv_ ?_
 refine OD.callP (wants_plain rfl) rfl rfl rfl Try.call15 (key_vpN b b1 b2) ⟨ot, trivial⟩ ?_
 refine os_ mv_ ?_
 refine OD.wk (Wk.as_ (n := 121) (l' := [(7, _), (8, _), (9, _), (10, _)]) (S' := [⟨b7, 26, 2, [_, _]⟩]) rfl rfl ⟨lk, lk, lk, lk, trivial⟩) ?_
 refine OD.nil ?_
 refine sr_ ?_
 refine os_ (lab_ 0 [_, _]) ?_
 refine os_ mv_ ?_
 refine os_ mv_ ?_
 refine OD.callP (wants_plain rfl) rfl rfl rfl Try.call16 (hs1) ⟨ot, ot, ot, trivial⟩ ?_
 refine os_ mv_ ?_
 refine os_ ex_ ?_
 refine os_ ex_ ?_
 refine os_ mv_ ?_
 refine os_ mv_ ?_
 refine OD.wk (Wk.as_ (n := 121) (l' := [(7, _), (8, _), (9, _), (10, _), (11, _), (12, _)]) (S' := [⟨b7, 26, 2, [_, _]⟩]) rfl rfl ⟨lk, lk, lk, lk, lk, lk, trivial⟩) ?_
 refine OD.nil ?_
 refine sr_ ?_
 refine os_ (lab_ 0 [_, _]) ?_
 refine OD.callP (wants_plain rfl) rfl rfl rfl Try.call16 (hs2) ⟨ot, opd_const, opd_const, trivial⟩ ?_
 refine os_ mv_ ?_
 refine os_ ex_ ?_
 refine os_ ex_ ?_
 refine os_ mv_ ?_
 refine os_ mv_ ?_
 refine OD.wk (Wk.as_ (n := 121) (l' := [(8, _), (9, _), (10, _), (11, _), (12, _), (13, _), (14, _)]) (S' := [⟨b7, 26, 2, [_, _]⟩]) rfl rfl ⟨lk, lk, lk, lk, lk, lk, lk, trivial⟩) ?_
 refine OD.nil ?_
 refine sr_ ?_
 refine os_ mv_ ?_
 refine nm_ [8, 9, 10, 11, 12, 13, 14, 15] ?_
 refine CD.seq ?_
 refine sr_ ?_
 refine os_ mv_ ?_
 refine nm_ [8, 9, 10, 11, 12, 13, 14, 15, 16] ?_
 refine CD.block ?_
 refine CD.wk (Wk.asS (n := 121) (l' := [(8, .v (.bool true)), (9, .list 1 ((keyN a).flatMap cB) (keyN a).length), (10, .list 1 ((keyN b).flatMap cB) (keyN b).length), (11, .list 2 ((es.filter (midQ (keyN a) (keyN b))).flatMap cE) (es.filter (midQ (keyN a) (keyN b))).length), (12, .v (.int .i64 0)), (13, .list 2 (es.flatMap cE) es.length), (14, .v (.int .i64 0)), (15, .v (.slice none (((es.take (0)).filter (midQ (keyN a) (keyN b)))).length (0))), (16, .v (.int .i64 ((0) : Nat)))]) (S' := (([]))) rfl (by repeat (first | exact List.Sublist.refl _ | apply List.Sublist.cons_cons | apply List.Sublist.cons)) ⟨(by (repeat (first | exact look_hit | (apply look_at; focus (first | rfl | (simp; done) | (congr 2; omega) | (apply row_eq; first | (rw [take_filter hlt, if_pos hq]; done) | (rw [take_filter hlt, if_neg (by rw [hq]; decide), List.append_nil]; done)) | (apply row_eq; simp; done))) | (apply look_miss; focus rfl))); done), (by (repeat (first | exact look_hit | (apply look_at; focus (first | rfl | (simp; done) | (congr 2; omega) | (apply row_eq; first | (rw [take_filter hlt, if_pos hq]; done) | (rw [take_filter hlt, if_neg (by rw [hq]; decide), List.append_nil]; done)) | (apply row_eq; simp; done))) | (apply look_miss; focus rfl))); done), (by (repeat (first | exact look_hit | (apply look_at; focus (first | rfl | (simp; done) | (congr 2; omega) | (apply row_eq; first | (rw [take_filter hlt, if_pos hq]; done) | (rw [take_filter hlt, if_neg (by rw [hq]; decide), List.append_nil]; done)) | (apply row_eq; simp; done))) | (apply look_miss; focus rfl))); done), (by (repeat (first | exact look_hit | (apply look_at; focus (first | rfl | (simp; done) | (congr 2; omega) | (apply row_eq; first | (rw [take_filter hlt, if_pos hq]; done) | (rw [take_filter hlt, if_neg (by rw [hq]; decide), List.append_nil]; done)) | (apply row_eq; simp; done))) | (apply look_miss; focus rfl))); done), (by (repeat (first | exact look_hit | (apply look_at; focus (first | rfl | (simp; done) | (congr 2; omega) | (apply row_eq; first | (rw [take_filter hlt, if_pos hq]; done) | (rw [take_filter hlt, if_neg (by rw [hq]; decide), List.append_nil]; done)) | (apply row_eq; simp; done))) | (apply look_miss; focus rfl))); done), (by (repeat (first | exact look_hit | (apply look_at; focus (first | rfl | (simp; done) | (congr 2; omega) | (apply row_eq; first | (rw [take_filter hlt, if_pos hq]; done) | (rw [take_filter hlt, if_neg (by rw [hq]; decide), List.append_nil]; done)) | (apply row_eq; simp; done))) | (apply look_miss; focus rfl))); done), (by (repeat (first | exact look_hit | (apply look_at; focus (first | rfl | (simp; done) | (congr 2; omega) | (apply row_eq; first | (rw [take_filter hlt, if_pos hq]; done) | (rw [take_filter hlt, if_neg (by rw [hq]; decide), List.append_nil]; done)) | (apply row_eq; simp; done))) | (apply look_miss; focus rfl))); done), (by (repeat (first | exact look_hit | (apply look_at; focus (first | rfl | (simp; done) | (congr 2; omega) | (apply row_eq; first | (rw [take_filter hlt, if_pos hq]; done) | (rw [take_filter hlt, if_neg (by rw [hq]; decide), List.append_nil]; done)) | (apply row_eq; simp; done))) | (apply look_miss; focus rfl))); done), (by (repeat (first | exact look_hit | (apply look_at; focus (first | rfl | (simp; done) | (congr 2; omega) | (apply row_eq; first | (rw [take_filter hlt, if_pos hq]; done) | (rw [take_filter hlt, if_neg (by rw [hq]; decide), List.append_nil]; done)) | (apply row_eq; simp; done))) | (apply look_miss; focus rfl))); done), trivial⟩) (CD.loop (fun (gh__ : Nat × Option Addr × Nat × List Blk) y__ => match gh__ with | (i, adw, cpw, Sw) => (i ≤ es.length) ∧ (OwnL 37 2 ((((es.take i).filter (midQ (keyN a) (keyN b)))).flatMap cE) (((es.take i).filter (midQ (keyN a) (keyN b)))).length adw cpw Sw) ∧ y__ = (⟨121, [(8, .v (.bool true)), (9, .list 1 ((keyN a).flatMap cB) (keyN a).length), (10, .list 1 ((keyN b).flatMap cB) (keyN b).length), (11, .list 2 ((es.filter (midQ (keyN a) (keyN b))).flatMap cE) (es.filter (midQ (keyN a) (keyN b))).length), (12, .v (.int .i64 0)), (13, .list 2 (es.flatMap cE) es.length), (14, .v (.int .i64 0)), (15, .v (.slice adw (((es.take i).filter (midQ (keyN a) (keyN b)))).length cpw)), (16, .v (.int .i64 (i : Nat)))], (Sw)⟩ : St)) (fun (gh__ : Nat × Option Addr × Nat × List Blk) => match gh__ with | (i, adw, cpw, Sw) => es.length - i) (0, none, 0, []) ⟨(Nat.zero_le _), (OwnL.cast ownL_nil (by first | rfl | simp)), rfl⟩ ?_)
 rintro ⟨i, adw, cpw, Sw⟩ _ ⟨hi, how, rfl⟩
 refine CD.seq ?_
 refine sr_ ?_
 refine os_ mv_ ?_
 refine os_ mv_ ?_
 refine os_ ln_ ?_
 refine os_ bn_ ?_
 refine nm_ [8, 9, 10, 11, 12, 13, 14, 15, 16, 42] ?_
 refine CD.cond ot (fun hc0 => ?_) (fun hc0 => ?_)
 ·have hc0' := hc0
  (try simp only [V.cnd, ne_eq] at hc0')
  have hlt : i < es.length := by simp at hc0; omega
  have hfl : ((es.take i).filter (midQ (keyN a) (keyN b))).length ≤ i := by have := (List.filter_sublist (p := midQ (keyN a) (keyN b)) (l := es.take i)).length_le; rw [List.length_take] at this; omega
  refine CD.skip ?_
  refine CD.seq ?_
  refine CD.block ?_
  refine CD.seq ?_
  refine CD.draw (bks _) (by kernel_rfl) (fun _ h => h) ?_
  refine a0_ 0 rfl mv_ ?_
  refine a0_ 1 rfl mv_ ?_
  refine a0_ 2 rfl (ix_ 2 (h := by first | exact .l (j := i) rfl hlt | exact .r (j := i) rfl hlt)) ?_
  refine a0_ 3 rfl (fa_ 0) ?_
  refine a0_ 4 rfl ld_ ?_
  refine a0_ 5 rfl sb_ ?_
  refine a0_ 6 rfl mv_ ?_
  refine a0_ 7 rfl sb_ ?_
  refine a0_ 8 rfl bn_ ?_
  refine a0_ 9 rfl mv_ ?_
  refine AD0.split (t := 54) lk (fun hg54 => ?_) (fun hg54 => ?_)
  ·have hg54' := hg54; (try simp only [V.cnd, ne_eq] at hg54')
   refine a0_ 10 rfl mv_ ?_
   refine a0_ 11 rfl mv_ ?_
   refine a0_ 12 rfl (ix_ 2 (h := by first | exact .l (j := i) rfl hlt | exact .r (j := i) rfl hlt)) ?_
   refine a0_ 13 rfl (fa_ 0) ?_
   refine a0_ 14 rfl ld_ ?_
   refine a0_ 15 rfl sb_ ?_
   refine a0_ 16 rfl mv_ ?_
   refine a0_ 17 rfl sb_ ?_
   refine a0_ 18 rfl bn_ ?_
   refine a0_ 19 rfl pkT_ ?_
   refine AD0.later rfl ?_
   refine AD.wk (y := ⟨121, [(8, _), (9, _), (10, _), (11, _), (12, _), (13, _), (14, _), (15, _), (16, _), (64, _)], (Sw)⟩) (Wk.as_ rfl rfl ⟨lk, lk, lk, lk, lk, lk, lk, lk, lk, lk, trivial⟩) rfl ?_
   refine AD.done (by kernel_rfl) ?_
   refine CD.cond ot (fun hc1 => ?_) (fun hc1 => ?_)
   ·have hc1' := hc1
    (try simp only [V.cnd, ne_eq] at hc1')
    have hq : midQ (keyN a) (keyN b) es[i] = true := mid_T hg54 hc1
    refine CD.region ?_
    refine os_ mv_ ?_
    refine os_ mv_ ?_
    refine os_ mv_ ?_
    refine os_ (ix_ 2 (h := by first | exact .l (j := i) rfl hlt | exact .r (j := i) rfl hlt)) ?_
    refine os_ (la_ [_, _]) ?_
    refine OD.bldS (pl := numD 0 [_]) (zvs := [.slice none 0 0, .int .i64 0]) (ds := [_, _]) (wants_plain rfl) rfl rfl Try.zeroValue37 Try.runUnderlying33 Try.sizeOf37 rfl rfl (by kernel_rfl) ⟨rfl, ot, trivial⟩ (by exact rfl) (fill_full (by exact rfl) (by exact rfl) (by exact rfl)) (fun b70 => ?_)
    refine OD.give (k := 0) (t := 70) (sz := 2) (m := 1) rfl lk rfl rfl rfl (Nat.le_refl _) (by decide) ?_
    refine OD.appendG (ls := (((es.take i).filter (midQ (keyN a) (keyN b))))) (new := [es[i]]) (Sq := Sw) cE_len cE_one (wants_plain rfl) rfl rfl Try.underlying33 info37_Twq rfl (by decide) ot how (perm_r11 (A := [])) ot (by simp) (by simp only [maxLen, List.length_append, List.length_cons, List.length_nil] at *; omega) (by simp only [List.length_append, List.length_cons, List.length_nil] at *; omega) (fun b71 cp71 h171 h271 => ?_)
    refine OD.perm (perm_q11 (S1 := [⟨b71, 37, cp71 * 2, List.flatMap cE ((((es.take i).filter (midQ (keyN a) (keyN b)))) ++ [es[i]])⟩]) (A := [])) ?_
    refine os_ mv_ ?_
    refine OD.wk (Wk.as_ (n := 121) (l' := [(8, _), (9, _), (10, _), (11, _), (12, _), (13, _), (14, _), (15, _), (16, _)]) (S' := ([⟨b71, 37, cp71 * 2, List.flatMap cE ((((es.take i).filter (midQ (keyN a) (keyN b)))) ++ [es[i]])⟩])) rfl rfl ⟨lk, lk, lk, lk, lk, lk, lk, lk, lk, trivial⟩) ?_
    refine OD.nil ?_
    refine CD.region ?_
    refine os_ mv_ ?_
    refine os_ bn_ ?_
    refine os_ mv_ ?_
    refine nm_ [8, 9, 10, 11, 12, 13, 14, 15, 16] ?_
    refine ⟨((i + 1), (some ⟨b71, 0, none⟩), cp71, [⟨b71, 37, cp71 * 2, List.flatMap cE ((((es.take i).filter (midQ (keyN a) (keyN b)))) ++ [es[i]])⟩]), ⟨121, [(8, .v (.bool true)), (9, .list 1 ((keyN a).flatMap cB) (keyN a).length), (10, .list 1 ((keyN b).flatMap cB) (keyN b).length), (11, .list 2 ((es.filter (midQ (keyN a) (keyN b))).flatMap cE) (es.filter (midQ (keyN a) (keyN b))).length), (12, .v (.int .i64 0)), (13, .list 2 (es.flatMap cE) es.length), (14, .v (.int .i64 0)), (15, .v (.slice ((some ⟨b71, 0, none⟩)) (((es.take ((i + 1))).filter (midQ (keyN a) (keyN b)))).length cp71)), (16, .v (.int .i64 (((i + 1)) : Nat)))], (([⟨b71, 37, cp71 * 2, List.flatMap cE ((((es.take i).filter (midQ (keyN a) (keyN b)))) ++ [es[i]])⟩]))⟩, ?_, Wk.asS (n := 121) rfl (by repeat (first | exact List.Sublist.refl _ | apply List.Sublist.cons_cons | apply List.Sublist.cons)) ⟨(by (repeat (first | exact look_hit | (apply look_at; focus (first | rfl | (simp; done) | (congr 2; omega) | (apply row_eq; first | (rw [take_filter hlt, if_pos hq]; done) | (rw [take_filter hlt, if_neg (by rw [hq]; decide), List.append_nil]; done)) | (apply row_eq; simp; done))) | (apply look_miss; focus rfl))); done), (by (repeat (first | exact look_hit | (apply look_at; focus (first | rfl | (simp; done) | (congr 2; omega) | (apply row_eq; first | (rw [take_filter hlt, if_pos hq]; done) | (rw [take_filter hlt, if_neg (by rw [hq]; decide), List.append_nil]; done)) | (apply row_eq; simp; done))) | (apply look_miss; focus rfl))); done), (by (repeat (first | exact look_hit | (apply look_at; focus (first | rfl | (simp; done) | (congr 2; omega) | (apply row_eq; first | (rw [take_filter hlt, if_pos hq]; done) | (rw [take_filter hlt, if_neg (by rw [hq]; decide), List.append_nil]; done)) | (apply row_eq; simp; done))) | (apply look_miss; focus rfl))); done), (by (repeat (first | exact look_hit | (apply look_at; focus (first | rfl | (simp; done) | (congr 2; omega) | (apply row_eq; first | (rw [take_filter hlt, if_pos hq]; done) | (rw [take_filter hlt, if_neg (by rw [hq]; decide), List.append_nil]; done)) | (apply row_eq; simp; done))) | (apply look_miss; focus rfl))); done), (by (repeat (first | exact look_hit | (apply look_at; focus (first | rfl | (simp; done) | (congr 2; omega) | (apply row_eq; first | (rw [take_filter hlt, if_pos hq]; done) | (rw [take_filter hlt, if_neg (by rw [hq]; decide), List.append_nil]; done)) | (apply row_eq; simp; done))) | (apply look_miss; focus rfl))); done), (by (repeat (first | exact look_hit | (apply look_at; focus (first | rfl | (simp; done) | (congr 2; omega) | (apply row_eq; first | (rw [take_filter hlt, if_pos hq]; done) | (rw [take_filter hlt, if_neg (by rw [hq]; decide), List.append_nil]; done)) | (apply row_eq; simp; done))) | (apply look_miss; focus rfl))); done), (by (repeat (first | exact look_hit | (apply look_at; focus (first | rfl | (simp; done) | (congr 2; omega) | (apply row_eq; first | (rw [take_filter hlt, if_pos hq]; done) | (rw [take_filter hlt, if_neg (by rw [hq]; decide), List.append_nil]; done)) | (apply row_eq; simp; done))) | (apply look_miss; focus rfl))); done), (by (repeat (first | exact look_hit | (apply look_at; focus (first | rfl | (simp; done) | (congr 2; omega) | (apply row_eq; first | (rw [take_filter hlt, if_pos hq]; done) | (rw [take_filter hlt, if_neg (by rw [hq]; decide), List.append_nil]; done)) | (apply row_eq; simp; done))) | (apply look_miss; focus rfl))); done), (by (repeat (first | exact look_hit | (apply look_at; focus (first | rfl | (simp; done) | (congr 2; omega) | (apply row_eq; first | (rw [take_filter hlt, if_pos hq]; done) | (rw [take_filter hlt, if_neg (by rw [hq]; decide), List.append_nil]; done)) | (apply row_eq; simp; done))) | (apply look_miss; focus rfl))); done), trivial⟩, (by omega), (OwnL.cast (ownL_row h171 h271) (by first | (rw [take_filter hlt, if_pos hq]; done) | (rw [take_filter hlt, if_neg (by rw [hq]; decide), List.append_nil]; done))), rfl⟩
    first | omega | (simp only []; omega)
   ·have hc1' := hc1
    (try simp only [V.cnd, ne_eq] at hc1')
    have hq : midQ (keyN a) (keyN b) es[i] = false := by first | exact mid_F1 hg54 | exact mid_F2 hc1
    refine CD.skip ?_
    refine CD.region ?_
    refine os_ mv_ ?_
    refine os_ bn_ ?_
    refine os_ mv_ ?_
    refine nm_ [8, 9, 10, 11, 12, 13, 14, 15, 16] ?_
    refine ⟨((i + 1), adw, cpw, Sw), ⟨121, [(8, .v (.bool true)), (9, .list 1 ((keyN a).flatMap cB) (keyN a).length), (10, .list 1 ((keyN b).flatMap cB) (keyN b).length), (11, .list 2 ((es.filter (midQ (keyN a) (keyN b))).flatMap cE) (es.filter (midQ (keyN a) (keyN b))).length), (12, .v (.int .i64 0)), (13, .list 2 (es.flatMap cE) es.length), (14, .v (.int .i64 0)), (15, .v (.slice adw (((es.take ((i + 1))).filter (midQ (keyN a) (keyN b)))).length cpw)), (16, .v (.int .i64 (((i + 1)) : Nat)))], (Sw)⟩, ?_, Wk.asS (n := 121) rfl (by repeat (first | exact List.Sublist.refl _ | apply List.Sublist.cons_cons | apply List.Sublist.cons)) ⟨(by (repeat (first | exact look_hit | (apply look_at; focus (first | rfl | (simp; done) | (congr 2; omega) | (apply row_eq; first | (rw [take_filter hlt, if_pos hq]; done) | (rw [take_filter hlt, if_neg (by rw [hq]; decide), List.append_nil]; done)) | (apply row_eq; simp; done))) | (apply look_miss; focus rfl))); done), (by (repeat (first | exact look_hit | (apply look_at; focus (first | rfl | (simp; done) | (congr 2; omega) | (apply row_eq; first | (rw [take_filter hlt, if_pos hq]; done) | (rw [take_filter hlt, if_neg (by rw [hq]; decide), List.append_nil]; done)) | (apply row_eq; simp; done))) | (apply look_miss; focus rfl))); done), (by (repeat (first | exact look_hit | (apply look_at; focus (first | rfl | (simp; done) | (congr 2; omega) | (apply row_eq; first | (rw [take_filter hlt, if_pos hq]; done) | (rw [take_filter hlt, if_neg (by rw [hq]; decide), List.append_nil]; done)) | (apply row_eq; simp; done))) | (apply look_miss; focus rfl))); done), (by (repeat (first | exact look_hit | (apply look_at; focus (first | rfl | (simp; done) | (congr 2; omega) | (apply row_eq; first | (rw [take_filter hlt, if_pos hq]; done) | (rw [take_filter hlt, if_neg (by rw [hq]; decide), List.append_nil]; done)) | (apply row_eq; simp; done))) | (apply look_miss; focus rfl))); done), (by (repeat (first | exact look_hit | (apply look_at; focus (first | rfl | (simp; done) | (congr 2; omega) | (apply row_eq; first | (rw [take_filter hlt, if_pos hq]; done) | (rw [take_filter hlt, if_neg (by rw [hq]; decide), List.append_nil]; done)) | (apply row_eq; simp; done))) | (apply look_miss; focus rfl))); done), (by (repeat (first | exact look_hit | (apply look_at; focus (first | rfl | (simp; done) | (congr 2; omega) | (apply row_eq; first | (rw [take_filter hlt, if_pos hq]; done) | (rw [take_filter hlt, if_neg (by rw [hq]; decide), List.append_nil]; done)) | (apply row_eq; simp; done))) | (apply look_miss; focus rfl))); done), (by (repeat (first | exact look_hit | (apply look_at; focus (first | rfl | (simp; done) | (congr 2; omega) | (apply row_eq; first | (rw [take_filter hlt, if_pos hq]; done) | (rw [take_filter hlt, if_neg (by rw [hq]; decide), List.append_nil]; done)) | (apply row_eq; simp; done))) | (apply look_miss; focus rfl))); done), (by (repeat (first | exact look_hit | (apply look_at; focus (first | rfl | (simp; done) | (congr 2; omega) | (apply row_eq; first | (rw [take_filter hlt, if_pos hq]; done) | (rw [take_filter hlt, if_neg (by rw [hq]; decide), List.append_nil]; done)) | (apply row_eq; simp; done))) | (apply look_miss; focus rfl))); done), (by (repeat (first | exact look_hit | (apply look_at; focus (first | rfl | (simp; done) | (congr 2; omega) | (apply row_eq; first | (rw [take_filter hlt, if_pos hq]; done) | (rw [take_filter hlt, if_neg (by rw [hq]; decide), List.append_nil]; done)) | (apply row_eq; simp; done))) | (apply look_miss; focus rfl))); done), trivial⟩, (by omega), (OwnL.cast how (by first | (rw [take_filter hlt, if_pos hq]; done) | (rw [take_filter hlt, if_neg (by rw [hq]; decide), List.append_nil]; done))), rfl⟩
    first | omega | (simp only []; omega)
  ·have hg54' := hg54; (try simp only [V.cnd, ne_eq] at hg54')
   refine s0_ 10 rfl ?_
   refine s0_ 11 rfl ?_
   refine s0_ 12 rfl ?_
   refine s0_ 13 rfl ?_
   refine s0_ 14 rfl ?_
   refine s0_ 15 rfl ?_
   refine s0_ 16 rfl ?_
   refine s0_ 17 rfl ?_
   refine s0_ 18 rfl ?_
   refine a0_ 19 rfl pkF_ ?_
   refine AD0.later rfl ?_
   refine AD.wk (y := ⟨121, [(8, _), (9, _), (10, _), (11, _), (12, _), (13, _), (14, _), (15, _), (16, _), (64, _)], (Sw)⟩) (Wk.as_ rfl rfl ⟨lk, lk, lk, lk, lk, lk, lk, lk, lk, lk, trivial⟩) rfl ?_
   refine AD.done (by kernel_rfl) ?_
   refine CD.condF ot (by first | rfl | assumption) ?_
   have hq : midQ (keyN a) (keyN b) es[i] = false := by first | exact mid_F1 hg54 | exact mid_F2 hc1
   refine CD.skip ?_
   refine CD.region ?_
   refine os_ mv_ ?_
   refine os_ bn_ ?_
   refine os_ mv_ ?_
   refine nm_ [8, 9, 10, 11, 12, 13, 14, 15, 16] ?_
   refine ⟨((i + 1), adw, cpw, Sw), ⟨121, [(8, .v (.bool true)), (9, .list 1 ((keyN a).flatMap cB) (keyN a).length), (10, .list 1 ((keyN b).flatMap cB) (keyN b).length), (11, .list 2 ((es.filter (midQ (keyN a) (keyN b))).flatMap cE) (es.filter (midQ (keyN a) (keyN b))).length), (12, .v (.int .i64 0)), (13, .list 2 (es.flatMap cE) es.length), (14, .v (.int .i64 0)), (15, .v (.slice adw (((es.take ((i + 1))).filter (midQ (keyN a) (keyN b)))).length cpw)), (16, .v (.int .i64 (((i + 1)) : Nat)))], (Sw)⟩, ?_, Wk.asS (n := 121) rfl (by repeat (first | exact List.Sublist.refl _ | apply List.Sublist.cons_cons | apply List.Sublist.cons)) ⟨(by (repeat (first | exact look_hit | (apply look_at; focus (first | rfl | (simp; done) | (congr 2; omega) | (apply row_eq; first | (rw [take_filter hlt, if_pos hq]; done) | (rw [take_filter hlt, if_neg (by rw [hq]; decide), List.append_nil]; done)) | (apply row_eq; simp; done))) | (apply look_miss; focus rfl))); done), (by (repeat (first | exact look_hit | (apply look_at; focus (first | rfl | (simp; done) | (congr 2; omega) | (apply row_eq; first | (rw [take_filter hlt, if_pos hq]; done) | (rw [take_filter hlt, if_neg (by rw [hq]; decide), List.append_nil]; done)) | (apply row_eq; simp; done))) | (apply look_miss; focus rfl))); done), (by (repeat (first | exact look_hit | (apply look_at; focus (first | rfl | (simp; done) | (congr 2; omega) | (apply row_eq; first | (rw [take_filter hlt, if_pos hq]; done) | (rw [take_filter hlt, if_neg (by rw [hq]; decide), List.append_nil]; done)) | (apply row_eq; simp; done))) | (apply look_miss; focus rfl))); done), (by (repeat (first | exact look_hit | (apply look_at; focus (first | rfl | (simp; done) | (congr 2; omega) | (apply row_eq; first | (rw [take_filter hlt, if_pos hq]; done) | (rw [take_filter hlt, if_neg (by rw [hq]; decide), List.append_nil]; done)) | (apply row_eq; simp; done))) | (apply look_miss; focus rfl))); done), (by (repeat (first | exact look_hit | (apply look_at; focus (first | rfl | (simp; done) | (congr 2; omega) | (apply row_eq; first | (rw [take_filter hlt, if_pos hq]; done) | (rw [take_filter hlt, if_neg (by rw [hq]; decide), List.append_nil]; done)) | (apply row_eq; simp; done))) | (apply look_miss; focus rfl))); done), (by (repeat (first | exact look_hit | (apply look_at; focus (first | rfl | (simp; done) | (congr 2; omega) | (apply row_eq; first | (rw [take_filter hlt, if_pos hq]; done) | (rw [take_filter hlt, if_neg (by rw [hq]; decide), List.append_nil]; done)) | (apply row_eq; simp; done))) | (apply look_miss; focus rfl))); done), (by (repeat (first | exact look_hit | (apply look_at; focus (first | rfl | (simp; done) | (congr 2; omega) | (apply row_eq; first | (rw [take_filter hlt, if_pos hq]; done) | (rw [take_filter hlt, if_neg (by rw [hq]; decide), List.append_nil]; done)) | (apply row_eq; simp; done))) | (apply look_miss; focus rfl))); done), (by (repeat (first | exact look_hit | (apply look_at; focus (first | rfl | (simp; done) | (congr 2; omega) | (apply row_eq; first | (rw [take_filter hlt, if_pos hq]; done) | (rw [take_filter hlt, if_neg (by rw [hq]; decide), List.append_nil]; done)) | (apply row_eq; simp; done))) | (apply look_miss; focus rfl))); done), (by (repeat (first | exact look_hit | (apply look_at; focus (first | rfl | (simp; done) | (congr 2; omega) | (apply row_eq; first | (rw [take_filter hlt, if_pos hq]; done) | (rw [take_filter hlt, if_neg (by rw [hq]; decide), List.append_nil]; done)) | (apply row_eq; simp; done))) | (apply look_miss; focus rfl))); done), trivial⟩, (by omega), (OwnL.cast how (by first | (rw [take_filter hlt, if_pos hq]; done) | (rw [take_filter hlt, if_neg (by rw [hq]; decide), List.append_nil]; done))), rfl⟩
   first | omega | (simp only []; omega)
 ·have hc0' := hc0
  (try simp only [V.cnd, ne_eq] at hc0')
  have hie : i = es.length := by simp at hc0; omega
  subst hie
  have how2 := how
  rw [List.take_length] at how2
  refine CD.exit ?_
  refine CD.seq ?_
  refine CD.seq ?_
  rw [List.take_length]
  refine CD.region ?_
  refine os_ mv_ ?_
  refine os_ un_ ?_
  refine os_ mv_ ?_
  refine OD.split (t := 74) lk (fun hg74 => ?_) (fun hg74 => ?_)
  ·exact absurd hg74 (by simp at hg74)
  ·have hg74' := hg74; (try simp only [V.cnd, ne_eq] at hg74')
   refine os_ mv_ ?_
   refine os_ bn_ ?_
   refine os_ pkF_ ?_
   refine os_ mv_ ?_
   refine OD.split (t := 78) lk (fun hg78 => ?_) (fun hg78 => ?_)
   ·exact absurd hg78 (by simp at hg78)
   ·have hg78' := hg78; (try simp only [V.cnd, ne_eq] at hg78')
    refine os_ mv_ ?_
    refine os_ bn_ ?_
    refine os_ pkF_ ?_
    refine os_ mv_ ?_
    refine OD.split (t := 82) lk (fun hg82 => ?_) (fun hg82 => ?_)
    ·exact absurd hg82 (by simp at hg82)
    ·have hg82' := hg82; (try simp only [V.cnd, ne_eq] at hg82')
     refine os_ mv_ ?_
     refine os_ ln_ ?_
     refine os_ mv_ ?_
     refine os_ ln_ ?_
     refine os_ bn_ ?_
     refine os_ pkF_ ?_
     refine nm_ [11, 15, 88] ?_
     refine CD.cond ot (fun hc2 => ?_) (fun hc2 => ?_)
     ·exact absurd hc2 (by simp at hc2)
     ·have hc2' := hc2
      (try simp only [V.cnd, ne_eq] at hc2')
      refine CD.skip ?_
      refine CD.seq ?_
      refine CD.seq ?_
      refine CD.giveL (t := 15) (Sq := Sw) lk how2 (fm_len cE_len _) (perm_r11 (A := [])) ?_
      refine CD.region ?_
      refine os_ mv_ ?_
      refine nm_ [11, 15, 17] ?_
      refine CD.block ?_
      refine CD.wk (Wk.asS (n := 121) (l' := [(11, .list 2 ((es.filter (midQ (keyN a) (keyN b))).flatMap cE) (es.filter (midQ (keyN a) (keyN b))).length), (15, .list 2 ((es.filter (midQ (keyN a) (keyN b))).flatMap cE) (es.filter (midQ (keyN a) (keyN b))).length), (17, .v (.int .i64 ((0) : Nat)))]) (S' := []) rfl (by repeat (first | exact List.Sublist.refl _ | apply List.Sublist.cons)) ⟨lq_, lq_, lq_, trivial⟩) (CD.loop (fun (j : Nat) y__ => (j ≤ (es.filter (midQ (keyN a) (keyN b))).length) ∧ y__ = (⟨121, [(11, .list 2 ((es.filter (midQ (keyN a) (keyN b))).flatMap cE) (es.filter (midQ (keyN a) (keyN b))).length), (15, .list 2 ((es.filter (midQ (keyN a) (keyN b))).flatMap cE) (es.filter (midQ (keyN a) (keyN b))).length), (17, .v (.int .i64 (j : Nat)))], []⟩ : St)) (fun (j : Nat) => (es.filter (midQ (keyN a) (keyN b))).length - j) 0 ⟨(Nat.zero_le _), rfl⟩ ?_)
      rintro j _ ⟨hj, rfl⟩
      refine CD.seq ?_
      refine sr_ ?_
      refine os_ mv_ ?_
      refine os_ mv_ ?_
      refine os_ ln_ ?_
      refine os_ bn_ ?_
      refine nm_ [11, 15, 17, 92] ?_
      refine CD.cond ot (fun hc3 => ?_) (fun hc3 => ?_)
      ·have hc3' := hc3
       (try simp only [V.cnd, ne_eq] at hc3')
       have hjl : j < (es.filter (midQ (keyN a) (keyN b))).length := by have := hc3; simp only [decide_eq_true_eq] at this; omega
       refine CD.skip ?_
       refine CD.seq ?_
       refine CD.block ?_
       refine CD.seq ?_
       refine CD.draw (bks _) (by kernel_rfl) (fun _ h => h) ?_
       refine a0_ 0 rfl mv_ ?_
       refine a0_ 1 rfl mv_ ?_
       refine a0_ 2 rfl (ix_ 2 (h := by first | exact .l (j := j) rfl hjl | exact .r (j := j) rfl hjl)) ?_
       refine a0_ 3 rfl (fa_ 0) ?_
       refine a0_ 4 rfl ld_ ?_
       refine a0_ 5 rfl sb_ ?_
       refine a0_ 6 rfl mv_ ?_
       refine a0_ 7 rfl mv_ ?_
       refine a0_ 8 rfl (ix_ 2 (h := by first | exact .l (j := j) rfl hjl | exact .r (j := j) rfl hjl)) ?_
       refine a0_ 9 rfl (fa_ 0) ?_
       refine a0_ 10 rfl ld_ ?_
       refine a0_ 11 rfl sb_ ?_
       refine a0_ 12 rfl bn_ ?_
       refine a0_ 13 rfl mv_ ?_
       refine AD0.split (t := 108) lk (fun hg108 => ?_) (fun hg108 => ?_)
       ·exact absurd hg108 (by simp at hg108)
       ·have hg108' := hg108; (try simp only [V.cnd, ne_eq] at hg108')
        refine a0_ 14 rfl mv_ ?_
        refine a0_ 15 rfl mv_ ?_
        refine a0_ 16 rfl (ix_ 2 (h := by first | exact .l (j := j) rfl hjl | exact .r (j := j) rfl hjl)) ?_
        refine a0_ 17 rfl (fa_ 1) ?_
        refine a0_ 18 rfl ld_ ?_
        refine a0_ 19 rfl mv_ ?_
        refine a0_ 20 rfl mv_ ?_
        refine a0_ 21 rfl (ix_ 2 (h := by first | exact .l (j := j) rfl hjl | exact .r (j := j) rfl hjl)) ?_
        refine a0_ 22 rfl (fa_ 1) ?_
        refine a0_ 23 rfl ld_ ?_
        refine a0_ 24 rfl bn_ ?_
        refine a0_ 25 rfl pkF_ ?_
        refine AD0.later rfl ?_
        refine AD.wk (y := ⟨121, [(11, _), (15, _), (17, _), (120, _)], []⟩) (Wk.as_ rfl rfl ⟨lk, lk, lk, lk, trivial⟩) rfl ?_
        refine AD.done (by kernel_rfl) ?_
        refine CD.cond ot (fun hc4 => ?_) (fun hc4 => ?_)
        ·exact absurd hc4 (by simp at hc4)
        ·have hc4' := hc4
         (try simp only [V.cnd, ne_eq] at hc4')
         refine CD.skip ?_
         refine CD.region ?_
         refine os_ mv_ ?_
         refine os_ bn_ ?_
         refine os_ mv_ ?_
         refine nm_ [11, 15, 17] ?_
         refine ⟨(j + 1), ⟨121, [(11, .list 2 ((es.filter (midQ (keyN a) (keyN b))).flatMap cE) (es.filter (midQ (keyN a) (keyN b))).length), (15, .list 2 ((es.filter (midQ (keyN a) (keyN b))).flatMap cE) (es.filter (midQ (keyN a) (keyN b))).length), (17, .v (.int .i64 (((j + 1)) : Nat)))], []⟩, ?_, Wk.asS (n := 121) rfl (by repeat (first | exact List.Sublist.refl _ | apply List.Sublist.cons)) ⟨lq_, lq_, lq_, trivial⟩, (by omega), rfl⟩
         first | omega | (simp only []; omega)
      ·have hc3' := hc3
       (try simp only [V.cnd, ne_eq] at hc3')
       refine CD.exit ?_
       refine sr_ ?_
       refine os_ mv_ ?_
       refine nm_ [6] ?_
       refine CD.ret ?_
       refine r1_ ?_
       exact ⟨rfl, rfl⟩

theorem walkTreeRange (l : List Int) (v : Value) (ok : l.length ≤ maxLen ∧ WfI l) (a0 : Int) (wa0 : (Lit.int .i64 a0).wf = true) (a1 : Int) (wa1 : (Lit.int .i64 a1).wf = true) (w : World) (hv : Rep w (fun _ => False) (.list 1 (l.flatMap cI) l.length) v) : Calls Try.prog 5 #[v, .int .i64 a0, .int .i64 a1] w fun e w' => e = .returned (.bool true) ∧ Below w.heap.size w w' :=
 (range_law (G := []) l ok.1 ok.2 a0 (wf_bd wa0).1 (wf_bd wa0).2 a1 (wf_bd wa1).1 (wf_bd wa1).2).runL (fun g hg => by cases hg) (vs := [v, .int .i64 a0, .int .i64 a1]) (RepL.cons hv (RepL.vs w _ [_, _]))

end Go.Proofs.Ythnobhekodiciaa.Tw
