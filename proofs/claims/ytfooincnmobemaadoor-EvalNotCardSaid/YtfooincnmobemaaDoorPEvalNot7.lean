/-
  What the proof of EvalNot leans on, part 7 of 7: walks of the program's functions at the level of values, and plain facts of what they compute.
-/
import Derived.Test.YtfooincnmobemaaDoorPEvalNot6
namespace Go.Proofs.YtfooincnmobemaaDoor.Ex
open Go.RowKit V Pk Vl Go.Proofs.YtfooincnmobemaaDoor.Nm Go.Proofs.YtfooincnmobemaaDoor.Pc
set_option linter.unusedVariables false
set_option linter.unusedSimpArgs false

def kL : List Int := [3, 4, 6]
theorem kL_all : ∀ x ∈ kL, 3 ≤ x ∧ x ≤ 11 ∧ popsF x = 2 := by decide
theorem kL_at {i : Nat} (h : i < kL.length) : 3 ≤ kL[i] ∧ kL[i] ≤ 11 ∧ popsF kL[i] = 2 := kL_all _ (List.getElem_mem h)
theorem ok_evalR (a b : Int) (s : ByteArray) (c : Int) (t : Tw) (h : (evalR colsL (rowL a b s c) (opsAt 3 t)).2 = 0) : (evalR colsL (rowL a b s c) (opsAt 3 t)).1.Ok := by
 have f1 := fit_ops a b s c (good_ops 3 t) (whole_ops t)
 obtain ⟨_, e1⟩ := eval_good f1 h
 rw [e1] at h ⊢
 unfold foldV at h ⊢
 have key : ∀ (ops : List OpL), (∀ o ∈ ops, GoodO colsL o) → ∀ st : List Vl, (∀ v ∈ st, v.Ok) → (foldG noVl (evalF colsL (rowL a b s c)) ops st).1.Ok := by
  intro ops
  induction ops with
  | nil => intro _ st hst; exact ok_getD hst 0
  | cons o r ih =>
   intro hg st hst
   have hev : (evalF colsL (rowL a b s c) o (argA noVl o.k st) (argB noVl o.k st)).1.Ok := ok_eval (row_ok a b s c) (hg o List.mem_cons_self).ok (ok_argA hst _) (ok_argB hst _)
   by_cases hz : (evalF colsL (rowL a b s c) o (argA noVl o.k st) (argB noVl o.k st)).2 = 0
   ·rw [cons_ok hz]
    refine ih (fun x hx => hg x (List.mem_cons_of_mem _ hx)) _ (fun v hv => ?_)
    rcases List.mem_append.1 hv with hv | hv
    ·exact hst v (List.mem_of_mem_take hv)
    ·rw [List.mem_singleton] at hv; rw [hv]; exact hev
   ·rw [cons_bad hz]; exact ok_no
 exact key _ (good_ops 3 t) [] (fun v hv => by cases hv)
variable {G : List (Nat × List Value)}

theorem info40_Ex7 : (Tryd.prog.info? 40).map (fun i => (i.zero, i.size, i.bytes)) = some (some (.agg #[.int .i64 0, .int .i64 0, .int .i64 0, .string ⟨#[]⟩, .string ⟨#[]⟩]), 5, 56) := by kernel_rfl

theorem places33_Ex7 : ∀ w, ((#[{ name := "Kind", type := 3, offset := 0, embedded := false, tag := "", pkgPath := "", byteOffset := 0 }, { name := "Int", type := 3, offset := 1, embedded := false, tag := "", pkgPath := "", byteOffset := 8 }, { name := "Text", type := 9, offset := 2, embedded := false, tag := "", pkgPath := "", byteOffset := 16 }] : Array Field).mapM fun f => do pure (f.offset, ← sizeOf f.type) : Sem (Array (Nat × Nat))).run Tryd.prog w = .ok #[(0, 1), (1, 1), (2, 1)] w := fun w => by simp [Tryd.sizeOf3, Tryd.sizeOf9]

theorem places40_Ex7 : ∀ w, ((#[{ name := "Kind", type := 3, offset := 0, embedded := false, tag := "", pkgPath := "", byteOffset := 0 }, { name := "Value", type := 33, offset := 1, embedded := false, tag := "", pkgPath := "", byteOffset := 8 }, { name := "Name", type := 9, offset := 4, embedded := false, tag := "", pkgPath := "", byteOffset := 40 }] : Array Field).mapM fun f => do pure (f.offset, ← sizeOf f.type) : Sem (Array (Nat × Nat))).run Tryd.prog w = .ok #[(0, 1), (1, 3), (4, 1)] w := fun w => by simp [Tryd.sizeOf3, Tryd.sizeOf33, Tryd.sizeOf9]

set_option maxHeartbeats 4000000 in
set_option maxRecDepth 100000 in
theorem not_vp (hm : (3, marksC) ∈ G) (hw : (0, wordsC) ∈ G) (ht : (2, typesC) ∈ G) (t u : Tw) (htkt : t.Ok) (htku : u.Ok) (a : Int) (a1 : -9223372036854775808 ≤ a) (a2 : a ≤ 9223372036854775807) (b : Int) (b1 : -9223372036854775808 ≤ b) (b2 : b ≤ 9223372036854775807) (s : ByteArray) (hs : s.size ≤ maxLen) (c : Int) (c1 : -9223372036854775808 ≤ c) (c2 : c ≤ 9223372036854775807) : VP Tryd.prog G 4 [.agg t.cs, .agg u.cs, .v (.int .i64 a), .v (.int .i64 b), .v (.string s), .v (.int .i64 c)] (.v (.bool true)) := by
 refine VC.body Tryd.func4 rfl Tryd.ntmps4 (Nat.le_of_ble_eq_true rfl) fun X0 w0 S00 => ?_
 obtain ⟨tk, tn, ts, tts⟩ := t
 have hOt := Ops_vp (G := G) _ htkt
 generalize htt : (Tw.mk tk tn ts tts) = t at *
 rw [← htt] at hOt
 unfold Tw.cs at hOt
 rw [htt] at hOt
 obtain ⟨uk, un, us, uts⟩ := u
 have hOu := Ops_vp (G := G) _ htku
 generalize htu : (Tw.mk uk un us uts) = u at *
 rw [← htu] at hOu
 unfold Tw.cs at hOu
 rw [htu] at hOu
 have hyev := Eval_at hm hw ht a b s c [yesO] good_yes
 rw [eval_yes] at hyev
 have hxev := Eval_at hm hw ht a b s c (opsAt 3 t) (good_ops 3 t)
 have huev := Eval_at hm hw ht a b s c (opsAt 3 u) (good_ops 3 u)
 have hcev := Eval_at hm hw ht a b s c [colN] good_coln
 rw [eval_coln] at hcev
 have hkl : kL.length = 3 := rfl
 have s1 := ops_short t
 have s2 := ops_short u
 have hE2 := fun k h3 h11 hk => eval_two a b s c t u (k := k) h3 h11 hk
 have hE1 := eval_one a b s c t
 have hok1 := ok_evalR a b s c t
 have hok2 := ok_evalR a b s c u
 rw [← htt, ← htu]
 unfold Tw.cs
 skip
 generalize evalR colsL (rowL a b s c) (opsAt 3 t) = V at *
 generalize evalR colsL (rowL a b s c) (opsAt 3 u) = W at *
 obtain ⟨v, e⟩ := V
 obtain ⟨w, f⟩ := W
 unfold vlD at hyev hxev huev hcev
 dsimp only at *
 unfold cV at hyev hxev huev
 refine CD.seq ?_
 refine CD.region ?_
 refine OD.box (ds := [_, _, _, _]) (wants_plain rfl) rfl rfl ot rfl rfl (fun b6 => ?_)
 refine OD.box (ds := [_, _, _, _]) (wants_plain rfl) rfl rfl ot rfl rfl (fun b7 => ?_)
 refine OD.still (wants_plain rfl) rfl (still_as rfl opd_const) ?_
 refine OD.wk (Wk.as_ (n := 175) (l' := [(2, _), (3, _), (4, _), (5, _), (6, _), (7, _)]) (S' := [⟨b7, 24, 4, [_, _, _, _]⟩, ⟨b6, 24, 4, [_, _, _, _]⟩]) rfl rfl ⟨lk, lk, lk, lk, lk, lk, trivial⟩) ?_
 refine OD.nil ?_
 refine CD.seq ?_
 refine CD.region ?_
 refine OD.still (wants_plain rfl) rfl (still_mv rfl ot) ?_
 refine OD.still (wants_plain rfl) rfl (still_mv rfl ot) ?_
 refine OD.still (wants_plain rfl) rfl (still_mv rfl ot) ?_
 refine OD.still (wants_plain rfl) rfl (still_mv rfl ot) ?_
 refine OD.callP (wants_plain rfl) rfl rfl rfl Tryd.call12 (rowOf_vp a a1 a2 b b1 b2 s hs c c1 c2) ⟨ot, ot, ot, ot, trivial⟩ ?_
 refine OD.still (wants_plain rfl) rfl (still_as rfl ot) ?_
 refine OD.wk (Wk.as_ (n := 175) (l' := [(6, _), (7, _), (13, _)]) (S' := [⟨b7, 24, 4, [_, _, _, _]⟩, ⟨b6, 24, 4, [_, _, _, _]⟩]) rfl rfl ⟨lk, lk, lk, trivial⟩) ?_
 refine OD.nil ?_
 refine CD.seq ?_
 refine CD.region ?_
 refine OD.callP (wants_plain rfl) rfl rfl rfl Tryd.call10 (colsOf_vp) trivial ?_
 refine OD.still (wants_plain rfl) rfl (still_mv rfl ot) ?_
 refine OD.still (wants_plain rfl) rfl (still_bld (pl := [(0, _), (1, _)]) (ds := [_, _, _]) rfl Tryd.zeroValue33 Tryd.runUnderlying33 places33_Ex7 ⟨rfl, opd_const, rfl, opd_const, trivial⟩ rfl rfl) ?_
 refine OD.still (wants_plain rfl) rfl (still_bld (pl := [(0, _), (1, _)]) (ds := [_, _, _, _, _]) rfl Tryd.zeroValue40 Tryd.runUnderlying40 places40_Ex7 ⟨rfl, opd_const, rfl, ot, trivial⟩ rfl rfl) ?_
 refine OD.bldS (pl := numD 0 [_]) (zvs := [.int .i64 0, .int .i64 0, .int .i64 0, .string ⟨#[]⟩, .string ⟨#[]⟩]) (ds := [_, _, _, _, _]) (wants_plain rfl) rfl rfl Tryd.zeroValue40 Tryd.runUnderlying25 Tryd.sizeOf40 rfl rfl (by kernel_rfl) ⟨rfl, ot, trivial⟩ (by exact rfl) (fill_full (by exact rfl) (by exact rfl) (by exact rfl)) (fun b45 => ?_)
 refine OD.perm (perm_q11 (S1 := [⟨b45, 40, 1 * 5, List.flatMap cO ([yesO])⟩]) (A := [_, _])) ?_
 refine OD.giveL (t := 45) (Sq := [⟨b45, 40, 1 * 5, List.flatMap cO ([yesO])⟩]) lk (ownL_row (g := cO) (sz := 5) (e := 40) (ls := [yesO]) (Nat.le_refl _) (show 1 ≤ maxLen by decide)) (fm_len cO_len _) (perm_r11 (A := [_, _])) ?_
 refine OD.callP (wants_plain rfl) rfl rfl rfl Tryd.call11 (hyev) ⟨ot, ot, ot, trivial⟩ ?_
 refine OD.still (wants_plain rfl) rfl (still_mv rfl ot) ?_
 refine OD.still (wants_plain rfl) rfl (still_extract rfl ot rfl) ?_
 refine OD.still (wants_plain rfl) rfl (still_extract rfl ot rfl) ?_
 refine OD.alloc (ds := [_, _, _]) (wants_plain rfl) rfl rfl Tryd.zeroValue33 rfl (fun b14 => ?_)
 refine OD.store (k := 0) (cs' := [_, _, _]) (wants_plain rfl) rfl rfl ot rfl rfl ot rfl rfl Tryd.sizeOf33 rfl rfl rfl ?_
 refine OD.still (wants_plain rfl) rfl (still_as rfl ot) ?_
 refine OD.wk (Wk.as_ (n := 175) (l' := [(6, _), (7, _), (13, _), (14, _), (15, _)]) (S' := [⟨b14, 33, 3, [_, _, _]⟩, ⟨b7, 24, 4, [_, _, _, _]⟩, ⟨b6, 24, 4, [_, _, _, _]⟩]) rfl rfl ⟨lk, lk, lk, lk, lk, trivial⟩) ?_
 refine OD.nil ?_
 refine CD.seq ?_
 refine CD.seq ?_
 refine CD.region ?_
 refine OD.still (wants_plain rfl) rfl (still_mv rfl ot) ?_
 refine OD.still (wants_plain rfl) rfl (still_bin rfl ot opd_const bin_neq) ?_
 refine OD.still (wants_plain rfl) rfl (still_mv rfl ot) ?_
 refine OD.split (t := 51) lk (fun hg51 => ?_) (fun hg51 => ?_)
 ·exact absurd hg51 (by decide)
 ·have hg51' := hg51; (try simp only [V.cnd, ne_eq] at hg51')
  refine OD.still (wants_T rfl rfl rfl lk (by first | rfl | assumption)) rfl (still_r1 (mk := fun y => Op.fieldAddr 33 y 1) rfl ot (by first | exact fa_ptr (off := 1) Tryd.runUnderlying33 rfl Tryd.sizeOf3 rfl | exact fa_iptr (off := 1) Tryd.runUnderlying33 rfl Tryd.sizeOf3 rfl)) ?_
  refine OD.still (wants_T rfl rfl rfl lk (by first | rfl | assumption)) rfl (still_r1 (mk := Op.load 3) rfl ot (by first | exact ld_blk (k := 0) rfl rfl Tryd.isAgg3 rfl | exact ld_fm cO_len Tryd.isAgg3 (by first | assumption | omega) rfl | exact ld_fm0 cO_len Tryd.isAgg3 (by first | assumption | omega) rfl | exact ld_fm cV_len Tryd.isAgg3 (by first | assumption | omega) rfl | exact ld_fm0 cV_len Tryd.isAgg3 (by first | assumption | omega) rfl | exact ld_fm cI_len Tryd.isAgg3 (by first | assumption | omega) rfl | exact ld_fm0 cI_len Tryd.isAgg3 (by first | assumption | omega) rfl | exact ld_row (k := 0) cO_len rfl rfl rfl Tryd.isAgg3 (by first | assumption | omega) rfl | exact ld_row0 (k := 0) cO_len rfl rfl rfl Tryd.isAgg3 (by first | assumption | omega) rfl | exact ld_row (k := 1) cO_len rfl rfl rfl Tryd.isAgg3 (by first | assumption | omega) rfl | exact ld_row0 (k := 1) cO_len rfl rfl rfl Tryd.isAgg3 (by first | assumption | omega) rfl | exact ld_row (k := 2) cO_len rfl rfl rfl Tryd.isAgg3 (by first | assumption | omega) rfl | exact ld_row0 (k := 2) cO_len rfl rfl rfl Tryd.isAgg3 (by first | assumption | omega) rfl | exact ld_row (k := 0) cV_len rfl rfl rfl Tryd.isAgg3 (by first | assumption | omega) rfl | exact ld_row0 (k := 0) cV_len rfl rfl rfl Tryd.isAgg3 (by first | assumption | omega) rfl | exact ld_row (k := 1) cV_len rfl rfl rfl Tryd.isAgg3 (by first | assumption | omega) rfl | exact ld_row0 (k := 1) cV_len rfl rfl rfl Tryd.isAgg3 (by first | assumption | omega) rfl | exact ld_row (k := 2) cV_len rfl rfl rfl Tryd.isAgg3 (by first | assumption | omega) rfl | exact ld_row0 (k := 2) cV_len rfl rfl rfl Tryd.isAgg3 (by first | assumption | omega) rfl | exact ld_row (k := 0) cI_len rfl rfl rfl Tryd.isAgg3 (by first | assumption | omega) rfl | exact ld_row0 (k := 0) cI_len rfl rfl rfl Tryd.isAgg3 (by first | assumption | omega) rfl | exact ld_row (k := 1) cI_len rfl rfl rfl Tryd.isAgg3 (by first | assumption | omega) rfl | exact ld_row0 (k := 1) cI_len rfl rfl rfl Tryd.isAgg3 (by first | assumption | omega) rfl | exact ld_row (k := 2) cI_len rfl rfl rfl Tryd.isAgg3 (by first | assumption | omega) rfl | exact ld_row0 (k := 2) cI_len rfl rfl rfl Tryd.isAgg3 (by first | assumption | omega) rfl | exact ld_i Tryd.isAgg3 rfl)) ?_
  refine OD.still (wants_T rfl rfl rfl lk (by first | rfl | assumption)) rfl (still_bin rfl ot opd_const bin_neq) ?_
  refine OD.still (wants_plain rfl) rfl (still_pickF rfl ot (by first | rfl | assumption) ot) ?_
  refine OD.wk (Wk.as_ (n := 175) (l' := [(6, _), (7, _), (13, _), (55, _)]) (S' := [⟨b14, 33, 3, [_, _, _]⟩, ⟨b7, 24, 4, [_, _, _, _]⟩, ⟨b6, 24, 4, [_, _, _, _]⟩]) rfl rfl ⟨lk, lk, lk, lk, trivial⟩) ?_
  refine OD.nil ?_
  refine CD.cond ot (fun hc0 => ?_) (fun hc0 => ?_)
  ·exact absurd hc0 (by decide)
  ·have hc0' := hc0
   (try simp only [V.cnd, ne_eq] at hc0')
   refine CD.skip ?_
   refine CD.seq ?_
   refine CD.region ?_
   refine OD.still (wants_plain rfl) rfl (still_r1 (mk := Op.load 24) rfl ot (by first | exact ld_blks (k := 2) (ds := [_, _, _, _]) rfl rfl Tryd.isAgg24 Tryd.sizeOf24 rfl rfl | exact ld_fms cO_len Tryd.isAgg24 Tryd.sizeOf24 (by first | assumption | omega) | exact ld_fms cV_len Tryd.isAgg24 Tryd.sizeOf24 (by first | assumption | omega) | exact ld_fms cI_len Tryd.isAgg24 Tryd.sizeOf24 (by first | assumption | omega) | exact ld_rows (k := 0) cO_len rfl rfl rfl Tryd.isAgg24 Tryd.sizeOf24 (by first | assumption | omega) | exact ld_rows (k := 1) cO_len rfl rfl rfl Tryd.isAgg24 Tryd.sizeOf24 (by first | assumption | omega) | exact ld_rows (k := 2) cO_len rfl rfl rfl Tryd.isAgg24 Tryd.sizeOf24 (by first | assumption | omega) | exact ld_rows (k := 0) cV_len rfl rfl rfl Tryd.isAgg24 Tryd.sizeOf24 (by first | assumption | omega) | exact ld_rows (k := 1) cV_len rfl rfl rfl Tryd.isAgg24 Tryd.sizeOf24 (by first | assumption | omega) | exact ld_rows (k := 2) cV_len rfl rfl rfl Tryd.isAgg24 Tryd.sizeOf24 (by first | assumption | omega) | exact ld_rows (k := 0) cI_len rfl rfl rfl Tryd.isAgg24 Tryd.sizeOf24 (by first | assumption | omega) | exact ld_rows (k := 1) cI_len rfl rfl rfl Tryd.isAgg24 Tryd.sizeOf24 (by first | assumption | omega) | exact ld_rows (k := 2) cI_len rfl rfl rfl Tryd.isAgg24 Tryd.sizeOf24 (by first | assumption | omega) | exact ld_is (ds := [_, _, _, _]) Tryd.isAgg24 Tryd.sizeOf24 rfl rfl)) ?_
   refine OD.callP (wants_plain rfl) rfl rfl rfl Tryd.call8 (hOt) ⟨ot, trivial⟩ ?_
   refine OD.still (wants_plain rfl) rfl (still_as rfl ot) ?_
   refine OD.wk (Wk.as_ (n := 175) (l' := [(7, _), (13, _), (16, _)]) (S' := [⟨b14, 33, 3, [_, _, _]⟩, ⟨b7, 24, 4, [_, _, _, _]⟩, ⟨b6, 24, 4, [_, _, _, _]⟩]) rfl rfl ⟨lk, lk, lk, trivial⟩) ?_
   refine OD.nil ?_
   refine CD.seq ?_
   refine CD.region ?_
   refine OD.still (wants_plain rfl) rfl (still_r1 (mk := Op.load 24) rfl ot (by first | exact ld_blks (k := 1) (ds := [_, _, _, _]) rfl rfl Tryd.isAgg24 Tryd.sizeOf24 rfl rfl | exact ld_fms cO_len Tryd.isAgg24 Tryd.sizeOf24 (by first | assumption | omega) | exact ld_fms cV_len Tryd.isAgg24 Tryd.sizeOf24 (by first | assumption | omega) | exact ld_fms cI_len Tryd.isAgg24 Tryd.sizeOf24 (by first | assumption | omega) | exact ld_rows (k := 0) cO_len rfl rfl rfl Tryd.isAgg24 Tryd.sizeOf24 (by first | assumption | omega) | exact ld_rows (k := 1) cO_len rfl rfl rfl Tryd.isAgg24 Tryd.sizeOf24 (by first | assumption | omega) | exact ld_rows (k := 2) cO_len rfl rfl rfl Tryd.isAgg24 Tryd.sizeOf24 (by first | assumption | omega) | exact ld_rows (k := 0) cV_len rfl rfl rfl Tryd.isAgg24 Tryd.sizeOf24 (by first | assumption | omega) | exact ld_rows (k := 1) cV_len rfl rfl rfl Tryd.isAgg24 Tryd.sizeOf24 (by first | assumption | omega) | exact ld_rows (k := 2) cV_len rfl rfl rfl Tryd.isAgg24 Tryd.sizeOf24 (by first | assumption | omega) | exact ld_rows (k := 0) cI_len rfl rfl rfl Tryd.isAgg24 Tryd.sizeOf24 (by first | assumption | omega) | exact ld_rows (k := 1) cI_len rfl rfl rfl Tryd.isAgg24 Tryd.sizeOf24 (by first | assumption | omega) | exact ld_rows (k := 2) cI_len rfl rfl rfl Tryd.isAgg24 Tryd.sizeOf24 (by first | assumption | omega) | exact ld_is (ds := [_, _, _, _]) Tryd.isAgg24 Tryd.sizeOf24 rfl rfl)) ?_
   refine OD.callP (wants_plain rfl) rfl rfl rfl Tryd.call8 (hOu) ⟨ot, trivial⟩ ?_
   refine OD.still (wants_plain rfl) rfl (still_as rfl ot) ?_
   refine OD.wk (Wk.as_ (n := 175) (l' := [(13, _), (16, _), (17, _)]) (S' := [⟨b14, 33, 3, [_, _, _]⟩, ⟨b7, 24, 4, [_, _, _, _]⟩, ⟨b6, 24, 4, [_, _, _, _]⟩]) rfl rfl ⟨lk, lk, lk, trivial⟩) ?_
   refine OD.nil ?_
   refine CD.seq ?_
   refine CD.region ?_
   refine OD.callP (wants_plain rfl) rfl rfl rfl Tryd.call10 (colsOf_vp) trivial ?_
   refine OD.still (wants_plain rfl) rfl (still_mv rfl ot) ?_
   refine OD.still (wants_plain rfl) rfl (still_mv rfl ot) ?_
   refine OD.callP (wants_plain rfl) rfl rfl rfl Tryd.call11 (hxev) ⟨ot, ot, ot, trivial⟩ ?_
   refine OD.still (wants_plain rfl) rfl (still_mv rfl ot) ?_
   refine OD.still (wants_plain rfl) rfl (still_extract rfl ot rfl) ?_
   refine OD.still (wants_plain rfl) rfl (still_extract rfl ot rfl) ?_
   refine OD.alloc (ds := [_, _, _]) (wants_plain rfl) rfl rfl Tryd.zeroValue33 rfl (fun b18 => ?_)
   refine OD.store (k := 0) (cs' := [_, _, _]) (wants_plain rfl) rfl rfl ot rfl rfl ot rfl rfl Tryd.sizeOf33 rfl rfl rfl ?_
   refine OD.still (wants_plain rfl) rfl (still_as rfl ot) ?_
   refine OD.wk (Wk.as_ (n := 175) (l' := [(13, _), (16, _), (17, _), (18, _), (19, _)]) (S' := [⟨b18, 33, 3, [_, _, _]⟩, ⟨b14, 33, 3, [_, _, _]⟩, ⟨b7, 24, 4, [_, _, _, _]⟩, ⟨b6, 24, 4, [_, _, _, _]⟩]) rfl rfl ⟨lk, lk, lk, lk, lk, trivial⟩) ?_
   refine OD.nil ?_
   refine CD.seq ?_
   refine CD.region ?_
   refine OD.callP (wants_plain rfl) rfl rfl rfl Tryd.call10 (colsOf_vp) trivial ?_
   refine OD.still (wants_plain rfl) rfl (still_mv rfl ot) ?_
   refine OD.still (wants_plain rfl) rfl (still_mv rfl ot) ?_
   refine OD.callP (wants_plain rfl) rfl rfl rfl Tryd.call11 (huev) ⟨ot, ot, ot, trivial⟩ ?_
   refine OD.still (wants_plain rfl) rfl (still_mv rfl ot) ?_
   refine OD.still (wants_plain rfl) rfl (still_extract rfl ot rfl) ?_
   refine OD.still (wants_plain rfl) rfl (still_extract rfl ot rfl) ?_
   refine OD.alloc (ds := [_, _, _]) (wants_plain rfl) rfl rfl Tryd.zeroValue33 rfl (fun b20 => ?_)
   refine OD.store (k := 0) (cs' := [_, _, _]) (wants_plain rfl) rfl rfl ot rfl rfl ot rfl rfl Tryd.sizeOf33 rfl rfl rfl ?_
   refine OD.still (wants_plain rfl) rfl (still_as rfl ot) ?_
   refine OD.wk (Wk.as_ (n := 175) (l' := [(13, _), (16, _), (17, _), (18, _), (19, _), (20, _), (21, _)]) (S' := [⟨b20, 33, 3, [_, _, _]⟩, ⟨b18, 33, 3, [_, _, _]⟩, ⟨b14, 33, 3, [_, _, _]⟩, ⟨b7, 24, 4, [_, _, _, _]⟩, ⟨b6, 24, 4, [_, _, _, _]⟩]) rfl rfl ⟨lk, lk, lk, lk, lk, lk, lk, trivial⟩) ?_
   refine OD.nil ?_
   refine CD.seq ?_
   refine CD.seq ?_
   refine CD.region ?_
   refine OD.still (wants_plain rfl) rfl (still_mv rfl ot) ?_
   refine OD.still (wants_plain rfl) rfl (still_bin rfl ot opd_const bin_neq) ?_
   refine OD.still (wants_plain rfl) rfl (still_mv rfl ot) ?_
   refine OD.split (t := 76) lk (fun hg76 => ?_) (fun hg76 => ?_)
   ·have hg76' := hg76; (try simp only [V.cnd, ne_eq] at hg76')
    refine OD.skip (wants_F rfl rfl rfl lk (by first | rfl | assumption)) rfl ?_
    refine OD.skip (wants_F rfl rfl rfl lk (by first | rfl | assumption)) rfl ?_
    refine OD.still (wants_plain rfl) rfl (still_pickT rfl ot (by first | rfl | assumption) opd_const) ?_
    refine OD.still (wants_plain rfl) rfl (still_mv rfl ot) ?_
    refine OD.skip (wants_F rfl rfl rfl lk (by first | rfl | assumption)) rfl ?_
    refine OD.skip (wants_F rfl rfl rfl lk (by first | rfl | assumption)) rfl ?_
    refine OD.skip (wants_F rfl rfl rfl lk (by first | rfl | assumption)) rfl ?_
    refine OD.still (wants_plain rfl) rfl (still_pickT rfl ot (by first | rfl | assumption) opd_const) ?_
    refine OD.still (wants_plain rfl) rfl (still_mv rfl ot) ?_
    refine OD.skip (wants_F rfl rfl rfl lk (by first | rfl | assumption)) rfl ?_
    refine OD.skip (wants_F rfl rfl rfl lk (by first | rfl | assumption)) rfl ?_
    refine OD.skip (wants_F rfl rfl rfl lk (by first | rfl | assumption)) rfl ?_
    refine OD.still (wants_plain rfl) rfl (still_pickT rfl ot (by first | rfl | assumption) opd_const) ?_
    refine OD.wk (Wk.as_ (n := 175) (l' := [(13, _), (16, _), (17, _), (18, _), (20, _), (89, _)]) (S' := [⟨b20, 33, 3, [_, _, _]⟩, ⟨b18, 33, 3, [_, _, _]⟩, ⟨b14, 33, 3, [_, _, _]⟩, ⟨b7, 24, 4, [_, _, _, _]⟩, ⟨b6, 24, 4, [_, _, _, _]⟩]) rfl rfl ⟨lk, lk, lk, lk, lk, lk, trivial⟩) ?_
    refine OD.nil ?_
    refine CD.condT ot (by first | rfl | assumption) ?_
    refine CD.seq ?_
    refine CD.region ?_
    refine OD.callP (wants_plain rfl) rfl rfl rfl Tryd.call10 (colsOf_vp) trivial ?_
    refine OD.still (wants_plain rfl) rfl (still_mv rfl ot) ?_
    refine OD.still (wants_plain rfl) rfl (still_bld (pl := [(0, _), (2, _)]) (ds := [_, _, _, _, _]) rfl Tryd.zeroValue40 Tryd.runUnderlying40 places40_Ex7 ⟨rfl, opd_const, rfl, opd_const, trivial⟩ rfl rfl) ?_
    refine OD.bldS (pl := numD 0 [_]) (zvs := [.int .i64 0, .int .i64 0, .int .i64 0, .string ⟨#[]⟩, .string ⟨#[]⟩]) (ds := [_, _, _, _, _]) (wants_plain rfl) rfl rfl Tryd.zeroValue40 Tryd.runUnderlying25 Tryd.sizeOf40 rfl rfl (by kernel_rfl) ⟨rfl, ot, trivial⟩ (by exact rfl) (fill_full (by exact rfl) (by exact rfl) (by exact rfl)) (fun b94 => ?_)
    refine OD.perm (perm_q11 (S1 := [⟨b94, 40, 1 * 5, List.flatMap cO ([colN])⟩]) (A := [_, _, _, _, _])) ?_
    refine OD.giveL (t := 94) (Sq := [⟨b94, 40, 1 * 5, List.flatMap cO ([colN])⟩]) lk (ownL_row (g := cO) (sz := 5) (e := 40) (ls := [colN]) (Nat.le_refl _) (show 1 ≤ maxLen by decide)) (fm_len cO_len _) (perm_r11 (A := [_, _, _, _, _])) ?_
    refine OD.callP (wants_plain rfl) rfl rfl rfl Tryd.call11 (hcev) ⟨ot, ot, ot, trivial⟩ ?_
    refine OD.still (wants_plain rfl) rfl (still_mv rfl ot) ?_
    refine OD.still (wants_plain rfl) rfl (still_extract rfl ot rfl) ?_
    refine OD.still (wants_plain rfl) rfl (still_extract rfl ot rfl) ?_
    refine OD.alloc (ds := [_, _, _]) (wants_plain rfl) rfl rfl Tryd.zeroValue33 rfl (fun b22 => ?_)
    refine OD.store (k := 0) (cs' := [_, _, _]) (wants_plain rfl) rfl rfl ot rfl rfl ot rfl rfl Tryd.sizeOf33 rfl rfl rfl ?_
    refine OD.still (wants_plain rfl) rfl (still_as rfl ot) ?_
    refine OD.wk (Wk.as_ (n := 175) (l' := [(13, _), (22, _), (23, _)]) (S' := [⟨b22, 33, 3, [_, _, _]⟩, ⟨b20, 33, 3, [_, _, _]⟩, ⟨b18, 33, 3, [_, _, _]⟩, ⟨b14, 33, 3, [_, _, _]⟩, ⟨b7, 24, 4, [_, _, _, _]⟩, ⟨b6, 24, 4, [_, _, _, _]⟩]) rfl rfl ⟨lk, lk, lk, trivial⟩) ?_
    refine OD.nil ?_
    refine CD.seq ?_
    refine CD.draw (bks _) (by kernel_rfl) (fun _ h => h) ?_
    refine AD0.take (i := 0) rfl (by kernel_rfl) (by kernel_rfl) (by kernel_rfl) (by repeat (first | exact NP.body | apply NP.then | apply NP.cut | apply NP.inBlock | apply NP.round)) (wants_plain rfl) rfl (still_mv rfl ot) (by exact trivial) ?_
    refine AD0.take (i := 1) rfl (by kernel_rfl) (by kernel_rfl) (by kernel_rfl) (by repeat (first | exact NP.body | apply NP.then | apply NP.cut | apply NP.inBlock | apply NP.round)) (wants_plain rfl) rfl (still_bin rfl ot opd_const bin_eql) (by exact trivial) ?_
    refine AD0.take (i := 2) rfl (by kernel_rfl) (by kernel_rfl) (by kernel_rfl) (by repeat (first | exact NP.body | apply NP.then | apply NP.cut | apply NP.inBlock | apply NP.round)) (wants_plain rfl) rfl (still_mv rfl ot) (by exact trivial) ?_
    refine AD0.split (t := 100) lk (fun hg100 => ?_) (fun hg100 => ?_)
    ·have hg100' := hg100; (try simp only [V.cnd, ne_eq] at hg100')
     refine AD0.take (i := 3) rfl (by kernel_rfl) (by kernel_rfl) (by kernel_rfl) (by repeat (first | exact NP.body | apply NP.then | apply NP.cut | apply NP.inBlock | apply NP.round)) (wants_T rfl rfl rfl lk (by first | rfl | assumption)) rfl (still_r1 (mk := Op.load 33) rfl ot (by first | exact ld_blks (k := 0) (ds := [_, _, _]) rfl rfl Tryd.isAgg33 Tryd.sizeOf33 rfl rfl | exact ld_fms cO_len Tryd.isAgg33 Tryd.sizeOf33 (by first | assumption | omega) | exact ld_fms cV_len Tryd.isAgg33 Tryd.sizeOf33 (by first | assumption | omega) | exact ld_fms cI_len Tryd.isAgg33 Tryd.sizeOf33 (by first | assumption | omega) | exact ld_rows (k := 0) cO_len rfl rfl rfl Tryd.isAgg33 Tryd.sizeOf33 (by first | assumption | omega) | exact ld_rows (k := 1) cO_len rfl rfl rfl Tryd.isAgg33 Tryd.sizeOf33 (by first | assumption | omega) | exact ld_rows (k := 2) cO_len rfl rfl rfl Tryd.isAgg33 Tryd.sizeOf33 (by first | assumption | omega) | exact ld_rows (k := 3) cO_len rfl rfl rfl Tryd.isAgg33 Tryd.sizeOf33 (by first | assumption | omega) | exact ld_rows (k := 4) cO_len rfl rfl rfl Tryd.isAgg33 Tryd.sizeOf33 (by first | assumption | omega) | exact ld_rows (k := 5) cO_len rfl rfl rfl Tryd.isAgg33 Tryd.sizeOf33 (by first | assumption | omega) | exact ld_rows (k := 0) cV_len rfl rfl rfl Tryd.isAgg33 Tryd.sizeOf33 (by first | assumption | omega) | exact ld_rows (k := 1) cV_len rfl rfl rfl Tryd.isAgg33 Tryd.sizeOf33 (by first | assumption | omega) | exact ld_rows (k := 2) cV_len rfl rfl rfl Tryd.isAgg33 Tryd.sizeOf33 (by first | assumption | omega) | exact ld_rows (k := 3) cV_len rfl rfl rfl Tryd.isAgg33 Tryd.sizeOf33 (by first | assumption | omega) | exact ld_rows (k := 4) cV_len rfl rfl rfl Tryd.isAgg33 Tryd.sizeOf33 (by first | assumption | omega) | exact ld_rows (k := 5) cV_len rfl rfl rfl Tryd.isAgg33 Tryd.sizeOf33 (by first | assumption | omega) | exact ld_rows (k := 0) cI_len rfl rfl rfl Tryd.isAgg33 Tryd.sizeOf33 (by first | assumption | omega) | exact ld_rows (k := 1) cI_len rfl rfl rfl Tryd.isAgg33 Tryd.sizeOf33 (by first | assumption | omega) | exact ld_rows (k := 2) cI_len rfl rfl rfl Tryd.isAgg33 Tryd.sizeOf33 (by first | assumption | omega) | exact ld_rows (k := 3) cI_len rfl rfl rfl Tryd.isAgg33 Tryd.sizeOf33 (by first | assumption | omega) | exact ld_rows (k := 4) cI_len rfl rfl rfl Tryd.isAgg33 Tryd.sizeOf33 (by first | assumption | omega) | exact ld_rows (k := 5) cI_len rfl rfl rfl Tryd.isAgg33 Tryd.sizeOf33 (by first | assumption | omega) | exact ld_is (ds := [_, _, _]) Tryd.isAgg33 Tryd.sizeOf33 rfl rfl)) (by first | exact trivial | exact safe_blk (k0 := 0) rfl rfl | exact safe_blk (k0 := 1) rfl rfl | exact safe_blk (k0 := 2) rfl rfl | exact safe_blk (k0 := 3) rfl rfl | exact safe_blk (k0 := 4) rfl rfl | exact safe_blk (k0 := 5) rfl rfl) ?_
     refine AD0.take (i := 4) rfl (by kernel_rfl) (by kernel_rfl) (by kernel_rfl) (by repeat (first | exact NP.body | apply NP.then | apply NP.cut | apply NP.inBlock | apply NP.round)) (wants_T rfl rfl rfl lk (by first | rfl | assumption)) rfl (still_mv rfl ot) (by exact trivial) ?_
     refine AD0.take (i := 5) rfl (by kernel_rfl) (by kernel_rfl) (by kernel_rfl) (by repeat (first | exact NP.body | apply NP.then | apply NP.cut | apply NP.inBlock | apply NP.round)) (wants_T rfl rfl rfl lk (by first | rfl | assumption)) rfl (still_r2 (mk := Op.indexAddr 36) rfl ot opd_const (by first | exact ix_list Tryd.runUnderlying36 Tryd.sizeOf33 (j := 1) rfl (by rw [rowL_len]; decide) | exact ix_row Tryd.runUnderlying36 Tryd.sizeOf33 (j := 1) rfl (by rw [rowL_len]; decide))) (by exact trivial) ?_
     refine AD0.take (i := 6) rfl (by kernel_rfl) (by kernel_rfl) (by kernel_rfl) (by repeat (first | exact NP.body | apply NP.then | apply NP.cut | apply NP.inBlock | apply NP.round)) (wants_T rfl rfl rfl lk (by first | rfl | assumption)) rfl (still_r1 (mk := Op.load 33) rfl ot (by first | exact ld_blks (k := 0) (ds := [_, _, _]) rfl rfl Tryd.isAgg33 Tryd.sizeOf33 rfl rfl | exact ld_blks (k := 1) (ds := [_, _, _]) rfl rfl Tryd.isAgg33 Tryd.sizeOf33 rfl rfl | exact ld_blks (k := 2) (ds := [_, _, _]) rfl rfl Tryd.isAgg33 Tryd.sizeOf33 rfl rfl | exact ld_blks (k := 3) (ds := [_, _, _]) rfl rfl Tryd.isAgg33 Tryd.sizeOf33 rfl rfl | exact ld_fms cO_len Tryd.isAgg33 Tryd.sizeOf33 (by first | assumption | omega) | exact ld_fms cV_len Tryd.isAgg33 Tryd.sizeOf33 (by first | assumption | omega) | exact ld_fms cI_len Tryd.isAgg33 Tryd.sizeOf33 (by first | assumption | omega) | exact ld_rows (k := 0) cO_len rfl rfl rfl Tryd.isAgg33 Tryd.sizeOf33 (by first | assumption | omega) | exact ld_rows (k := 1) cO_len rfl rfl rfl Tryd.isAgg33 Tryd.sizeOf33 (by first | assumption | omega) | exact ld_rows (k := 2) cO_len rfl rfl rfl Tryd.isAgg33 Tryd.sizeOf33 (by first | assumption | omega) | exact ld_rows (k := 3) cO_len rfl rfl rfl Tryd.isAgg33 Tryd.sizeOf33 (by first | assumption | omega) | exact ld_rows (k := 4) cO_len rfl rfl rfl Tryd.isAgg33 Tryd.sizeOf33 (by first | assumption | omega) | exact ld_rows (k := 5) cO_len rfl rfl rfl Tryd.isAgg33 Tryd.sizeOf33 (by first | assumption | omega) | exact ld_rows (k := 0) cV_len rfl rfl rfl Tryd.isAgg33 Tryd.sizeOf33 (by first | assumption | omega) | exact ld_rows (k := 1) cV_len rfl rfl rfl Tryd.isAgg33 Tryd.sizeOf33 (by first | assumption | omega) | exact ld_rows (k := 2) cV_len rfl rfl rfl Tryd.isAgg33 Tryd.sizeOf33 (by first | assumption | omega) | exact ld_rows (k := 3) cV_len rfl rfl rfl Tryd.isAgg33 Tryd.sizeOf33 (by first | assumption | omega) | exact ld_rows (k := 4) cV_len rfl rfl rfl Tryd.isAgg33 Tryd.sizeOf33 (by first | assumption | omega) | exact ld_rows (k := 5) cV_len rfl rfl rfl Tryd.isAgg33 Tryd.sizeOf33 (by first | assumption | omega) | exact ld_rows (k := 0) cI_len rfl rfl rfl Tryd.isAgg33 Tryd.sizeOf33 (by first | assumption | omega) | exact ld_rows (k := 1) cI_len rfl rfl rfl Tryd.isAgg33 Tryd.sizeOf33 (by first | assumption | omega) | exact ld_rows (k := 2) cI_len rfl rfl rfl Tryd.isAgg33 Tryd.sizeOf33 (by first | assumption | omega) | exact ld_rows (k := 3) cI_len rfl rfl rfl Tryd.isAgg33 Tryd.sizeOf33 (by first | assumption | omega) | exact ld_rows (k := 4) cI_len rfl rfl rfl Tryd.isAgg33 Tryd.sizeOf33 (by first | assumption | omega) | exact ld_rows (k := 5) cI_len rfl rfl rfl Tryd.isAgg33 Tryd.sizeOf33 (by first | assumption | omega) | exact ld_is (ds := [_, _, _]) Tryd.isAgg33 Tryd.sizeOf33 rfl rfl)) (by first | exact trivial | exact safe_blk (k0 := 0) rfl rfl | exact safe_blk (k0 := 1) rfl rfl | exact safe_blk (k0 := 2) rfl rfl | exact safe_blk (k0 := 3) rfl rfl | exact safe_blk (k0 := 4) rfl rfl | exact safe_blk (k0 := 5) rfl rfl) ?_
     refine AD0.take (i := 7) rfl (by kernel_rfl) (by kernel_rfl) (by kernel_rfl) (by repeat (first | exact NP.body | apply NP.then | apply NP.cut | apply NP.inBlock | apply NP.round)) (wants_T rfl rfl rfl lk (by first | rfl | assumption)) rfl (still_eqS (us := [_, _, _]) (us' := [_, _, _]) rfl ot ot Tryd.eqGuardType33 (Vl.eqs33 (numV (pickedF b 9)) (numV (pickedF b 9)))) (by exact trivial) ?_
     refine AD0.take (i := 8) rfl (by kernel_rfl) (by kernel_rfl) (by kernel_rfl) (by repeat (first | exact NP.body | apply NP.then | apply NP.cut | apply NP.inBlock | apply NP.round)) (wants_plain rfl) rfl (still_pickT rfl ot (by first | rfl | assumption) ot) (by exact trivial) ?_
     refine AD0.take (i := 9) rfl (by kernel_rfl) (by kernel_rfl) (by kernel_rfl) (by repeat (first | exact NP.body | apply NP.then | apply NP.cut | apply NP.inBlock | apply NP.round)) (wants_plain rfl) rfl (still_as rfl ot) (by exact trivial) ?_
     refine AD0.later rfl ?_
     refine AD.wk (y := ⟨175, [(12, _)], [⟨b22, 33, 3, [_, _, _]⟩, ⟨b20, 33, 3, [_, _, _]⟩, ⟨b18, 33, 3, [_, _, _]⟩, ⟨b14, 33, 3, [_, _, _]⟩, ⟨b7, 24, 4, [_, _, _, _]⟩, ⟨b6, 24, 4, [_, _, _, _]⟩]⟩) (Wk.as_ rfl rfl ⟨lk, trivial⟩) rfl ?_
     refine AD.done (by kernel_rfl) ?_
     refine CD.ret ?_
     refine ⟨.inr rfl, _, [], List.nil_sublist _, ret_one Tryd.results4 (res_tmp (Nat.le_of_ble_eq_true rfl) lk), ?_⟩
     first | exact ⟨rfl, rfl⟩ | (refine ⟨vb ?_, rfl⟩; simp; done) | (rcases hE1v with h | h <;> first | (exfalso; omega) | (injection h with h1 h2; subst h1 h2; first | exact ⟨rfl, rfl⟩ | (refine ⟨vb ?_, rfl⟩; simp; done) | (exfalso; omega) | (exfalso; simp at *)))
    ·exact absurd hg100 (by decide)
   ·have hg76' := hg76; (try simp only [V.cnd, ne_eq] at hg76')
    refine OD.still (wants_T rfl rfl rfl lk (by first | rfl | assumption)) rfl (still_mv rfl ot) ?_
    refine OD.still (wants_T rfl rfl rfl lk (by first | rfl | assumption)) rfl (still_bin rfl ot opd_const bin_neq) ?_
    refine OD.still (wants_plain rfl) rfl (still_pickF rfl ot (by first | rfl | assumption) ot) ?_
    refine OD.still (wants_plain rfl) rfl (still_mv rfl ot) ?_
    refine OD.split (t := 80) lk (fun hg80 => ?_) (fun hg80 => ?_)
    ·have hg80' := hg80; (try simp only [V.cnd, ne_eq] at hg80')
     refine OD.skip (wants_F rfl rfl rfl lk (by first | rfl | assumption)) rfl ?_
     refine OD.skip (wants_F rfl rfl rfl lk (by first | rfl | assumption)) rfl ?_
     refine OD.skip (wants_F rfl rfl rfl lk (by first | rfl | assumption)) rfl ?_
     refine OD.still (wants_plain rfl) rfl (still_pickT rfl ot (by first | rfl | assumption) opd_const) ?_
     refine OD.still (wants_plain rfl) rfl (still_mv rfl ot) ?_
     refine OD.skip (wants_F rfl rfl rfl lk (by first | rfl | assumption)) rfl ?_
     refine OD.skip (wants_F rfl rfl rfl lk (by first | rfl | assumption)) rfl ?_
     refine OD.skip (wants_F rfl rfl rfl lk (by first | rfl | assumption)) rfl ?_
     refine OD.still (wants_plain rfl) rfl (still_pickT rfl ot (by first | rfl | assumption) opd_const) ?_
     refine OD.wk (Wk.as_ (n := 175) (l' := [(13, _), (16, _), (17, _), (18, _), (20, _), (89, _)]) (S' := [⟨b20, 33, 3, [_, _, _]⟩, ⟨b18, 33, 3, [_, _, _]⟩, ⟨b14, 33, 3, [_, _, _]⟩, ⟨b7, 24, 4, [_, _, _, _]⟩, ⟨b6, 24, 4, [_, _, _, _]⟩]) rfl rfl ⟨lk, lk, lk, lk, lk, lk, trivial⟩) ?_
     refine OD.nil ?_
     refine CD.condT ot (by first | rfl | assumption) ?_
     refine CD.seq ?_
     refine CD.region ?_
     refine OD.callP (wants_plain rfl) rfl rfl rfl Tryd.call10 (colsOf_vp) trivial ?_
     refine OD.still (wants_plain rfl) rfl (still_mv rfl ot) ?_
     refine OD.still (wants_plain rfl) rfl (still_bld (pl := [(0, _), (2, _)]) (ds := [_, _, _, _, _]) rfl Tryd.zeroValue40 Tryd.runUnderlying40 places40_Ex7 ⟨rfl, opd_const, rfl, opd_const, trivial⟩ rfl rfl) ?_
     refine OD.bldS (pl := numD 0 [_]) (zvs := [.int .i64 0, .int .i64 0, .int .i64 0, .string ⟨#[]⟩, .string ⟨#[]⟩]) (ds := [_, _, _, _, _]) (wants_plain rfl) rfl rfl Tryd.zeroValue40 Tryd.runUnderlying25 Tryd.sizeOf40 rfl rfl (by kernel_rfl) ⟨rfl, ot, trivial⟩ (by exact rfl) (fill_full (by exact rfl) (by exact rfl) (by exact rfl)) (fun b94 => ?_)
     refine OD.perm (perm_q11 (S1 := [⟨b94, 40, 1 * 5, List.flatMap cO ([colN])⟩]) (A := [_, _, _, _, _])) ?_
     refine OD.giveL (t := 94) (Sq := [⟨b94, 40, 1 * 5, List.flatMap cO ([colN])⟩]) lk (ownL_row (g := cO) (sz := 5) (e := 40) (ls := [colN]) (Nat.le_refl _) (show 1 ≤ maxLen by decide)) (fm_len cO_len _) (perm_r11 (A := [_, _, _, _, _])) ?_
     refine OD.callP (wants_plain rfl) rfl rfl rfl Tryd.call11 (hcev) ⟨ot, ot, ot, trivial⟩ ?_
     refine OD.still (wants_plain rfl) rfl (still_mv rfl ot) ?_
     refine OD.still (wants_plain rfl) rfl (still_extract rfl ot rfl) ?_
     refine OD.still (wants_plain rfl) rfl (still_extract rfl ot rfl) ?_
     refine OD.alloc (ds := [_, _, _]) (wants_plain rfl) rfl rfl Tryd.zeroValue33 rfl (fun b22 => ?_)
     refine OD.store (k := 0) (cs' := [_, _, _]) (wants_plain rfl) rfl rfl ot rfl rfl ot rfl rfl Tryd.sizeOf33 rfl rfl rfl ?_
     refine OD.still (wants_plain rfl) rfl (still_as rfl ot) ?_
     refine OD.wk (Wk.as_ (n := 175) (l' := [(13, _), (22, _), (23, _)]) (S' := [⟨b22, 33, 3, [_, _, _]⟩, ⟨b20, 33, 3, [_, _, _]⟩, ⟨b18, 33, 3, [_, _, _]⟩, ⟨b14, 33, 3, [_, _, _]⟩, ⟨b7, 24, 4, [_, _, _, _]⟩, ⟨b6, 24, 4, [_, _, _, _]⟩]) rfl rfl ⟨lk, lk, lk, trivial⟩) ?_
     refine OD.nil ?_
     refine CD.seq ?_
     refine CD.draw (bks _) (by kernel_rfl) (fun _ h => h) ?_
     refine AD0.take (i := 0) rfl (by kernel_rfl) (by kernel_rfl) (by kernel_rfl) (by repeat (first | exact NP.body | apply NP.then | apply NP.cut | apply NP.inBlock | apply NP.round)) (wants_plain rfl) rfl (still_mv rfl ot) (by exact trivial) ?_
     refine AD0.take (i := 1) rfl (by kernel_rfl) (by kernel_rfl) (by kernel_rfl) (by repeat (first | exact NP.body | apply NP.then | apply NP.cut | apply NP.inBlock | apply NP.round)) (wants_plain rfl) rfl (still_bin rfl ot opd_const bin_eql) (by exact trivial) ?_
     refine AD0.take (i := 2) rfl (by kernel_rfl) (by kernel_rfl) (by kernel_rfl) (by repeat (first | exact NP.body | apply NP.then | apply NP.cut | apply NP.inBlock | apply NP.round)) (wants_plain rfl) rfl (still_mv rfl ot) (by exact trivial) ?_
     refine AD0.split (t := 100) lk (fun hg100 => ?_) (fun hg100 => ?_)
     ·have hg100' := hg100; (try simp only [V.cnd, ne_eq] at hg100')
      refine AD0.take (i := 3) rfl (by kernel_rfl) (by kernel_rfl) (by kernel_rfl) (by repeat (first | exact NP.body | apply NP.then | apply NP.cut | apply NP.inBlock | apply NP.round)) (wants_T rfl rfl rfl lk (by first | rfl | assumption)) rfl (still_r1 (mk := Op.load 33) rfl ot (by first | exact ld_blks (k := 0) (ds := [_, _, _]) rfl rfl Tryd.isAgg33 Tryd.sizeOf33 rfl rfl | exact ld_fms cO_len Tryd.isAgg33 Tryd.sizeOf33 (by first | assumption | omega) | exact ld_fms cV_len Tryd.isAgg33 Tryd.sizeOf33 (by first | assumption | omega) | exact ld_fms cI_len Tryd.isAgg33 Tryd.sizeOf33 (by first | assumption | omega) | exact ld_rows (k := 0) cO_len rfl rfl rfl Tryd.isAgg33 Tryd.sizeOf33 (by first | assumption | omega) | exact ld_rows (k := 1) cO_len rfl rfl rfl Tryd.isAgg33 Tryd.sizeOf33 (by first | assumption | omega) | exact ld_rows (k := 2) cO_len rfl rfl rfl Tryd.isAgg33 Tryd.sizeOf33 (by first | assumption | omega) | exact ld_rows (k := 3) cO_len rfl rfl rfl Tryd.isAgg33 Tryd.sizeOf33 (by first | assumption | omega) | exact ld_rows (k := 4) cO_len rfl rfl rfl Tryd.isAgg33 Tryd.sizeOf33 (by first | assumption | omega) | exact ld_rows (k := 5) cO_len rfl rfl rfl Tryd.isAgg33 Tryd.sizeOf33 (by first | assumption | omega) | exact ld_rows (k := 0) cV_len rfl rfl rfl Tryd.isAgg33 Tryd.sizeOf33 (by first | assumption | omega) | exact ld_rows (k := 1) cV_len rfl rfl rfl Tryd.isAgg33 Tryd.sizeOf33 (by first | assumption | omega) | exact ld_rows (k := 2) cV_len rfl rfl rfl Tryd.isAgg33 Tryd.sizeOf33 (by first | assumption | omega) | exact ld_rows (k := 3) cV_len rfl rfl rfl Tryd.isAgg33 Tryd.sizeOf33 (by first | assumption | omega) | exact ld_rows (k := 4) cV_len rfl rfl rfl Tryd.isAgg33 Tryd.sizeOf33 (by first | assumption | omega) | exact ld_rows (k := 5) cV_len rfl rfl rfl Tryd.isAgg33 Tryd.sizeOf33 (by first | assumption | omega) | exact ld_rows (k := 0) cI_len rfl rfl rfl Tryd.isAgg33 Tryd.sizeOf33 (by first | assumption | omega) | exact ld_rows (k := 1) cI_len rfl rfl rfl Tryd.isAgg33 Tryd.sizeOf33 (by first | assumption | omega) | exact ld_rows (k := 2) cI_len rfl rfl rfl Tryd.isAgg33 Tryd.sizeOf33 (by first | assumption | omega) | exact ld_rows (k := 3) cI_len rfl rfl rfl Tryd.isAgg33 Tryd.sizeOf33 (by first | assumption | omega) | exact ld_rows (k := 4) cI_len rfl rfl rfl Tryd.isAgg33 Tryd.sizeOf33 (by first | assumption | omega) | exact ld_rows (k := 5) cI_len rfl rfl rfl Tryd.isAgg33 Tryd.sizeOf33 (by first | assumption | omega) | exact ld_is (ds := [_, _, _]) Tryd.isAgg33 Tryd.sizeOf33 rfl rfl)) (by first | exact trivial | exact safe_blk (k0 := 0) rfl rfl | exact safe_blk (k0 := 1) rfl rfl | exact safe_blk (k0 := 2) rfl rfl | exact safe_blk (k0 := 3) rfl rfl | exact safe_blk (k0 := 4) rfl rfl | exact safe_blk (k0 := 5) rfl rfl) ?_
      refine AD0.take (i := 4) rfl (by kernel_rfl) (by kernel_rfl) (by kernel_rfl) (by repeat (first | exact NP.body | apply NP.then | apply NP.cut | apply NP.inBlock | apply NP.round)) (wants_T rfl rfl rfl lk (by first | rfl | assumption)) rfl (still_mv rfl ot) (by exact trivial) ?_
      refine AD0.take (i := 5) rfl (by kernel_rfl) (by kernel_rfl) (by kernel_rfl) (by repeat (first | exact NP.body | apply NP.then | apply NP.cut | apply NP.inBlock | apply NP.round)) (wants_T rfl rfl rfl lk (by first | rfl | assumption)) rfl (still_r2 (mk := Op.indexAddr 36) rfl ot opd_const (by first | exact ix_list Tryd.runUnderlying36 Tryd.sizeOf33 (j := 1) rfl (by rw [rowL_len]; decide) | exact ix_row Tryd.runUnderlying36 Tryd.sizeOf33 (j := 1) rfl (by rw [rowL_len]; decide))) (by exact trivial) ?_
      refine AD0.take (i := 6) rfl (by kernel_rfl) (by kernel_rfl) (by kernel_rfl) (by repeat (first | exact NP.body | apply NP.then | apply NP.cut | apply NP.inBlock | apply NP.round)) (wants_T rfl rfl rfl lk (by first | rfl | assumption)) rfl (still_r1 (mk := Op.load 33) rfl ot (by first | exact ld_blks (k := 0) (ds := [_, _, _]) rfl rfl Tryd.isAgg33 Tryd.sizeOf33 rfl rfl | exact ld_blks (k := 1) (ds := [_, _, _]) rfl rfl Tryd.isAgg33 Tryd.sizeOf33 rfl rfl | exact ld_blks (k := 2) (ds := [_, _, _]) rfl rfl Tryd.isAgg33 Tryd.sizeOf33 rfl rfl | exact ld_blks (k := 3) (ds := [_, _, _]) rfl rfl Tryd.isAgg33 Tryd.sizeOf33 rfl rfl | exact ld_fms cO_len Tryd.isAgg33 Tryd.sizeOf33 (by first | assumption | omega) | exact ld_fms cV_len Tryd.isAgg33 Tryd.sizeOf33 (by first | assumption | omega) | exact ld_fms cI_len Tryd.isAgg33 Tryd.sizeOf33 (by first | assumption | omega) | exact ld_rows (k := 0) cO_len rfl rfl rfl Tryd.isAgg33 Tryd.sizeOf33 (by first | assumption | omega) | exact ld_rows (k := 1) cO_len rfl rfl rfl Tryd.isAgg33 Tryd.sizeOf33 (by first | assumption | omega) | exact ld_rows (k := 2) cO_len rfl rfl rfl Tryd.isAgg33 Tryd.sizeOf33 (by first | assumption | omega) | exact ld_rows (k := 3) cO_len rfl rfl rfl Tryd.isAgg33 Tryd.sizeOf33 (by first | assumption | omega) | exact ld_rows (k := 4) cO_len rfl rfl rfl Tryd.isAgg33 Tryd.sizeOf33 (by first | assumption | omega) | exact ld_rows (k := 5) cO_len rfl rfl rfl Tryd.isAgg33 Tryd.sizeOf33 (by first | assumption | omega) | exact ld_rows (k := 0) cV_len rfl rfl rfl Tryd.isAgg33 Tryd.sizeOf33 (by first | assumption | omega) | exact ld_rows (k := 1) cV_len rfl rfl rfl Tryd.isAgg33 Tryd.sizeOf33 (by first | assumption | omega) | exact ld_rows (k := 2) cV_len rfl rfl rfl Tryd.isAgg33 Tryd.sizeOf33 (by first | assumption | omega) | exact ld_rows (k := 3) cV_len rfl rfl rfl Tryd.isAgg33 Tryd.sizeOf33 (by first | assumption | omega) | exact ld_rows (k := 4) cV_len rfl rfl rfl Tryd.isAgg33 Tryd.sizeOf33 (by first | assumption | omega) | exact ld_rows (k := 5) cV_len rfl rfl rfl Tryd.isAgg33 Tryd.sizeOf33 (by first | assumption | omega) | exact ld_rows (k := 0) cI_len rfl rfl rfl Tryd.isAgg33 Tryd.sizeOf33 (by first | assumption | omega) | exact ld_rows (k := 1) cI_len rfl rfl rfl Tryd.isAgg33 Tryd.sizeOf33 (by first | assumption | omega) | exact ld_rows (k := 2) cI_len rfl rfl rfl Tryd.isAgg33 Tryd.sizeOf33 (by first | assumption | omega) | exact ld_rows (k := 3) cI_len rfl rfl rfl Tryd.isAgg33 Tryd.sizeOf33 (by first | assumption | omega) | exact ld_rows (k := 4) cI_len rfl rfl rfl Tryd.isAgg33 Tryd.sizeOf33 (by first | assumption | omega) | exact ld_rows (k := 5) cI_len rfl rfl rfl Tryd.isAgg33 Tryd.sizeOf33 (by first | assumption | omega) | exact ld_is (ds := [_, _, _]) Tryd.isAgg33 Tryd.sizeOf33 rfl rfl)) (by first | exact trivial | exact safe_blk (k0 := 0) rfl rfl | exact safe_blk (k0 := 1) rfl rfl | exact safe_blk (k0 := 2) rfl rfl | exact safe_blk (k0 := 3) rfl rfl | exact safe_blk (k0 := 4) rfl rfl | exact safe_blk (k0 := 5) rfl rfl) ?_
      refine AD0.take (i := 7) rfl (by kernel_rfl) (by kernel_rfl) (by kernel_rfl) (by repeat (first | exact NP.body | apply NP.then | apply NP.cut | apply NP.inBlock | apply NP.round)) (wants_T rfl rfl rfl lk (by first | rfl | assumption)) rfl (still_eqS (us := [_, _, _]) (us' := [_, _, _]) rfl ot ot Tryd.eqGuardType33 (Vl.eqs33 (numV (pickedF b 9)) (numV (pickedF b 9)))) (by exact trivial) ?_
      refine AD0.take (i := 8) rfl (by kernel_rfl) (by kernel_rfl) (by kernel_rfl) (by repeat (first | exact NP.body | apply NP.then | apply NP.cut | apply NP.inBlock | apply NP.round)) (wants_plain rfl) rfl (still_pickT rfl ot (by first | rfl | assumption) ot) (by exact trivial) ?_
      refine AD0.take (i := 9) rfl (by kernel_rfl) (by kernel_rfl) (by kernel_rfl) (by repeat (first | exact NP.body | apply NP.then | apply NP.cut | apply NP.inBlock | apply NP.round)) (wants_plain rfl) rfl (still_as rfl ot) (by exact trivial) ?_
      refine AD0.later rfl ?_
      refine AD.wk (y := ⟨175, [(12, _)], [⟨b22, 33, 3, [_, _, _]⟩, ⟨b20, 33, 3, [_, _, _]⟩, ⟨b18, 33, 3, [_, _, _]⟩, ⟨b14, 33, 3, [_, _, _]⟩, ⟨b7, 24, 4, [_, _, _, _]⟩, ⟨b6, 24, 4, [_, _, _, _]⟩]⟩) (Wk.as_ rfl rfl ⟨lk, trivial⟩) rfl ?_
      refine AD.done (by kernel_rfl) ?_
      refine CD.ret ?_
      refine ⟨.inr rfl, _, [], List.nil_sublist _, ret_one Tryd.results4 (res_tmp (Nat.le_of_ble_eq_true rfl) lk), ?_⟩
      first | exact ⟨rfl, rfl⟩ | (refine ⟨vb ?_, rfl⟩; simp; done) | (rcases hE1v with h | h <;> first | (exfalso; omega) | (injection h with h1 h2; subst h1 h2; first | exact ⟨rfl, rfl⟩ | (refine ⟨vb ?_, rfl⟩; simp; done) | (exfalso; omega) | (exfalso; simp at *)))
     ·exact absurd hg100 (by decide)
    ·have hg80' := hg80; (try simp only [V.cnd, ne_eq] at hg80')
     refine OD.still (wants_T rfl rfl rfl lk (by first | rfl | assumption)) rfl (still_r1 (mk := fun y => Op.fieldAddr 33 y 0) rfl ot (by first | exact fa_ptr (off := 0) Tryd.runUnderlying33 rfl Tryd.sizeOf3 rfl | exact fa_iptr (off := 0) Tryd.runUnderlying33 rfl Tryd.sizeOf3 rfl)) ?_
     refine OD.still (wants_T rfl rfl rfl lk (by first | rfl | assumption)) rfl (still_r1 (mk := Op.load 3) rfl ot (by first | exact ld_blk (k := 1) rfl rfl Tryd.isAgg3 rfl | exact ld_fm cO_len Tryd.isAgg3 (by first | assumption | omega) rfl | exact ld_fm0 cO_len Tryd.isAgg3 (by first | assumption | omega) rfl | exact ld_fm cV_len Tryd.isAgg3 (by first | assumption | omega) rfl | exact ld_fm0 cV_len Tryd.isAgg3 (by first | assumption | omega) rfl | exact ld_fm cI_len Tryd.isAgg3 (by first | assumption | omega) rfl | exact ld_fm0 cI_len Tryd.isAgg3 (by first | assumption | omega) rfl | exact ld_row (k := 0) cO_len rfl rfl rfl Tryd.isAgg3 (by first | assumption | omega) rfl | exact ld_row0 (k := 0) cO_len rfl rfl rfl Tryd.isAgg3 (by first | assumption | omega) rfl | exact ld_row (k := 1) cO_len rfl rfl rfl Tryd.isAgg3 (by first | assumption | omega) rfl | exact ld_row0 (k := 1) cO_len rfl rfl rfl Tryd.isAgg3 (by first | assumption | omega) rfl | exact ld_row (k := 2) cO_len rfl rfl rfl Tryd.isAgg3 (by first | assumption | omega) rfl | exact ld_row0 (k := 2) cO_len rfl rfl rfl Tryd.isAgg3 (by first | assumption | omega) rfl | exact ld_row (k := 3) cO_len rfl rfl rfl Tryd.isAgg3 (by first | assumption | omega) rfl | exact ld_row0 (k := 3) cO_len rfl rfl rfl Tryd.isAgg3 (by first | assumption | omega) rfl | exact ld_row (k := 4) cO_len rfl rfl rfl Tryd.isAgg3 (by first | assumption | omega) rfl | exact ld_row0 (k := 4) cO_len rfl rfl rfl Tryd.isAgg3 (by first | assumption | omega) rfl | exact ld_row (k := 0) cV_len rfl rfl rfl Tryd.isAgg3 (by first | assumption | omega) rfl | exact ld_row0 (k := 0) cV_len rfl rfl rfl Tryd.isAgg3 (by first | assumption | omega) rfl | exact ld_row (k := 1) cV_len rfl rfl rfl Tryd.isAgg3 (by first | assumption | omega) rfl | exact ld_row0 (k := 1) cV_len rfl rfl rfl Tryd.isAgg3 (by first | assumption | omega) rfl | exact ld_row (k := 2) cV_len rfl rfl rfl Tryd.isAgg3 (by first | assumption | omega) rfl | exact ld_row0 (k := 2) cV_len rfl rfl rfl Tryd.isAgg3 (by first | assumption | omega) rfl | exact ld_row (k := 3) cV_len rfl rfl rfl Tryd.isAgg3 (by first | assumption | omega) rfl | exact ld_row0 (k := 3) cV_len rfl rfl rfl Tryd.isAgg3 (by first | assumption | omega) rfl | exact ld_row (k := 4) cV_len rfl rfl rfl Tryd.isAgg3 (by first | assumption | omega) rfl | exact ld_row0 (k := 4) cV_len rfl rfl rfl Tryd.isAgg3 (by first | assumption | omega) rfl | exact ld_row (k := 0) cI_len rfl rfl rfl Tryd.isAgg3 (by first | assumption | omega) rfl | exact ld_row0 (k := 0) cI_len rfl rfl rfl Tryd.isAgg3 (by first | assumption | omega) rfl | exact ld_row (k := 1) cI_len rfl rfl rfl Tryd.isAgg3 (by first | assumption | omega) rfl | exact ld_row0 (k := 1) cI_len rfl rfl rfl Tryd.isAgg3 (by first | assumption | omega) rfl | exact ld_row (k := 2) cI_len rfl rfl rfl Tryd.isAgg3 (by first | assumption | omega) rfl | exact ld_row0 (k := 2) cI_len rfl rfl rfl Tryd.isAgg3 (by first | assumption | omega) rfl | exact ld_row (k := 3) cI_len rfl rfl rfl Tryd.isAgg3 (by first | assumption | omega) rfl | exact ld_row0 (k := 3) cI_len rfl rfl rfl Tryd.isAgg3 (by first | assumption | omega) rfl | exact ld_row (k := 4) cI_len rfl rfl rfl Tryd.isAgg3 (by first | assumption | omega) rfl | exact ld_row0 (k := 4) cI_len rfl rfl rfl Tryd.isAgg3 (by first | assumption | omega) rfl | exact ld_i Tryd.isAgg3 rfl)) ?_
     refine OD.still (wants_T rfl rfl rfl lk (by first | rfl | assumption)) rfl (still_bin rfl ot opd_const bin_gtr) ?_
     refine OD.still (wants_plain rfl) rfl (still_pickF rfl ot (by first | rfl | assumption) ot) ?_
     refine OD.still (wants_plain rfl) rfl (still_mv rfl ot) ?_
     refine OD.split (t := 85) lk (fun hg85 => ?_) (fun hg85 => ?_)
     ·have hg85' := hg85; (try simp only [V.cnd, ne_eq] at hg85')
      refine OD.skip (wants_F rfl rfl rfl lk (by first | rfl | assumption)) rfl ?_
      refine OD.skip (wants_F rfl rfl rfl lk (by first | rfl | assumption)) rfl ?_
      refine OD.skip (wants_F rfl rfl rfl lk (by first | rfl | assumption)) rfl ?_
      refine OD.still (wants_plain rfl) rfl (still_pickT rfl ot (by first | rfl | assumption) opd_const) ?_
      refine OD.wk (Wk.as_ (n := 175) (l' := [(13, _), (16, _), (17, _), (18, _), (20, _), (89, _)]) (S' := [⟨b20, 33, 3, [_, _, _]⟩, ⟨b18, 33, 3, [_, _, _]⟩, ⟨b14, 33, 3, [_, _, _]⟩, ⟨b7, 24, 4, [_, _, _, _]⟩, ⟨b6, 24, 4, [_, _, _, _]⟩]) rfl rfl ⟨lk, lk, lk, lk, lk, lk, trivial⟩) ?_
      refine OD.nil ?_
      refine CD.condT ot (by first | rfl | assumption) ?_
      refine CD.seq ?_
      refine CD.region ?_
      refine OD.callP (wants_plain rfl) rfl rfl rfl Tryd.call10 (colsOf_vp) trivial ?_
      refine OD.still (wants_plain rfl) rfl (still_mv rfl ot) ?_
      refine OD.still (wants_plain rfl) rfl (still_bld (pl := [(0, _), (2, _)]) (ds := [_, _, _, _, _]) rfl Tryd.zeroValue40 Tryd.runUnderlying40 places40_Ex7 ⟨rfl, opd_const, rfl, opd_const, trivial⟩ rfl rfl) ?_
      refine OD.bldS (pl := numD 0 [_]) (zvs := [.int .i64 0, .int .i64 0, .int .i64 0, .string ⟨#[]⟩, .string ⟨#[]⟩]) (ds := [_, _, _, _, _]) (wants_plain rfl) rfl rfl Tryd.zeroValue40 Tryd.runUnderlying25 Tryd.sizeOf40 rfl rfl (by kernel_rfl) ⟨rfl, ot, trivial⟩ (by exact rfl) (fill_full (by exact rfl) (by exact rfl) (by exact rfl)) (fun b94 => ?_)
      refine OD.perm (perm_q11 (S1 := [⟨b94, 40, 1 * 5, List.flatMap cO ([colN])⟩]) (A := [_, _, _, _, _])) ?_
      refine OD.giveL (t := 94) (Sq := [⟨b94, 40, 1 * 5, List.flatMap cO ([colN])⟩]) lk (ownL_row (g := cO) (sz := 5) (e := 40) (ls := [colN]) (Nat.le_refl _) (show 1 ≤ maxLen by decide)) (fm_len cO_len _) (perm_r11 (A := [_, _, _, _, _])) ?_
      refine OD.callP (wants_plain rfl) rfl rfl rfl Tryd.call11 (hcev) ⟨ot, ot, ot, trivial⟩ ?_
      refine OD.still (wants_plain rfl) rfl (still_mv rfl ot) ?_
      refine OD.still (wants_plain rfl) rfl (still_extract rfl ot rfl) ?_
      refine OD.still (wants_plain rfl) rfl (still_extract rfl ot rfl) ?_
      refine OD.alloc (ds := [_, _, _]) (wants_plain rfl) rfl rfl Tryd.zeroValue33 rfl (fun b22 => ?_)
      refine OD.store (k := 0) (cs' := [_, _, _]) (wants_plain rfl) rfl rfl ot rfl rfl ot rfl rfl Tryd.sizeOf33 rfl rfl rfl ?_
      refine OD.still (wants_plain rfl) rfl (still_as rfl ot) ?_
      refine OD.wk (Wk.as_ (n := 175) (l' := [(13, _), (22, _), (23, _)]) (S' := [⟨b22, 33, 3, [_, _, _]⟩, ⟨b20, 33, 3, [_, _, _]⟩, ⟨b18, 33, 3, [_, _, _]⟩, ⟨b14, 33, 3, [_, _, _]⟩, ⟨b7, 24, 4, [_, _, _, _]⟩, ⟨b6, 24, 4, [_, _, _, _]⟩]) rfl rfl ⟨lk, lk, lk, trivial⟩) ?_
      refine OD.nil ?_
      refine CD.seq ?_
      refine CD.draw (bks _) (by kernel_rfl) (fun _ h => h) ?_
      refine AD0.take (i := 0) rfl (by kernel_rfl) (by kernel_rfl) (by kernel_rfl) (by repeat (first | exact NP.body | apply NP.then | apply NP.cut | apply NP.inBlock | apply NP.round)) (wants_plain rfl) rfl (still_mv rfl ot) (by exact trivial) ?_
      refine AD0.take (i := 1) rfl (by kernel_rfl) (by kernel_rfl) (by kernel_rfl) (by repeat (first | exact NP.body | apply NP.then | apply NP.cut | apply NP.inBlock | apply NP.round)) (wants_plain rfl) rfl (still_bin rfl ot opd_const bin_eql) (by exact trivial) ?_
      refine AD0.take (i := 2) rfl (by kernel_rfl) (by kernel_rfl) (by kernel_rfl) (by repeat (first | exact NP.body | apply NP.then | apply NP.cut | apply NP.inBlock | apply NP.round)) (wants_plain rfl) rfl (still_mv rfl ot) (by exact trivial) ?_
      refine AD0.split (t := 100) lk (fun hg100 => ?_) (fun hg100 => ?_)
      ·have hg100' := hg100; (try simp only [V.cnd, ne_eq] at hg100')
       refine AD0.take (i := 3) rfl (by kernel_rfl) (by kernel_rfl) (by kernel_rfl) (by repeat (first | exact NP.body | apply NP.then | apply NP.cut | apply NP.inBlock | apply NP.round)) (wants_T rfl rfl rfl lk (by first | rfl | assumption)) rfl (still_r1 (mk := Op.load 33) rfl ot (by first | exact ld_blks (k := 0) (ds := [_, _, _]) rfl rfl Tryd.isAgg33 Tryd.sizeOf33 rfl rfl | exact ld_fms cO_len Tryd.isAgg33 Tryd.sizeOf33 (by first | assumption | omega) | exact ld_fms cV_len Tryd.isAgg33 Tryd.sizeOf33 (by first | assumption | omega) | exact ld_fms cI_len Tryd.isAgg33 Tryd.sizeOf33 (by first | assumption | omega) | exact ld_rows (k := 0) cO_len rfl rfl rfl Tryd.isAgg33 Tryd.sizeOf33 (by first | assumption | omega) | exact ld_rows (k := 1) cO_len rfl rfl rfl Tryd.isAgg33 Tryd.sizeOf33 (by first | assumption | omega) | exact ld_rows (k := 2) cO_len rfl rfl rfl Tryd.isAgg33 Tryd.sizeOf33 (by first | assumption | omega) | exact ld_rows (k := 3) cO_len rfl rfl rfl Tryd.isAgg33 Tryd.sizeOf33 (by first | assumption | omega) | exact ld_rows (k := 4) cO_len rfl rfl rfl Tryd.isAgg33 Tryd.sizeOf33 (by first | assumption | omega) | exact ld_rows (k := 5) cO_len rfl rfl rfl Tryd.isAgg33 Tryd.sizeOf33 (by first | assumption | omega) | exact ld_rows (k := 0) cV_len rfl rfl rfl Tryd.isAgg33 Tryd.sizeOf33 (by first | assumption | omega) | exact ld_rows (k := 1) cV_len rfl rfl rfl Tryd.isAgg33 Tryd.sizeOf33 (by first | assumption | omega) | exact ld_rows (k := 2) cV_len rfl rfl rfl Tryd.isAgg33 Tryd.sizeOf33 (by first | assumption | omega) | exact ld_rows (k := 3) cV_len rfl rfl rfl Tryd.isAgg33 Tryd.sizeOf33 (by first | assumption | omega) | exact ld_rows (k := 4) cV_len rfl rfl rfl Tryd.isAgg33 Tryd.sizeOf33 (by first | assumption | omega) | exact ld_rows (k := 5) cV_len rfl rfl rfl Tryd.isAgg33 Tryd.sizeOf33 (by first | assumption | omega) | exact ld_rows (k := 0) cI_len rfl rfl rfl Tryd.isAgg33 Tryd.sizeOf33 (by first | assumption | omega) | exact ld_rows (k := 1) cI_len rfl rfl rfl Tryd.isAgg33 Tryd.sizeOf33 (by first | assumption | omega) | exact ld_rows (k := 2) cI_len rfl rfl rfl Tryd.isAgg33 Tryd.sizeOf33 (by first | assumption | omega) | exact ld_rows (k := 3) cI_len rfl rfl rfl Tryd.isAgg33 Tryd.sizeOf33 (by first | assumption | omega) | exact ld_rows (k := 4) cI_len rfl rfl rfl Tryd.isAgg33 Tryd.sizeOf33 (by first | assumption | omega) | exact ld_rows (k := 5) cI_len rfl rfl rfl Tryd.isAgg33 Tryd.sizeOf33 (by first | assumption | omega) | exact ld_is (ds := [_, _, _]) Tryd.isAgg33 Tryd.sizeOf33 rfl rfl)) (by first | exact trivial | exact safe_blk (k0 := 0) rfl rfl | exact safe_blk (k0 := 1) rfl rfl | exact safe_blk (k0 := 2) rfl rfl | exact safe_blk (k0 := 3) rfl rfl | exact safe_blk (k0 := 4) rfl rfl | exact safe_blk (k0 := 5) rfl rfl) ?_
       refine AD0.take (i := 4) rfl (by kernel_rfl) (by kernel_rfl) (by kernel_rfl) (by repeat (first | exact NP.body | apply NP.then | apply NP.cut | apply NP.inBlock | apply NP.round)) (wants_T rfl rfl rfl lk (by first | rfl | assumption)) rfl (still_mv rfl ot) (by exact trivial) ?_
       refine AD0.take (i := 5) rfl (by kernel_rfl) (by kernel_rfl) (by kernel_rfl) (by repeat (first | exact NP.body | apply NP.then | apply NP.cut | apply NP.inBlock | apply NP.round)) (wants_T rfl rfl rfl lk (by first | rfl | assumption)) rfl (still_r2 (mk := Op.indexAddr 36) rfl ot opd_const (by first | exact ix_list Tryd.runUnderlying36 Tryd.sizeOf33 (j := 1) rfl (by rw [rowL_len]; decide) | exact ix_row Tryd.runUnderlying36 Tryd.sizeOf33 (j := 1) rfl (by rw [rowL_len]; decide))) (by exact trivial) ?_
       refine AD0.take (i := 6) rfl (by kernel_rfl) (by kernel_rfl) (by kernel_rfl) (by repeat (first | exact NP.body | apply NP.then | apply NP.cut | apply NP.inBlock | apply NP.round)) (wants_T rfl rfl rfl lk (by first | rfl | assumption)) rfl (still_r1 (mk := Op.load 33) rfl ot (by first | exact ld_blks (k := 0) (ds := [_, _, _]) rfl rfl Tryd.isAgg33 Tryd.sizeOf33 rfl rfl | exact ld_blks (k := 1) (ds := [_, _, _]) rfl rfl Tryd.isAgg33 Tryd.sizeOf33 rfl rfl | exact ld_blks (k := 2) (ds := [_, _, _]) rfl rfl Tryd.isAgg33 Tryd.sizeOf33 rfl rfl | exact ld_blks (k := 3) (ds := [_, _, _]) rfl rfl Tryd.isAgg33 Tryd.sizeOf33 rfl rfl | exact ld_fms cO_len Tryd.isAgg33 Tryd.sizeOf33 (by first | assumption | omega) | exact ld_fms cV_len Tryd.isAgg33 Tryd.sizeOf33 (by first | assumption | omega) | exact ld_fms cI_len Tryd.isAgg33 Tryd.sizeOf33 (by first | assumption | omega) | exact ld_rows (k := 0) cO_len rfl rfl rfl Tryd.isAgg33 Tryd.sizeOf33 (by first | assumption | omega) | exact ld_rows (k := 1) cO_len rfl rfl rfl Tryd.isAgg33 Tryd.sizeOf33 (by first | assumption | omega) | exact ld_rows (k := 2) cO_len rfl rfl rfl Tryd.isAgg33 Tryd.sizeOf33 (by first | assumption | omega) | exact ld_rows (k := 3) cO_len rfl rfl rfl Tryd.isAgg33 Tryd.sizeOf33 (by first | assumption | omega) | exact ld_rows (k := 4) cO_len rfl rfl rfl Tryd.isAgg33 Tryd.sizeOf33 (by first | assumption | omega) | exact ld_rows (k := 5) cO_len rfl rfl rfl Tryd.isAgg33 Tryd.sizeOf33 (by first | assumption | omega) | exact ld_rows (k := 0) cV_len rfl rfl rfl Tryd.isAgg33 Tryd.sizeOf33 (by first | assumption | omega) | exact ld_rows (k := 1) cV_len rfl rfl rfl Tryd.isAgg33 Tryd.sizeOf33 (by first | assumption | omega) | exact ld_rows (k := 2) cV_len rfl rfl rfl Tryd.isAgg33 Tryd.sizeOf33 (by first | assumption | omega) | exact ld_rows (k := 3) cV_len rfl rfl rfl Tryd.isAgg33 Tryd.sizeOf33 (by first | assumption | omega) | exact ld_rows (k := 4) cV_len rfl rfl rfl Tryd.isAgg33 Tryd.sizeOf33 (by first | assumption | omega) | exact ld_rows (k := 5) cV_len rfl rfl rfl Tryd.isAgg33 Tryd.sizeOf33 (by first | assumption | omega) | exact ld_rows (k := 0) cI_len rfl rfl rfl Tryd.isAgg33 Tryd.sizeOf33 (by first | assumption | omega) | exact ld_rows (k := 1) cI_len rfl rfl rfl Tryd.isAgg33 Tryd.sizeOf33 (by first | assumption | omega) | exact ld_rows (k := 2) cI_len rfl rfl rfl Tryd.isAgg33 Tryd.sizeOf33 (by first | assumption | omega) | exact ld_rows (k := 3) cI_len rfl rfl rfl Tryd.isAgg33 Tryd.sizeOf33 (by first | assumption | omega) | exact ld_rows (k := 4) cI_len rfl rfl rfl Tryd.isAgg33 Tryd.sizeOf33 (by first | assumption | omega) | exact ld_rows (k := 5) cI_len rfl rfl rfl Tryd.isAgg33 Tryd.sizeOf33 (by first | assumption | omega) | exact ld_is (ds := [_, _, _]) Tryd.isAgg33 Tryd.sizeOf33 rfl rfl)) (by first | exact trivial | exact safe_blk (k0 := 0) rfl rfl | exact safe_blk (k0 := 1) rfl rfl | exact safe_blk (k0 := 2) rfl rfl | exact safe_blk (k0 := 3) rfl rfl | exact safe_blk (k0 := 4) rfl rfl | exact safe_blk (k0 := 5) rfl rfl) ?_
       refine AD0.take (i := 7) rfl (by kernel_rfl) (by kernel_rfl) (by kernel_rfl) (by repeat (first | exact NP.body | apply NP.then | apply NP.cut | apply NP.inBlock | apply NP.round)) (wants_T rfl rfl rfl lk (by first | rfl | assumption)) rfl (still_eqS (us := [_, _, _]) (us' := [_, _, _]) rfl ot ot Tryd.eqGuardType33 (Vl.eqs33 (numV (pickedF b 9)) (numV (pickedF b 9)))) (by exact trivial) ?_
       refine AD0.take (i := 8) rfl (by kernel_rfl) (by kernel_rfl) (by kernel_rfl) (by repeat (first | exact NP.body | apply NP.then | apply NP.cut | apply NP.inBlock | apply NP.round)) (wants_plain rfl) rfl (still_pickT rfl ot (by first | rfl | assumption) ot) (by exact trivial) ?_
       refine AD0.take (i := 9) rfl (by kernel_rfl) (by kernel_rfl) (by kernel_rfl) (by repeat (first | exact NP.body | apply NP.then | apply NP.cut | apply NP.inBlock | apply NP.round)) (wants_plain rfl) rfl (still_as rfl ot) (by exact trivial) ?_
       refine AD0.later rfl ?_
       refine AD.wk (y := ⟨175, [(12, _)], [⟨b22, 33, 3, [_, _, _]⟩, ⟨b20, 33, 3, [_, _, _]⟩, ⟨b18, 33, 3, [_, _, _]⟩, ⟨b14, 33, 3, [_, _, _]⟩, ⟨b7, 24, 4, [_, _, _, _]⟩, ⟨b6, 24, 4, [_, _, _, _]⟩]⟩) (Wk.as_ rfl rfl ⟨lk, trivial⟩) rfl ?_
       refine AD.done (by kernel_rfl) ?_
       refine CD.ret ?_
       refine ⟨.inr rfl, _, [], List.nil_sublist _, ret_one Tryd.results4 (res_tmp (Nat.le_of_ble_eq_true rfl) lk), ?_⟩
       first | exact ⟨rfl, rfl⟩ | (refine ⟨vb ?_, rfl⟩; simp; done) | (rcases hE1v with h | h <;> first | (exfalso; omega) | (injection h with h1 h2; subst h1 h2; first | exact ⟨rfl, rfl⟩ | (refine ⟨vb ?_, rfl⟩; simp; done) | (exfalso; omega) | (exfalso; simp at *)))
      ·exact absurd hg100 (by decide)
     ·have hg85' := hg85; (try simp only [V.cnd, ne_eq] at hg85')
      refine OD.still (wants_T rfl rfl rfl lk (by first | rfl | assumption)) rfl (still_r1 (mk := fun y => Op.fieldAddr 33 y 0) rfl ot (by first | exact fa_ptr (off := 0) Tryd.runUnderlying33 rfl Tryd.sizeOf3 rfl | exact fa_iptr (off := 0) Tryd.runUnderlying33 rfl Tryd.sizeOf3 rfl)) ?_
      refine OD.still (wants_T rfl rfl rfl lk (by first | rfl | assumption)) rfl (still_r1 (mk := Op.load 3) rfl ot (by first | exact ld_blk (k := 0) rfl rfl Tryd.isAgg3 rfl | exact ld_fm cO_len Tryd.isAgg3 (by first | assumption | omega) rfl | exact ld_fm0 cO_len Tryd.isAgg3 (by first | assumption | omega) rfl | exact ld_fm cV_len Tryd.isAgg3 (by first | assumption | omega) rfl | exact ld_fm0 cV_len Tryd.isAgg3 (by first | assumption | omega) rfl | exact ld_fm cI_len Tryd.isAgg3 (by first | assumption | omega) rfl | exact ld_fm0 cI_len Tryd.isAgg3 (by first | assumption | omega) rfl | exact ld_row (k := 0) cO_len rfl rfl rfl Tryd.isAgg3 (by first | assumption | omega) rfl | exact ld_row0 (k := 0) cO_len rfl rfl rfl Tryd.isAgg3 (by first | assumption | omega) rfl | exact ld_row (k := 1) cO_len rfl rfl rfl Tryd.isAgg3 (by first | assumption | omega) rfl | exact ld_row0 (k := 1) cO_len rfl rfl rfl Tryd.isAgg3 (by first | assumption | omega) rfl | exact ld_row (k := 2) cO_len rfl rfl rfl Tryd.isAgg3 (by first | assumption | omega) rfl | exact ld_row0 (k := 2) cO_len rfl rfl rfl Tryd.isAgg3 (by first | assumption | omega) rfl | exact ld_row (k := 3) cO_len rfl rfl rfl Tryd.isAgg3 (by first | assumption | omega) rfl | exact ld_row0 (k := 3) cO_len rfl rfl rfl Tryd.isAgg3 (by first | assumption | omega) rfl | exact ld_row (k := 4) cO_len rfl rfl rfl Tryd.isAgg3 (by first | assumption | omega) rfl | exact ld_row0 (k := 4) cO_len rfl rfl rfl Tryd.isAgg3 (by first | assumption | omega) rfl | exact ld_row (k := 0) cV_len rfl rfl rfl Tryd.isAgg3 (by first | assumption | omega) rfl | exact ld_row0 (k := 0) cV_len rfl rfl rfl Tryd.isAgg3 (by first | assumption | omega) rfl | exact ld_row (k := 1) cV_len rfl rfl rfl Tryd.isAgg3 (by first | assumption | omega) rfl | exact ld_row0 (k := 1) cV_len rfl rfl rfl Tryd.isAgg3 (by first | assumption | omega) rfl | exact ld_row (k := 2) cV_len rfl rfl rfl Tryd.isAgg3 (by first | assumption | omega) rfl | exact ld_row0 (k := 2) cV_len rfl rfl rfl Tryd.isAgg3 (by first | assumption | omega) rfl | exact ld_row (k := 3) cV_len rfl rfl rfl Tryd.isAgg3 (by first | assumption | omega) rfl | exact ld_row0 (k := 3) cV_len rfl rfl rfl Tryd.isAgg3 (by first | assumption | omega) rfl | exact ld_row (k := 4) cV_len rfl rfl rfl Tryd.isAgg3 (by first | assumption | omega) rfl | exact ld_row0 (k := 4) cV_len rfl rfl rfl Tryd.isAgg3 (by first | assumption | omega) rfl | exact ld_row (k := 0) cI_len rfl rfl rfl Tryd.isAgg3 (by first | assumption | omega) rfl | exact ld_row0 (k := 0) cI_len rfl rfl rfl Tryd.isAgg3 (by first | assumption | omega) rfl | exact ld_row (k := 1) cI_len rfl rfl rfl Tryd.isAgg3 (by first | assumption | omega) rfl | exact ld_row0 (k := 1) cI_len rfl rfl rfl Tryd.isAgg3 (by first | assumption | omega) rfl | exact ld_row (k := 2) cI_len rfl rfl rfl Tryd.isAgg3 (by first | assumption | omega) rfl | exact ld_row0 (k := 2) cI_len rfl rfl rfl Tryd.isAgg3 (by first | assumption | omega) rfl | exact ld_row (k := 3) cI_len rfl rfl rfl Tryd.isAgg3 (by first | assumption | omega) rfl | exact ld_row0 (k := 3) cI_len rfl rfl rfl Tryd.isAgg3 (by first | assumption | omega) rfl | exact ld_row (k := 4) cI_len rfl rfl rfl Tryd.isAgg3 (by first | assumption | omega) rfl | exact ld_row0 (k := 4) cI_len rfl rfl rfl Tryd.isAgg3 (by first | assumption | omega) rfl | exact ld_i Tryd.isAgg3 rfl)) ?_
      refine OD.still (wants_T rfl rfl rfl lk (by first | rfl | assumption)) rfl (still_bin rfl ot opd_const bin_gtr) ?_
      refine OD.still (wants_plain rfl) rfl (still_pickF rfl ot (by first | rfl | assumption) ot) ?_
      refine OD.wk (Wk.as_ (n := 175) (l' := [(13, _), (16, _), (17, _), (18, _), (20, _), (89, _)]) (S' := [⟨b20, 33, 3, [_, _, _]⟩, ⟨b18, 33, 3, [_, _, _]⟩, ⟨b14, 33, 3, [_, _, _]⟩, ⟨b7, 24, 4, [_, _, _, _]⟩, ⟨b6, 24, 4, [_, _, _, _]⟩]) rfl rfl ⟨lk, lk, lk, lk, lk, lk, trivial⟩) ?_
      refine OD.nil ?_
      refine CD.cond ot (fun hc1 => ?_) (fun hc1 => ?_)
      ·have hc1' := hc1
       (try simp only [V.cnd, ne_eq] at hc1')
       refine CD.seq ?_
       refine CD.region ?_
       refine OD.callP (wants_plain rfl) rfl rfl rfl Tryd.call10 (colsOf_vp) trivial ?_
       refine OD.still (wants_plain rfl) rfl (still_mv rfl ot) ?_
       refine OD.still (wants_plain rfl) rfl (still_bld (pl := [(0, _), (2, _)]) (ds := [_, _, _, _, _]) rfl Tryd.zeroValue40 Tryd.runUnderlying40 places40_Ex7 ⟨rfl, opd_const, rfl, opd_const, trivial⟩ rfl rfl) ?_
       refine OD.bldS (pl := numD 0 [_]) (zvs := [.int .i64 0, .int .i64 0, .int .i64 0, .string ⟨#[]⟩, .string ⟨#[]⟩]) (ds := [_, _, _, _, _]) (wants_plain rfl) rfl rfl Tryd.zeroValue40 Tryd.runUnderlying25 Tryd.sizeOf40 rfl rfl (by kernel_rfl) ⟨rfl, ot, trivial⟩ (by exact rfl) (fill_full (by exact rfl) (by exact rfl) (by exact rfl)) (fun b94 => ?_)
       refine OD.perm (perm_q11 (S1 := [⟨b94, 40, 1 * 5, List.flatMap cO ([colN])⟩]) (A := [_, _, _, _, _])) ?_
       refine OD.giveL (t := 94) (Sq := [⟨b94, 40, 1 * 5, List.flatMap cO ([colN])⟩]) lk (ownL_row (g := cO) (sz := 5) (e := 40) (ls := [colN]) (Nat.le_refl _) (show 1 ≤ maxLen by decide)) (fm_len cO_len _) (perm_r11 (A := [_, _, _, _, _])) ?_
       refine OD.callP (wants_plain rfl) rfl rfl rfl Tryd.call11 (hcev) ⟨ot, ot, ot, trivial⟩ ?_
       refine OD.still (wants_plain rfl) rfl (still_mv rfl ot) ?_
       refine OD.still (wants_plain rfl) rfl (still_extract rfl ot rfl) ?_
       refine OD.still (wants_plain rfl) rfl (still_extract rfl ot rfl) ?_
       refine OD.alloc (ds := [_, _, _]) (wants_plain rfl) rfl rfl Tryd.zeroValue33 rfl (fun b22 => ?_)
       refine OD.store (k := 0) (cs' := [_, _, _]) (wants_plain rfl) rfl rfl ot rfl rfl ot rfl rfl Tryd.sizeOf33 rfl rfl rfl ?_
       refine OD.still (wants_plain rfl) rfl (still_as rfl ot) ?_
       refine OD.wk (Wk.as_ (n := 175) (l' := [(13, _), (22, _), (23, _)]) (S' := [⟨b22, 33, 3, [_, _, _]⟩, ⟨b20, 33, 3, [_, _, _]⟩, ⟨b18, 33, 3, [_, _, _]⟩, ⟨b14, 33, 3, [_, _, _]⟩, ⟨b7, 24, 4, [_, _, _, _]⟩, ⟨b6, 24, 4, [_, _, _, _]⟩]) rfl rfl ⟨lk, lk, lk, trivial⟩) ?_
       refine OD.nil ?_
       refine CD.seq ?_
       refine CD.draw (bks _) (by kernel_rfl) (fun _ h => h) ?_
       refine AD0.take (i := 0) rfl (by kernel_rfl) (by kernel_rfl) (by kernel_rfl) (by repeat (first | exact NP.body | apply NP.then | apply NP.cut | apply NP.inBlock | apply NP.round)) (wants_plain rfl) rfl (still_mv rfl ot) (by exact trivial) ?_
       refine AD0.take (i := 1) rfl (by kernel_rfl) (by kernel_rfl) (by kernel_rfl) (by repeat (first | exact NP.body | apply NP.then | apply NP.cut | apply NP.inBlock | apply NP.round)) (wants_plain rfl) rfl (still_bin rfl ot opd_const bin_eql) (by exact trivial) ?_
       refine AD0.take (i := 2) rfl (by kernel_rfl) (by kernel_rfl) (by kernel_rfl) (by repeat (first | exact NP.body | apply NP.then | apply NP.cut | apply NP.inBlock | apply NP.round)) (wants_plain rfl) rfl (still_mv rfl ot) (by exact trivial) ?_
       refine AD0.split (t := 100) lk (fun hg100 => ?_) (fun hg100 => ?_)
       ·have hg100' := hg100; (try simp only [V.cnd, ne_eq] at hg100')
        refine AD0.take (i := 3) rfl (by kernel_rfl) (by kernel_rfl) (by kernel_rfl) (by repeat (first | exact NP.body | apply NP.then | apply NP.cut | apply NP.inBlock | apply NP.round)) (wants_T rfl rfl rfl lk (by first | rfl | assumption)) rfl (still_r1 (mk := Op.load 33) rfl ot (by first | exact ld_blks (k := 0) (ds := [_, _, _]) rfl rfl Tryd.isAgg33 Tryd.sizeOf33 rfl rfl | exact ld_fms cO_len Tryd.isAgg33 Tryd.sizeOf33 (by first | assumption | omega) | exact ld_fms cV_len Tryd.isAgg33 Tryd.sizeOf33 (by first | assumption | omega) | exact ld_fms cI_len Tryd.isAgg33 Tryd.sizeOf33 (by first | assumption | omega) | exact ld_rows (k := 0) cO_len rfl rfl rfl Tryd.isAgg33 Tryd.sizeOf33 (by first | assumption | omega) | exact ld_rows (k := 1) cO_len rfl rfl rfl Tryd.isAgg33 Tryd.sizeOf33 (by first | assumption | omega) | exact ld_rows (k := 2) cO_len rfl rfl rfl Tryd.isAgg33 Tryd.sizeOf33 (by first | assumption | omega) | exact ld_rows (k := 3) cO_len rfl rfl rfl Tryd.isAgg33 Tryd.sizeOf33 (by first | assumption | omega) | exact ld_rows (k := 4) cO_len rfl rfl rfl Tryd.isAgg33 Tryd.sizeOf33 (by first | assumption | omega) | exact ld_rows (k := 5) cO_len rfl rfl rfl Tryd.isAgg33 Tryd.sizeOf33 (by first | assumption | omega) | exact ld_rows (k := 0) cV_len rfl rfl rfl Tryd.isAgg33 Tryd.sizeOf33 (by first | assumption | omega) | exact ld_rows (k := 1) cV_len rfl rfl rfl Tryd.isAgg33 Tryd.sizeOf33 (by first | assumption | omega) | exact ld_rows (k := 2) cV_len rfl rfl rfl Tryd.isAgg33 Tryd.sizeOf33 (by first | assumption | omega) | exact ld_rows (k := 3) cV_len rfl rfl rfl Tryd.isAgg33 Tryd.sizeOf33 (by first | assumption | omega) | exact ld_rows (k := 4) cV_len rfl rfl rfl Tryd.isAgg33 Tryd.sizeOf33 (by first | assumption | omega) | exact ld_rows (k := 5) cV_len rfl rfl rfl Tryd.isAgg33 Tryd.sizeOf33 (by first | assumption | omega) | exact ld_rows (k := 0) cI_len rfl rfl rfl Tryd.isAgg33 Tryd.sizeOf33 (by first | assumption | omega) | exact ld_rows (k := 1) cI_len rfl rfl rfl Tryd.isAgg33 Tryd.sizeOf33 (by first | assumption | omega) | exact ld_rows (k := 2) cI_len rfl rfl rfl Tryd.isAgg33 Tryd.sizeOf33 (by first | assumption | omega) | exact ld_rows (k := 3) cI_len rfl rfl rfl Tryd.isAgg33 Tryd.sizeOf33 (by first | assumption | omega) | exact ld_rows (k := 4) cI_len rfl rfl rfl Tryd.isAgg33 Tryd.sizeOf33 (by first | assumption | omega) | exact ld_rows (k := 5) cI_len rfl rfl rfl Tryd.isAgg33 Tryd.sizeOf33 (by first | assumption | omega) | exact ld_is (ds := [_, _, _]) Tryd.isAgg33 Tryd.sizeOf33 rfl rfl)) (by first | exact trivial | exact safe_blk (k0 := 0) rfl rfl | exact safe_blk (k0 := 1) rfl rfl | exact safe_blk (k0 := 2) rfl rfl | exact safe_blk (k0 := 3) rfl rfl | exact safe_blk (k0 := 4) rfl rfl | exact safe_blk (k0 := 5) rfl rfl) ?_
        refine AD0.take (i := 4) rfl (by kernel_rfl) (by kernel_rfl) (by kernel_rfl) (by repeat (first | exact NP.body | apply NP.then | apply NP.cut | apply NP.inBlock | apply NP.round)) (wants_T rfl rfl rfl lk (by first | rfl | assumption)) rfl (still_mv rfl ot) (by exact trivial) ?_
        refine AD0.take (i := 5) rfl (by kernel_rfl) (by kernel_rfl) (by kernel_rfl) (by repeat (first | exact NP.body | apply NP.then | apply NP.cut | apply NP.inBlock | apply NP.round)) (wants_T rfl rfl rfl lk (by first | rfl | assumption)) rfl (still_r2 (mk := Op.indexAddr 36) rfl ot opd_const (by first | exact ix_list Tryd.runUnderlying36 Tryd.sizeOf33 (j := 1) rfl (by rw [rowL_len]; decide) | exact ix_row Tryd.runUnderlying36 Tryd.sizeOf33 (j := 1) rfl (by rw [rowL_len]; decide))) (by exact trivial) ?_
        refine AD0.take (i := 6) rfl (by kernel_rfl) (by kernel_rfl) (by kernel_rfl) (by repeat (first | exact NP.body | apply NP.then | apply NP.cut | apply NP.inBlock | apply NP.round)) (wants_T rfl rfl rfl lk (by first | rfl | assumption)) rfl (still_r1 (mk := Op.load 33) rfl ot (by first | exact ld_blks (k := 0) (ds := [_, _, _]) rfl rfl Tryd.isAgg33 Tryd.sizeOf33 rfl rfl | exact ld_blks (k := 1) (ds := [_, _, _]) rfl rfl Tryd.isAgg33 Tryd.sizeOf33 rfl rfl | exact ld_blks (k := 2) (ds := [_, _, _]) rfl rfl Tryd.isAgg33 Tryd.sizeOf33 rfl rfl | exact ld_blks (k := 3) (ds := [_, _, _]) rfl rfl Tryd.isAgg33 Tryd.sizeOf33 rfl rfl | exact ld_fms cO_len Tryd.isAgg33 Tryd.sizeOf33 (by first | assumption | omega) | exact ld_fms cV_len Tryd.isAgg33 Tryd.sizeOf33 (by first | assumption | omega) | exact ld_fms cI_len Tryd.isAgg33 Tryd.sizeOf33 (by first | assumption | omega) | exact ld_rows (k := 0) cO_len rfl rfl rfl Tryd.isAgg33 Tryd.sizeOf33 (by first | assumption | omega) | exact ld_rows (k := 1) cO_len rfl rfl rfl Tryd.isAgg33 Tryd.sizeOf33 (by first | assumption | omega) | exact ld_rows (k := 2) cO_len rfl rfl rfl Tryd.isAgg33 Tryd.sizeOf33 (by first | assumption | omega) | exact ld_rows (k := 3) cO_len rfl rfl rfl Tryd.isAgg33 Tryd.sizeOf33 (by first | assumption | omega) | exact ld_rows (k := 4) cO_len rfl rfl rfl Tryd.isAgg33 Tryd.sizeOf33 (by first | assumption | omega) | exact ld_rows (k := 5) cO_len rfl rfl rfl Tryd.isAgg33 Tryd.sizeOf33 (by first | assumption | omega) | exact ld_rows (k := 0) cV_len rfl rfl rfl Tryd.isAgg33 Tryd.sizeOf33 (by first | assumption | omega) | exact ld_rows (k := 1) cV_len rfl rfl rfl Tryd.isAgg33 Tryd.sizeOf33 (by first | assumption | omega) | exact ld_rows (k := 2) cV_len rfl rfl rfl Tryd.isAgg33 Tryd.sizeOf33 (by first | assumption | omega) | exact ld_rows (k := 3) cV_len rfl rfl rfl Tryd.isAgg33 Tryd.sizeOf33 (by first | assumption | omega) | exact ld_rows (k := 4) cV_len rfl rfl rfl Tryd.isAgg33 Tryd.sizeOf33 (by first | assumption | omega) | exact ld_rows (k := 5) cV_len rfl rfl rfl Tryd.isAgg33 Tryd.sizeOf33 (by first | assumption | omega) | exact ld_rows (k := 0) cI_len rfl rfl rfl Tryd.isAgg33 Tryd.sizeOf33 (by first | assumption | omega) | exact ld_rows (k := 1) cI_len rfl rfl rfl Tryd.isAgg33 Tryd.sizeOf33 (by first | assumption | omega) | exact ld_rows (k := 2) cI_len rfl rfl rfl Tryd.isAgg33 Tryd.sizeOf33 (by first | assumption | omega) | exact ld_rows (k := 3) cI_len rfl rfl rfl Tryd.isAgg33 Tryd.sizeOf33 (by first | assumption | omega) | exact ld_rows (k := 4) cI_len rfl rfl rfl Tryd.isAgg33 Tryd.sizeOf33 (by first | assumption | omega) | exact ld_rows (k := 5) cI_len rfl rfl rfl Tryd.isAgg33 Tryd.sizeOf33 (by first | assumption | omega) | exact ld_is (ds := [_, _, _]) Tryd.isAgg33 Tryd.sizeOf33 rfl rfl)) (by first | exact trivial | exact safe_blk (k0 := 0) rfl rfl | exact safe_blk (k0 := 1) rfl rfl | exact safe_blk (k0 := 2) rfl rfl | exact safe_blk (k0 := 3) rfl rfl | exact safe_blk (k0 := 4) rfl rfl | exact safe_blk (k0 := 5) rfl rfl) ?_
        refine AD0.take (i := 7) rfl (by kernel_rfl) (by kernel_rfl) (by kernel_rfl) (by repeat (first | exact NP.body | apply NP.then | apply NP.cut | apply NP.inBlock | apply NP.round)) (wants_T rfl rfl rfl lk (by first | rfl | assumption)) rfl (still_eqS (us := [_, _, _]) (us' := [_, _, _]) rfl ot ot Tryd.eqGuardType33 (Vl.eqs33 (numV (pickedF b 9)) (numV (pickedF b 9)))) (by exact trivial) ?_
        refine AD0.take (i := 8) rfl (by kernel_rfl) (by kernel_rfl) (by kernel_rfl) (by repeat (first | exact NP.body | apply NP.then | apply NP.cut | apply NP.inBlock | apply NP.round)) (wants_plain rfl) rfl (still_pickT rfl ot (by first | rfl | assumption) ot) (by exact trivial) ?_
        refine AD0.take (i := 9) rfl (by kernel_rfl) (by kernel_rfl) (by kernel_rfl) (by repeat (first | exact NP.body | apply NP.then | apply NP.cut | apply NP.inBlock | apply NP.round)) (wants_plain rfl) rfl (still_as rfl ot) (by exact trivial) ?_
        refine AD0.later rfl ?_
        refine AD.wk (y := ⟨175, [(12, _)], [⟨b22, 33, 3, [_, _, _]⟩, ⟨b20, 33, 3, [_, _, _]⟩, ⟨b18, 33, 3, [_, _, _]⟩, ⟨b14, 33, 3, [_, _, _]⟩, ⟨b7, 24, 4, [_, _, _, _]⟩, ⟨b6, 24, 4, [_, _, _, _]⟩]⟩) (Wk.as_ rfl rfl ⟨lk, trivial⟩) rfl ?_
        refine AD.done (by kernel_rfl) ?_
        refine CD.ret ?_
        refine ⟨.inr rfl, _, [], List.nil_sublist _, ret_one Tryd.results4 (res_tmp (Nat.le_of_ble_eq_true rfl) lk), ?_⟩
        first | exact ⟨rfl, rfl⟩ | (refine ⟨vb ?_, rfl⟩; simp; done) | (rcases hE1v with h | h <;> first | (exfalso; omega) | (injection h with h1 h2; subst h1 h2; first | exact ⟨rfl, rfl⟩ | (refine ⟨vb ?_, rfl⟩; simp; done) | (exfalso; omega) | (exfalso; simp at *)))
       ·exact absurd hg100 (by decide)
      ·have hc1' := hc1
       (try simp only [V.cnd, ne_eq] at hc1')
       have he0 : e = 0 := by omega
       have hf0 : f = 0 := by omega
       have ov := hok1 he0
       have ow := hok2 hf0
       have htw := fun k => two_vp (G := G) k v w ov ow
       have hE1v := hE1 he0
       have hnev := Eval_at hm hw ht a b s c ([] ++ (opsAt 3 t) ++ [bareOp 5]) (good_not (good_ops 3 t) (by decide) (by decide))
       have hov := one_vp (G := G) 5 v
       rw [List.nil_append] at hnev
       generalize evalR colsL (rowL a b s c) ((opsAt 3 t) ++ [bareOp 5]) = N at *
       generalize oneF 5 v = O at *
       obtain ⟨n1, n2⟩ := N
       obtain ⟨o1, o2⟩ := O
       unfold vlD at hnev hov
       dsimp only at hnev hov hE1v
       unfold cV at hnev hov
       refine CD.skip ?_
       refine CD.seq ?_
       refine CD.region ?_
       refine OD.still (wants_plain rfl) rfl (still_mv rfl ot) ?_
       refine OD.appendG (ls := []) (new := (opsAt 3 t)) (Sq := []) cO_len cO_one (wants_plain rfl) rfl rfl Tryd.underlying25 info40_Ex7 rfl (by decide) opd_const ownL_nil (perm_r11 (A := [_, _, _, _, _])) ot (by omega) (by have hmx : maxLen = 9223372036854775807 := rfl; (try simp only [List.length_append, List.length_cons, List.length_nil]); omega) (by have hmx : maxLen = 9223372036854775807 := rfl; (try simp only [List.length_append, List.length_cons, List.length_nil]); omega) (fun b108 cp108 h1108 h2108 => ?_)
       refine OD.perm (perm_q11 (S1 := [⟨b108, 40, cp108 * 5, List.flatMap cO ([] ++ (opsAt 3 t))⟩]) (A := [_, _, _, _, _])) ?_
       refine OD.still (wants_plain rfl) rfl (still_mv rfl ot) ?_
       refine OD.appendG (ls := ([] ++ (opsAt 3 t))) (new := (opsAt 3 u)) (Sq := [⟨b108, 40, cp108 * 5, List.flatMap cO ([] ++ (opsAt 3 t))⟩]) cO_len cO_one (wants_plain rfl) rfl rfl Tryd.underlying25 info40_Ex7 rfl (by decide) ot (ownL_row h1108 h2108) (perm_r11 (A := [_, _, _, _, _])) ot (by omega) (by have hmx : maxLen = 9223372036854775807 := rfl; (try simp only [List.length_append, List.length_cons, List.length_nil]); omega) (by have hmx : maxLen = 9223372036854775807 := rfl; (try simp only [List.length_append, List.length_cons, List.length_nil]); omega) (fun b110 cp110 h1110 h2110 => ?_)
       refine OD.perm (perm_q11 (S1 := [⟨b110, 40, cp110 * 5, List.flatMap cO (([] ++ (opsAt 3 t)) ++ (opsAt 3 u))⟩]) (A := [_, _, _, _, _])) ?_
       refine OD.giveL (t := 110) (Sq := [⟨b110, 40, cp110 * 5, List.flatMap cO (([] ++ (opsAt 3 t)) ++ (opsAt 3 u))⟩]) lk (ownL_row h1110 h2110) (fm_len cO_len _) (perm_r11 (A := [_, _, _, _, _])) ?_
       refine OD.still (wants_plain rfl) rfl (still_as rfl ot) ?_
       refine OD.wk (Wk.as_ (n := 175) (l' := [(13, _), (16, _), (18, _), (20, _), (24, _)]) (S' := [⟨b20, 33, 3, [_, _, _]⟩, ⟨b18, 33, 3, [_, _, _]⟩, ⟨b14, 33, 3, [_, _, _]⟩, ⟨b7, 24, 4, [_, _, _, _]⟩, ⟨b6, 24, 4, [_, _, _, _]⟩]) rfl rfl ⟨lk, lk, lk, lk, lk, trivial⟩) ?_
       refine OD.nil ?_
       refine CD.seq ?_
       refine CD.seq ?_
       refine CD.region ?_
       refine OD.bldS (pl := numD 0 [_, _, _]) (zvs := [.int .i64 0, .int .i64 0, .int .i64 0]) (ds := [_, _, _]) (wants_plain rfl) rfl rfl Tryd.zeroValue3 Tryd.runUnderlying41 Tryd.sizeOf3 rfl rfl (by kernel_rfl) ⟨rfl, opd_const, rfl, opd_const, rfl, opd_const, trivial⟩ (by exact rfl) (fill_full (by exact rfl) (by exact rfl) (by exact rfl)) (fun b111 => ?_)
       refine OD.perm (perm_q11 (S1 := [⟨b111, 3, 3 * 1, List.flatMap cI (kL)⟩]) (A := [_, _, _, _, _])) ?_
       refine OD.giveL (t := 111) (Sq := [⟨b111, 3, 3 * 1, List.flatMap cI (kL)⟩]) lk (ownL_row (g := cI) (sz := 1) (e := 3) (ls := kL) (Nat.le_refl _) (show 3 ≤ maxLen by decide)) (fm_len cI_len _) (perm_r11 (A := [_, _, _, _, _])) ?_
       refine OD.still (wants_plain rfl) rfl (still_r1 (mk := fun y => .call { callee := .builtin .len, args := #[y], argTypes := #[41] }) rfl ot (by first | exact len_list rfl Tryd.runUnderlying41 | exact len_row rfl Tryd.runUnderlying41)) ?_
       refine OD.still (wants_plain rfl) rfl (still_mv rfl opd_const) ?_
       refine OD.wk (Wk.as_ (n := 175) (l' := [(13, _), (16, _), (18, _), (20, _), (24, _), (111, _), (112, _), (113, _)]) (S' := [⟨b20, 33, 3, [_, _, _]⟩, ⟨b18, 33, 3, [_, _, _]⟩, ⟨b14, 33, 3, [_, _, _]⟩, ⟨b7, 24, 4, [_, _, _, _]⟩, ⟨b6, 24, 4, [_, _, _, _]⟩]) rfl rfl ⟨lk, lk, lk, lk, lk, lk, lk, lk, trivial⟩) ?_
       refine OD.nil ?_
       refine CD.block ?_
       refine CD.wk (Wk.asS (n := 175) (l' := [(13, .list 3 ((rowL a b s c).flatMap cV) (rowL a b s c).length), (16, .list 5 ((opsAt 3 t).flatMap cO) (opsAt 3 t).length), (18, .v (.pointer (some ⟨b18, 0, none⟩))), (20, .v (.pointer (some ⟨b20, 0, none⟩))), (24, .list 5 ((([] ++ (opsAt 3 t)) ++ (opsAt 3 u)).flatMap cO) (([] ++ (opsAt 3 t)) ++ (opsAt 3 u)).length), (111, .list 1 (kL.flatMap cI) kL.length), (112, .v (.int .i64 (kL.length : Nat))), (113, .v (.int .i64 ((0) : Nat)))]) (S' := [⟨b20, 33, 3, [.v (.int .i64 w.k), .v (.int .i64 w.n), .v (.string w.s)]⟩, ⟨b18, 33, 3, [.v (.int .i64 v.k), .v (.int .i64 v.n), .v (.string v.s)]⟩]) rfl (by repeat (first | exact List.Sublist.refl _ | apply List.Sublist.cons_cons | apply List.Sublist.cons)) ⟨(by (repeat (first | exact look_hit | (apply look_at; focus (first | rfl | (simp; done) | (congr 2; omega))) | (apply look_miss; focus rfl))); done), (by (repeat (first | exact look_hit | (apply look_at; focus (first | rfl | (simp; done) | (congr 2; omega))) | (apply look_miss; focus rfl))); done), (by (repeat (first | exact look_hit | (apply look_at; focus (first | rfl | (simp; done) | (congr 2; omega))) | (apply look_miss; focus rfl))); done), (by (repeat (first | exact look_hit | (apply look_at; focus (first | rfl | (simp; done) | (congr 2; omega))) | (apply look_miss; focus rfl))); done), (by (repeat (first | exact look_hit | (apply look_at; focus (first | rfl | (simp; done) | (congr 2; omega))) | (apply look_miss; focus rfl))); done), (by (repeat (first | exact look_hit | (apply look_at; focus (first | rfl | (simp; done) | (congr 2; omega))) | (apply look_miss; focus rfl))); done), (by (repeat (first | exact look_hit | (apply look_at; focus (first | rfl | (simp; done) | (congr 2; omega))) | (apply look_miss; focus rfl))); done), (by (repeat (first | exact look_hit | (apply look_at; focus (first | rfl | (simp; done) | (congr 2; omega))) | (apply look_miss; focus rfl))); done), trivial⟩) (CD.loop (fun (i : Nat) y__ => (i ≤ kL.length) ∧ y__ = (⟨175, [(13, .list 3 ((rowL a b s c).flatMap cV) (rowL a b s c).length), (16, .list 5 ((opsAt 3 t).flatMap cO) (opsAt 3 t).length), (18, .v (.pointer (some ⟨b18, 0, none⟩))), (20, .v (.pointer (some ⟨b20, 0, none⟩))), (24, .list 5 ((([] ++ (opsAt 3 t)) ++ (opsAt 3 u)).flatMap cO) (([] ++ (opsAt 3 t)) ++ (opsAt 3 u)).length), (111, .list 1 (kL.flatMap cI) kL.length), (112, .v (.int .i64 (kL.length : Nat))), (113, .v (.int .i64 (i : Nat)))], [⟨b20, 33, 3, [.v (.int .i64 w.k), .v (.int .i64 w.n), .v (.string w.s)]⟩, ⟨b18, 33, 3, [.v (.int .i64 v.k), .v (.int .i64 v.n), .v (.string v.s)]⟩]⟩ : St)) (fun (i : Nat) => kL.length - i) 0 ⟨(Nat.zero_le _), rfl⟩ ?_)
       rintro i _ ⟨hi, rfl⟩
       refine CD.seq ?_
       refine CD.region ?_
       refine OD.still (wants_plain rfl) rfl (still_bin rfl ot ot bin_lss) ?_
       refine OD.wk (Wk.as_ (n := 175) (l' := [(13, _), (16, _), (18, _), (20, _), (24, _), (111, _), (112, _), (113, _), (114, _)]) (S' := [⟨b20, 33, 3, [_, _, _]⟩, ⟨b18, 33, 3, [_, _, _]⟩]) rfl rfl ⟨lk, lk, lk, lk, lk, lk, lk, lk, lk, trivial⟩) ?_
       refine OD.nil ?_
       refine CD.seq ?_
       refine CD.cond ot (fun hc2 => ?_) (fun hc2 => ?_)
       ·have hc2' := hc2
        (try simp only [V.cnd, ne_eq] at hc2')
        have hlt : i < kL.length := by omega
        obtain ⟨k3, k11, kp⟩ := kL_at hlt
        have hev2 := Eval_at hm hw ht a b s c ((opsAt 3 t) ++ (opsAt 3 u) ++ [bareOp kL[i]]) (good_two (good_ops 3 t) (good_ops 3 u) k3 k11)
        have hE := hE2 kL[i] k3 k11 kp he0 hf0
        have htv := htw kL[i]
        generalize evalR colsL (rowL a b s c) (((opsAt 3 t) ++ (opsAt 3 u)) ++ [bareOp kL[i]]) = Q at *
        generalize twoF kL[i] v w = M at *
        obtain ⟨q1, q2⟩ := Q
        obtain ⟨m1, m2⟩ := M
        unfold vlD at hev2 htv
        dsimp only at hev2 htv hE
        unfold cV at hev2 htv
        refine CD.skip ?_
        refine CD.seq ?_
        refine CD.block ?_
        refine CD.seq ?_
        refine CD.region ?_
        refine OD.still (wants_plain rfl) rfl (still_r2 (mk := Op.indexAddr 41) rfl ot ot (by first | exact ix_list Tryd.runUnderlying41 Tryd.sizeOf3 rfl (by first | assumption | omega) | exact ix_list (j := Int.toNat _) Tryd.runUnderlying41 Tryd.sizeOf3 (Int.toNat_of_nonneg (by omega)).symm (by omega) | exact ix_row Tryd.runUnderlying41 Tryd.sizeOf3 rfl (by first | assumption | omega) | exact ix_row (j := Int.toNat _) Tryd.runUnderlying41 Tryd.sizeOf3 (Int.toNat_of_nonneg (by omega)).symm (by omega))) ?_
        refine OD.still (wants_plain rfl) rfl (still_r1 (mk := Op.load 3) rfl ot (by first | exact ld_blk (k := 0) rfl rfl Tryd.isAgg3 rfl | exact ld_blk (k := 1) rfl rfl Tryd.isAgg3 rfl | exact ld_fm cO_len Tryd.isAgg3 (by first | assumption | omega) rfl | exact ld_fm0 cO_len Tryd.isAgg3 (by first | assumption | omega) rfl | exact ld_fm cV_len Tryd.isAgg3 (by first | assumption | omega) rfl | exact ld_fm0 cV_len Tryd.isAgg3 (by first | assumption | omega) rfl | exact ld_fm cI_len Tryd.isAgg3 (by first | assumption | omega) rfl | exact ld_fm0 cI_len Tryd.isAgg3 (by first | assumption | omega) rfl | exact ld_row (k := 0) cO_len rfl rfl rfl Tryd.isAgg3 (by first | assumption | omega) rfl | exact ld_row0 (k := 0) cO_len rfl rfl rfl Tryd.isAgg3 (by first | assumption | omega) rfl | exact ld_row (k := 1) cO_len rfl rfl rfl Tryd.isAgg3 (by first | assumption | omega) rfl | exact ld_row0 (k := 1) cO_len rfl rfl rfl Tryd.isAgg3 (by first | assumption | omega) rfl | exact ld_row (k := 0) cV_len rfl rfl rfl Tryd.isAgg3 (by first | assumption | omega) rfl | exact ld_row0 (k := 0) cV_len rfl rfl rfl Tryd.isAgg3 (by first | assumption | omega) rfl | exact ld_row (k := 1) cV_len rfl rfl rfl Tryd.isAgg3 (by first | assumption | omega) rfl | exact ld_row0 (k := 1) cV_len rfl rfl rfl Tryd.isAgg3 (by first | assumption | omega) rfl | exact ld_row (k := 0) cI_len rfl rfl rfl Tryd.isAgg3 (by first | assumption | omega) rfl | exact ld_row0 (k := 0) cI_len rfl rfl rfl Tryd.isAgg3 (by first | assumption | omega) rfl | exact ld_row (k := 1) cI_len rfl rfl rfl Tryd.isAgg3 (by first | assumption | omega) rfl | exact ld_row0 (k := 1) cI_len rfl rfl rfl Tryd.isAgg3 (by first | assumption | omega) rfl | exact ld_i Tryd.isAgg3 rfl)) ?_
        refine OD.still (wants_plain rfl) rfl (still_as rfl ot) ?_
        refine OD.wk (Wk.as_ (n := 175) (l' := [(13, _), (16, _), (18, _), (20, _), (24, _), (26, _), (111, _), (112, _), (113, _)]) (S' := [⟨b20, 33, 3, [_, _, _]⟩, ⟨b18, 33, 3, [_, _, _]⟩]) rfl rfl ⟨lk, lk, lk, lk, lk, lk, lk, lk, lk, trivial⟩) ?_
        refine OD.nil ?_
        refine CD.seq ?_
        refine CD.region ?_
        refine OD.callP (wants_plain rfl) rfl rfl rfl Tryd.call10 (colsOf_vp) trivial ?_
        refine OD.still (wants_plain rfl) rfl (still_mv rfl ot) ?_
        refine OD.still (wants_plain rfl) rfl (still_mv rfl ot) ?_
        refine OD.appendG (ls := []) (new := (([] ++ (opsAt 3 t)) ++ (opsAt 3 u))) (Sq := []) cO_len cO_one (wants_plain rfl) rfl rfl Tryd.underlying25 info40_Ex7 rfl (by decide) opd_const ownL_nil (perm_r11 (A := [_, _])) ot (by simp only [List.length_append, List.length_nil]; omega) (by have hmx : maxLen = 9223372036854775807 := rfl; (try simp only [List.length_append, List.length_cons, List.length_nil]); omega) (by have hmx : maxLen = 9223372036854775807 := rfl; (try simp only [List.length_append, List.length_cons, List.length_nil]); omega) (fun b121 cp121 h1121 h2121 => ?_)
        refine OD.perm (perm_q11 (S1 := [⟨b121, 40, cp121 * 5, List.flatMap cO ([] ++ (([] ++ (opsAt 3 t)) ++ (opsAt 3 u)))⟩]) (A := [_, _])) ?_
        refine OD.still (wants_plain rfl) rfl (still_mv rfl ot) ?_
        refine OD.still (wants_plain rfl) rfl (still_bld (pl := [(0, _)]) (ds := [_, _, _, _, _]) rfl Tryd.zeroValue40 Tryd.runUnderlying40 places40_Ex7 ⟨rfl, ot, trivial⟩ rfl rfl) ?_
        refine OD.bldS (pl := numD 0 [_]) (zvs := [.int .i64 0, .int .i64 0, .int .i64 0, .string ⟨#[]⟩, .string ⟨#[]⟩]) (ds := [_, _, _, _, _]) (wants_plain rfl) rfl rfl Tryd.zeroValue40 Tryd.runUnderlying25 Tryd.sizeOf40 rfl rfl (by kernel_rfl) ⟨rfl, ot, trivial⟩ (by exact rfl) (fill_full (by exact rfl) (by exact rfl) (by exact rfl)) (fun b124 => ?_)
        refine OD.give (k := 0) (t := 124) (sz := 5) (m := 1) rfl lk rfl rfl rfl (Nat.le_refl _) (by decide) ?_
        refine OD.appendG (ls := ([] ++ (([] ++ (opsAt 3 t)) ++ (opsAt 3 u)))) (new := [bareOp kL[i]]) (Sq := [⟨b121, 40, cp121 * 5, List.flatMap cO ([] ++ (([] ++ (opsAt 3 t)) ++ (opsAt 3 u)))⟩]) cO_len cO_one (wants_plain rfl) rfl rfl Tryd.underlying25 info40_Ex7 rfl (by decide) ot (ownL_row h1121 h2121) (perm_r11 (A := [_, _])) ot (by simp) (by have hmx : maxLen = 9223372036854775807 := rfl; (try simp only [List.length_append, List.length_cons, List.length_nil]); omega) (by have hmx : maxLen = 9223372036854775807 := rfl; (try simp only [List.length_append, List.length_cons, List.length_nil]); omega) (fun b125 cp125 h1125 h2125 => ?_)
        refine OD.perm (perm_q11 (S1 := [⟨b125, 40, cp125 * 5, List.flatMap cO (([] ++ (([] ++ (opsAt 3 t)) ++ (opsAt 3 u))) ++ [bareOp kL[i]])⟩]) (A := [_, _])) ?_
        refine OD.giveL (t := 125) (Sq := [⟨b125, 40, cp125 * 5, List.flatMap cO (([] ++ (([] ++ (opsAt 3 t)) ++ (opsAt 3 u))) ++ [bareOp kL[i]])⟩]) lk (ownL_row h1125 h2125) (fm_len cO_len _) (perm_r11 (A := [_, _])) ?_
        refine OD.callP (wants_plain rfl) rfl rfl rfl Tryd.call11 (hev2) ⟨ot, ot, ot, trivial⟩ ?_
        refine OD.still (wants_plain rfl) rfl (still_mv rfl ot) ?_
        refine OD.still (wants_plain rfl) rfl (still_extract rfl ot rfl) ?_
        refine OD.still (wants_plain rfl) rfl (still_extract rfl ot rfl) ?_
        refine OD.alloc (ds := [_, _, _]) (wants_plain rfl) rfl rfl Tryd.zeroValue33 rfl (fun b27 => ?_)
        refine OD.store (k := 0) (cs' := [_, _, _]) (wants_plain rfl) rfl rfl ot rfl rfl ot rfl rfl Tryd.sizeOf33 rfl rfl rfl ?_
        refine OD.still (wants_plain rfl) rfl (still_as rfl ot) ?_
        refine OD.wk (Wk.as_ (n := 175) (l' := [(13, _), (16, _), (18, _), (20, _), (24, _), (26, _), (27, _), (28, _), (111, _), (112, _), (113, _)]) (S' := [⟨b27, 33, 3, [_, _, _]⟩, ⟨b20, 33, 3, [_, _, _]⟩, ⟨b18, 33, 3, [_, _, _]⟩]) rfl rfl ⟨lk, lk, lk, lk, lk, lk, lk, lk, lk, lk, lk, trivial⟩) ?_
        refine OD.nil ?_
        refine CD.seq ?_
        refine CD.region ?_
        refine OD.still (wants_plain rfl) rfl (still_mv rfl ot) ?_
        refine OD.still (wants_plain rfl) rfl (still_r1 (mk := Op.load 33) rfl ot (by first | exact ld_blks (k := 2) (ds := [_, _, _]) rfl rfl Tryd.isAgg33 Tryd.sizeOf33 rfl rfl | exact ld_fms cO_len Tryd.isAgg33 Tryd.sizeOf33 (by first | assumption | omega) | exact ld_fms cV_len Tryd.isAgg33 Tryd.sizeOf33 (by first | assumption | omega) | exact ld_fms cI_len Tryd.isAgg33 Tryd.sizeOf33 (by first | assumption | omega) | exact ld_rows (k := 0) cO_len rfl rfl rfl Tryd.isAgg33 Tryd.sizeOf33 (by first | assumption | omega) | exact ld_rows (k := 1) cO_len rfl rfl rfl Tryd.isAgg33 Tryd.sizeOf33 (by first | assumption | omega) | exact ld_rows (k := 2) cO_len rfl rfl rfl Tryd.isAgg33 Tryd.sizeOf33 (by first | assumption | omega) | exact ld_rows (k := 0) cV_len rfl rfl rfl Tryd.isAgg33 Tryd.sizeOf33 (by first | assumption | omega) | exact ld_rows (k := 1) cV_len rfl rfl rfl Tryd.isAgg33 Tryd.sizeOf33 (by first | assumption | omega) | exact ld_rows (k := 2) cV_len rfl rfl rfl Tryd.isAgg33 Tryd.sizeOf33 (by first | assumption | omega) | exact ld_rows (k := 0) cI_len rfl rfl rfl Tryd.isAgg33 Tryd.sizeOf33 (by first | assumption | omega) | exact ld_rows (k := 1) cI_len rfl rfl rfl Tryd.isAgg33 Tryd.sizeOf33 (by first | assumption | omega) | exact ld_rows (k := 2) cI_len rfl rfl rfl Tryd.isAgg33 Tryd.sizeOf33 (by first | assumption | omega) | exact ld_is (ds := [_, _, _]) Tryd.isAgg33 Tryd.sizeOf33 rfl rfl)) ?_
        refine OD.still (wants_plain rfl) rfl (still_r1 (mk := Op.load 33) rfl ot (by first | exact ld_blks (k := 1) (ds := [_, _, _]) rfl rfl Tryd.isAgg33 Tryd.sizeOf33 rfl rfl | exact ld_fms cO_len Tryd.isAgg33 Tryd.sizeOf33 (by first | assumption | omega) | exact ld_fms cV_len Tryd.isAgg33 Tryd.sizeOf33 (by first | assumption | omega) | exact ld_fms cI_len Tryd.isAgg33 Tryd.sizeOf33 (by first | assumption | omega) | exact ld_rows (k := 0) cO_len rfl rfl rfl Tryd.isAgg33 Tryd.sizeOf33 (by first | assumption | omega) | exact ld_rows (k := 1) cO_len rfl rfl rfl Tryd.isAgg33 Tryd.sizeOf33 (by first | assumption | omega) | exact ld_rows (k := 2) cO_len rfl rfl rfl Tryd.isAgg33 Tryd.sizeOf33 (by first | assumption | omega) | exact ld_rows (k := 0) cV_len rfl rfl rfl Tryd.isAgg33 Tryd.sizeOf33 (by first | assumption | omega) | exact ld_rows (k := 1) cV_len rfl rfl rfl Tryd.isAgg33 Tryd.sizeOf33 (by first | assumption | omega) | exact ld_rows (k := 2) cV_len rfl rfl rfl Tryd.isAgg33 Tryd.sizeOf33 (by first | assumption | omega) | exact ld_rows (k := 0) cI_len rfl rfl rfl Tryd.isAgg33 Tryd.sizeOf33 (by first | assumption | omega) | exact ld_rows (k := 1) cI_len rfl rfl rfl Tryd.isAgg33 Tryd.sizeOf33 (by first | assumption | omega) | exact ld_rows (k := 2) cI_len rfl rfl rfl Tryd.isAgg33 Tryd.sizeOf33 (by first | assumption | omega) | exact ld_is (ds := [_, _, _]) Tryd.isAgg33 Tryd.sizeOf33 rfl rfl)) ?_
        refine OD.callP (wants_plain rfl) rfl rfl rfl Tryd.call13 (htv) ⟨ot, ot, ot, trivial⟩ ?_
        refine OD.still (wants_plain rfl) rfl (still_mv rfl ot) ?_
        refine OD.still (wants_plain rfl) rfl (still_extract rfl ot rfl) ?_
        refine OD.still (wants_plain rfl) rfl (still_extract rfl ot rfl) ?_
        refine OD.alloc (ds := [_, _, _]) (wants_plain rfl) rfl rfl Tryd.zeroValue33 rfl (fun b29 => ?_)
        refine OD.store (k := 0) (cs' := [_, _, _]) (wants_plain rfl) rfl rfl ot rfl rfl ot rfl rfl Tryd.sizeOf33 rfl rfl rfl ?_
        refine OD.still (wants_plain rfl) rfl (still_as rfl ot) ?_
        refine OD.wk (Wk.as_ (n := 175) (l' := [(13, _), (16, _), (18, _), (20, _), (24, _), (27, _), (28, _), (29, _), (30, _), (111, _), (112, _), (113, _)]) (S' := [⟨b29, 33, 3, [_, _, _]⟩, ⟨b27, 33, 3, [_, _, _]⟩, ⟨b20, 33, 3, [_, _, _]⟩, ⟨b18, 33, 3, [_, _, _]⟩]) rfl rfl ⟨lk, lk, lk, lk, lk, lk, lk, lk, lk, lk, lk, lk, trivial⟩) ?_
        refine OD.nil ?_
        refine CD.seq ?_
        refine CD.seq ?_
        refine CD.region ?_
        refine OD.still (wants_plain rfl) rfl (still_mv rfl ot) ?_
        refine OD.still (wants_plain rfl) rfl (still_bin rfl ot opd_const bin_eql) ?_
        refine OD.wk (Wk.as_ (n := 175) (l' := [(13, _), (16, _), (18, _), (20, _), (24, _), (27, _), (28, _), (29, _), (30, _), (111, _), (112, _), (113, _), (137, _)]) (S' := [⟨b29, 33, 3, [_, _, _]⟩, ⟨b27, 33, 3, [_, _, _]⟩, ⟨b20, 33, 3, [_, _, _]⟩, ⟨b18, 33, 3, [_, _, _]⟩]) rfl rfl ⟨lk, lk, lk, lk, lk, lk, lk, lk, lk, lk, lk, lk, lk, trivial⟩) ?_
        refine OD.nil ?_
        refine CD.cond ot (fun hc3 => ?_) (fun hc3 => ?_)
        ·have hc3' := hc3
         (try simp only [V.cnd, ne_eq] at hc3')
         refine CD.exit ?_
         refine CD.region ?_
         refine OD.still (wants_plain rfl) rfl (still_bin rfl ot opd_const (bin_add (wrap_i64 (by omega) (by omega)))) ?_
         refine OD.still (wants_plain rfl) rfl (still_mv rfl ot) ?_
         refine OD.wk (Wk.as_ (n := 175) (l' := [(13, _), (16, _), (18, _), (20, _), (24, _), (111, _), (112, _), (113, _)]) (S' := [⟨b29, 33, 3, [_, _, _]⟩, ⟨b27, 33, 3, [_, _, _]⟩, ⟨b20, 33, 3, [_, _, _]⟩, ⟨b18, 33, 3, [_, _, _]⟩]) rfl rfl ⟨lk, lk, lk, lk, lk, lk, lk, lk, trivial⟩) ?_
         refine OD.nil ?_
         refine ⟨(i + 1), ⟨175, [(13, .list 3 ((rowL a b s c).flatMap cV) (rowL a b s c).length), (16, .list 5 ((opsAt 3 t).flatMap cO) (opsAt 3 t).length), (18, .v (.pointer (some ⟨b18, 0, none⟩))), (20, .v (.pointer (some ⟨b20, 0, none⟩))), (24, .list 5 ((([] ++ (opsAt 3 t)) ++ (opsAt 3 u)).flatMap cO) (([] ++ (opsAt 3 t)) ++ (opsAt 3 u)).length), (111, .list 1 (kL.flatMap cI) kL.length), (112, .v (.int .i64 (kL.length : Nat))), (113, .v (.int .i64 (((i + 1)) : Nat)))], [⟨b20, 33, 3, [.v (.int .i64 w.k), .v (.int .i64 w.n), .v (.string w.s)]⟩, ⟨b18, 33, 3, [.v (.int .i64 v.k), .v (.int .i64 v.n), .v (.string v.s)]⟩]⟩, ?_, Wk.asS (n := 175) rfl (by repeat (first | exact List.Sublist.refl _ | apply List.Sublist.cons_cons | apply List.Sublist.cons)) ⟨(by (repeat (first | exact look_hit | (apply look_at; focus (first | rfl | (simp; done) | (congr 2; omega))) | (apply look_miss; focus rfl))); done), (by (repeat (first | exact look_hit | (apply look_at; focus (first | rfl | (simp; done) | (congr 2; omega))) | (apply look_miss; focus rfl))); done), (by (repeat (first | exact look_hit | (apply look_at; focus (first | rfl | (simp; done) | (congr 2; omega))) | (apply look_miss; focus rfl))); done), (by (repeat (first | exact look_hit | (apply look_at; focus (first | rfl | (simp; done) | (congr 2; omega))) | (apply look_miss; focus rfl))); done), (by (repeat (first | exact look_hit | (apply look_at; focus (first | rfl | (simp; done) | (congr 2; omega))) | (apply look_miss; focus rfl))); done), (by (repeat (first | exact look_hit | (apply look_at; focus (first | rfl | (simp; done) | (congr 2; omega))) | (apply look_miss; focus rfl))); done), (by (repeat (first | exact look_hit | (apply look_at; focus (first | rfl | (simp; done) | (congr 2; omega))) | (apply look_miss; focus rfl))); done), (by (repeat (first | exact look_hit | (apply look_at; focus (first | rfl | (simp; done) | (congr 2; omega))) | (apply look_miss; focus rfl))); done), trivial⟩, (by omega), rfl⟩
         first | omega | (simp only []; omega)
        ·have hc3' := hc3
         (try simp only [V.cnd, ne_eq] at hc3')
         have hE' : q1 = m1 ∧ q2 = m2 := by rcases hE with h | h; exact absurd h (by omega); injection h with h1 h2; exact ⟨h1, h2⟩
         obtain ⟨rfl, rfl⟩ := hE'
         refine CD.skip ?_
         refine CD.seq ?_
         refine CD.region ?_
         refine OD.still (wants_plain rfl) rfl (still_mv rfl ot) ?_
         refine OD.still (wants_plain rfl) rfl (still_mv rfl ot) ?_
         refine OD.still (wants_plain rfl) rfl (still_bin rfl ot ot bin_neq) ?_
         refine OD.still (wants_plain rfl) rfl (still_mv rfl ot) ?_
         refine OD.split (t := 141) lk (fun hg141 => ?_) (fun hg141 => ?_)
         ·exact absurd hg141 (by simp)
         ·have hg141' := hg141; (try simp only [V.cnd, ne_eq] at hg141')
          refine OD.still (wants_T rfl rfl rfl lk (by first | rfl | assumption)) rfl (still_r1 (mk := Op.load 33) rfl ot (by first | exact ld_blks (k := 1) (ds := [_, _, _]) rfl rfl Tryd.isAgg33 Tryd.sizeOf33 rfl rfl | exact ld_fms cO_len Tryd.isAgg33 Tryd.sizeOf33 (by first | assumption | omega) | exact ld_fms cV_len Tryd.isAgg33 Tryd.sizeOf33 (by first | assumption | omega) | exact ld_fms cI_len Tryd.isAgg33 Tryd.sizeOf33 (by first | assumption | omega) | exact ld_rows (k := 0) cO_len rfl rfl rfl Tryd.isAgg33 Tryd.sizeOf33 (by first | assumption | omega) | exact ld_rows (k := 1) cO_len rfl rfl rfl Tryd.isAgg33 Tryd.sizeOf33 (by first | assumption | omega) | exact ld_rows (k := 2) cO_len rfl rfl rfl Tryd.isAgg33 Tryd.sizeOf33 (by first | assumption | omega) | exact ld_rows (k := 3) cO_len rfl rfl rfl Tryd.isAgg33 Tryd.sizeOf33 (by first | assumption | omega) | exact ld_rows (k := 0) cV_len rfl rfl rfl Tryd.isAgg33 Tryd.sizeOf33 (by first | assumption | omega) | exact ld_rows (k := 1) cV_len rfl rfl rfl Tryd.isAgg33 Tryd.sizeOf33 (by first | assumption | omega) | exact ld_rows (k := 2) cV_len rfl rfl rfl Tryd.isAgg33 Tryd.sizeOf33 (by first | assumption | omega) | exact ld_rows (k := 3) cV_len rfl rfl rfl Tryd.isAgg33 Tryd.sizeOf33 (by first | assumption | omega) | exact ld_rows (k := 0) cI_len rfl rfl rfl Tryd.isAgg33 Tryd.sizeOf33 (by first | assumption | omega) | exact ld_rows (k := 1) cI_len rfl rfl rfl Tryd.isAgg33 Tryd.sizeOf33 (by first | assumption | omega) | exact ld_rows (k := 2) cI_len rfl rfl rfl Tryd.isAgg33 Tryd.sizeOf33 (by first | assumption | omega) | exact ld_rows (k := 3) cI_len rfl rfl rfl Tryd.isAgg33 Tryd.sizeOf33 (by first | assumption | omega) | exact ld_is (ds := [_, _, _]) Tryd.isAgg33 Tryd.sizeOf33 rfl rfl)) ?_
          refine OD.still (wants_T rfl rfl rfl lk (by first | rfl | assumption)) rfl (still_r1 (mk := Op.load 33) rfl ot (by first | exact ld_blks (k := 0) (ds := [_, _, _]) rfl rfl Tryd.isAgg33 Tryd.sizeOf33 rfl rfl | exact ld_fms cO_len Tryd.isAgg33 Tryd.sizeOf33 (by first | assumption | omega) | exact ld_fms cV_len Tryd.isAgg33 Tryd.sizeOf33 (by first | assumption | omega) | exact ld_fms cI_len Tryd.isAgg33 Tryd.sizeOf33 (by first | assumption | omega) | exact ld_rows (k := 0) cO_len rfl rfl rfl Tryd.isAgg33 Tryd.sizeOf33 (by first | assumption | omega) | exact ld_rows (k := 1) cO_len rfl rfl rfl Tryd.isAgg33 Tryd.sizeOf33 (by first | assumption | omega) | exact ld_rows (k := 2) cO_len rfl rfl rfl Tryd.isAgg33 Tryd.sizeOf33 (by first | assumption | omega) | exact ld_rows (k := 3) cO_len rfl rfl rfl Tryd.isAgg33 Tryd.sizeOf33 (by first | assumption | omega) | exact ld_rows (k := 0) cV_len rfl rfl rfl Tryd.isAgg33 Tryd.sizeOf33 (by first | assumption | omega) | exact ld_rows (k := 1) cV_len rfl rfl rfl Tryd.isAgg33 Tryd.sizeOf33 (by first | assumption | omega) | exact ld_rows (k := 2) cV_len rfl rfl rfl Tryd.isAgg33 Tryd.sizeOf33 (by first | assumption | omega) | exact ld_rows (k := 3) cV_len rfl rfl rfl Tryd.isAgg33 Tryd.sizeOf33 (by first | assumption | omega) | exact ld_rows (k := 0) cI_len rfl rfl rfl Tryd.isAgg33 Tryd.sizeOf33 (by first | assumption | omega) | exact ld_rows (k := 1) cI_len rfl rfl rfl Tryd.isAgg33 Tryd.sizeOf33 (by first | assumption | omega) | exact ld_rows (k := 2) cI_len rfl rfl rfl Tryd.isAgg33 Tryd.sizeOf33 (by first | assumption | omega) | exact ld_rows (k := 3) cI_len rfl rfl rfl Tryd.isAgg33 Tryd.sizeOf33 (by first | assumption | omega) | exact ld_is (ds := [_, _, _]) Tryd.isAgg33 Tryd.sizeOf33 rfl rfl)) ?_
          refine OD.still (wants_T rfl rfl rfl lk (by first | rfl | assumption)) rfl (still_neS (us := [_, _, _]) (us' := [_, _, _]) rfl ot ot Tryd.eqGuardType33 (Vl.eqs33 q1 q1)) ?_
          refine OD.still (wants_plain rfl) rfl (still_pickF rfl ot (by first | rfl | assumption) ot) ?_
          refine OD.wk (Wk.as_ (n := 175) (l' := [(13, _), (16, _), (18, _), (20, _), (24, _), (111, _), (112, _), (113, _), (145, _)]) (S' := [⟨b29, 33, 3, [_, _, _]⟩, ⟨b27, 33, 3, [_, _, _]⟩, ⟨b20, 33, 3, [_, _, _]⟩, ⟨b18, 33, 3, [_, _, _]⟩]) rfl rfl ⟨lk, lk, lk, lk, lk, lk, lk, lk, lk, trivial⟩) ?_
          refine OD.nil ?_
          refine CD.cond ot (fun hc4 => ?_) (fun hc4 => ?_)
          ·exact absurd hc4 (by simp)
          ·have hc4' := hc4
           (try simp only [V.cnd, ne_eq] at hc4')
           refine CD.skip ?_
           refine CD.region ?_
           refine OD.still (wants_plain rfl) rfl (still_bin rfl ot opd_const (bin_add (wrap_i64 (by omega) (by omega)))) ?_
           refine OD.still (wants_plain rfl) rfl (still_mv rfl ot) ?_
           refine OD.wk (Wk.as_ (n := 175) (l' := [(13, _), (16, _), (18, _), (20, _), (24, _), (111, _), (112, _), (113, _)]) (S' := [⟨b29, 33, 3, [_, _, _]⟩, ⟨b27, 33, 3, [_, _, _]⟩, ⟨b20, 33, 3, [_, _, _]⟩, ⟨b18, 33, 3, [_, _, _]⟩]) rfl rfl ⟨lk, lk, lk, lk, lk, lk, lk, lk, trivial⟩) ?_
           refine OD.nil ?_
           refine ⟨(i + 1), ⟨175, [(13, .list 3 ((rowL a b s c).flatMap cV) (rowL a b s c).length), (16, .list 5 ((opsAt 3 t).flatMap cO) (opsAt 3 t).length), (18, .v (.pointer (some ⟨b18, 0, none⟩))), (20, .v (.pointer (some ⟨b20, 0, none⟩))), (24, .list 5 ((([] ++ (opsAt 3 t)) ++ (opsAt 3 u)).flatMap cO) (([] ++ (opsAt 3 t)) ++ (opsAt 3 u)).length), (111, .list 1 (kL.flatMap cI) kL.length), (112, .v (.int .i64 (kL.length : Nat))), (113, .v (.int .i64 (((i + 1)) : Nat)))], [⟨b20, 33, 3, [.v (.int .i64 w.k), .v (.int .i64 w.n), .v (.string w.s)]⟩, ⟨b18, 33, 3, [.v (.int .i64 v.k), .v (.int .i64 v.n), .v (.string v.s)]⟩]⟩, ?_, Wk.asS (n := 175) rfl (by repeat (first | exact List.Sublist.refl _ | apply List.Sublist.cons_cons | apply List.Sublist.cons)) ⟨(by (repeat (first | exact look_hit | (apply look_at; focus (first | rfl | (simp; done) | (congr 2; omega))) | (apply look_miss; focus rfl))); done), (by (repeat (first | exact look_hit | (apply look_at; focus (first | rfl | (simp; done) | (congr 2; omega))) | (apply look_miss; focus rfl))); done), (by (repeat (first | exact look_hit | (apply look_at; focus (first | rfl | (simp; done) | (congr 2; omega))) | (apply look_miss; focus rfl))); done), (by (repeat (first | exact look_hit | (apply look_at; focus (first | rfl | (simp; done) | (congr 2; omega))) | (apply look_miss; focus rfl))); done), (by (repeat (first | exact look_hit | (apply look_at; focus (first | rfl | (simp; done) | (congr 2; omega))) | (apply look_miss; focus rfl))); done), (by (repeat (first | exact look_hit | (apply look_at; focus (first | rfl | (simp; done) | (congr 2; omega))) | (apply look_miss; focus rfl))); done), (by (repeat (first | exact look_hit | (apply look_at; focus (first | rfl | (simp; done) | (congr 2; omega))) | (apply look_miss; focus rfl))); done), (by (repeat (first | exact look_hit | (apply look_at; focus (first | rfl | (simp; done) | (congr 2; omega))) | (apply look_miss; focus rfl))); done), trivial⟩, (by omega), rfl⟩
           first | omega | (simp only []; omega)
       ·have hc2' := hc2
        (try simp only [V.cnd, ne_eq] at hc2')
        refine CD.exit ?_
        refine CD.seq ?_
        refine CD.region ?_
        refine OD.callP (wants_plain rfl) rfl rfl rfl Tryd.call10 (colsOf_vp) trivial ?_
        refine OD.still (wants_plain rfl) rfl (still_mv rfl ot) ?_
        refine OD.still (wants_plain rfl) rfl (still_mv rfl ot) ?_
        refine OD.appendG (ls := []) (new := (opsAt 3 t)) (Sq := []) cO_len cO_one (wants_plain rfl) rfl rfl Tryd.underlying25 info40_Ex7 rfl (by decide) opd_const ownL_nil (perm_r11 (A := [_, _])) ot (by omega) (by have hmx : maxLen = 9223372036854775807 := rfl; (try simp only [List.length_append, List.length_cons, List.length_nil]); omega) (by have hmx : maxLen = 9223372036854775807 := rfl; (try simp only [List.length_append, List.length_cons, List.length_nil]); omega) (fun b151 cp151 h1151 h2151 => ?_)
        refine OD.perm (perm_q11 (S1 := [⟨b151, 40, cp151 * 5, List.flatMap cO ([] ++ (opsAt 3 t))⟩]) (A := [_, _])) ?_
        refine OD.still (wants_plain rfl) rfl (still_bld (pl := [(0, _)]) (ds := [_, _, _, _, _]) rfl Tryd.zeroValue40 Tryd.runUnderlying40 places40_Ex7 ⟨rfl, opd_const, trivial⟩ rfl rfl) ?_
        refine OD.bldS (pl := numD 0 [_]) (zvs := [.int .i64 0, .int .i64 0, .int .i64 0, .string ⟨#[]⟩, .string ⟨#[]⟩]) (ds := [_, _, _, _, _]) (wants_plain rfl) rfl rfl Tryd.zeroValue40 Tryd.runUnderlying25 Tryd.sizeOf40 rfl rfl (by kernel_rfl) ⟨rfl, ot, trivial⟩ (by exact rfl) (fill_full (by exact rfl) (by exact rfl) (by exact rfl)) (fun b153 => ?_)
        refine OD.give (k := 0) (t := 153) (sz := 5) (m := 1) rfl lk rfl rfl rfl (Nat.le_refl _) (by decide) ?_
        refine OD.appendG (ls := ([] ++ (opsAt 3 t))) (new := [bareOp 5]) (Sq := [⟨b151, 40, cp151 * 5, List.flatMap cO ([] ++ (opsAt 3 t))⟩]) cO_len cO_one (wants_plain rfl) rfl rfl Tryd.underlying25 info40_Ex7 rfl (by decide) ot (ownL_row h1151 h2151) (perm_r11 (A := [_, _])) ot (by simp) (by have hmx : maxLen = 9223372036854775807 := rfl; (try simp only [List.length_append, List.length_cons, List.length_nil]); omega) (by have hmx : maxLen = 9223372036854775807 := rfl; (try simp only [List.length_append, List.length_cons, List.length_nil]); omega) (fun b154 cp154 h1154 h2154 => ?_)
        refine OD.perm (perm_q11 (S1 := [⟨b154, 40, cp154 * 5, List.flatMap cO (([] ++ (opsAt 3 t)) ++ [bareOp 5])⟩]) (A := [_, _])) ?_
        refine OD.giveL (t := 154) (Sq := [⟨b154, 40, cp154 * 5, List.flatMap cO (([] ++ (opsAt 3 t)) ++ [bareOp 5])⟩]) lk (ownL_row h1154 h2154) (fm_len cO_len _) (perm_r11 (A := [_, _])) ?_
        refine OD.callP (wants_plain rfl) rfl rfl rfl Tryd.call11 (hnev) ⟨ot, ot, ot, trivial⟩ ?_
        refine OD.still (wants_plain rfl) rfl (still_mv rfl ot) ?_
        refine OD.still (wants_plain rfl) rfl (still_extract rfl ot rfl) ?_
        refine OD.still (wants_plain rfl) rfl (still_extract rfl ot rfl) ?_
        refine OD.alloc (ds := [_, _, _]) (wants_plain rfl) rfl rfl Tryd.zeroValue33 rfl (fun b31 => ?_)
        refine OD.store (k := 0) (cs' := [_, _, _]) (wants_plain rfl) rfl rfl ot rfl rfl ot rfl rfl Tryd.sizeOf33 rfl rfl rfl ?_
        refine OD.still (wants_plain rfl) rfl (still_as rfl ot) ?_
        refine OD.wk (Wk.as_ (n := 175) (l' := [(18, _), (31, _), (32, _)]) (S' := [⟨b31, 33, 3, [_, _, _]⟩, ⟨b20, 33, 3, [_, _, _]⟩, ⟨b18, 33, 3, [_, _, _]⟩]) rfl rfl ⟨lk, lk, lk, trivial⟩) ?_
        refine OD.nil ?_
        refine CD.seq ?_
        refine CD.region ?_
        refine OD.still (wants_plain rfl) rfl (still_r1 (mk := Op.load 33) rfl ot (by first | exact ld_blks (k := 2) (ds := [_, _, _]) rfl rfl Tryd.isAgg33 Tryd.sizeOf33 rfl rfl | exact ld_fms cO_len Tryd.isAgg33 Tryd.sizeOf33 (by first | assumption | omega) | exact ld_fms cV_len Tryd.isAgg33 Tryd.sizeOf33 (by first | assumption | omega) | exact ld_fms cI_len Tryd.isAgg33 Tryd.sizeOf33 (by first | assumption | omega) | exact ld_rows (k := 0) cO_len rfl rfl rfl Tryd.isAgg33 Tryd.sizeOf33 (by first | assumption | omega) | exact ld_rows (k := 1) cO_len rfl rfl rfl Tryd.isAgg33 Tryd.sizeOf33 (by first | assumption | omega) | exact ld_rows (k := 2) cO_len rfl rfl rfl Tryd.isAgg33 Tryd.sizeOf33 (by first | assumption | omega) | exact ld_rows (k := 0) cV_len rfl rfl rfl Tryd.isAgg33 Tryd.sizeOf33 (by first | assumption | omega) | exact ld_rows (k := 1) cV_len rfl rfl rfl Tryd.isAgg33 Tryd.sizeOf33 (by first | assumption | omega) | exact ld_rows (k := 2) cV_len rfl rfl rfl Tryd.isAgg33 Tryd.sizeOf33 (by first | assumption | omega) | exact ld_rows (k := 0) cI_len rfl rfl rfl Tryd.isAgg33 Tryd.sizeOf33 (by first | assumption | omega) | exact ld_rows (k := 1) cI_len rfl rfl rfl Tryd.isAgg33 Tryd.sizeOf33 (by first | assumption | omega) | exact ld_rows (k := 2) cI_len rfl rfl rfl Tryd.isAgg33 Tryd.sizeOf33 (by first | assumption | omega) | exact ld_is (ds := [_, _, _]) Tryd.isAgg33 Tryd.sizeOf33 rfl rfl)) ?_
        refine OD.callP (wants_plain rfl) rfl rfl rfl Tryd.call14 (hov) ⟨opd_const, ot, trivial⟩ ?_
        refine OD.still (wants_plain rfl) rfl (still_mv rfl ot) ?_
        refine OD.still (wants_plain rfl) rfl (still_extract rfl ot rfl) ?_
        refine OD.still (wants_plain rfl) rfl (still_extract rfl ot rfl) ?_
        refine OD.alloc (ds := [_, _, _]) (wants_plain rfl) rfl rfl Tryd.zeroValue33 rfl (fun b33 => ?_)
        refine OD.store (k := 0) (cs' := [_, _, _]) (wants_plain rfl) rfl rfl ot rfl rfl ot rfl rfl Tryd.sizeOf33 rfl rfl rfl ?_
        refine OD.still (wants_plain rfl) rfl (still_as rfl ot) ?_
        refine OD.wk (Wk.as_ (n := 175) (l' := [(31, _), (32, _), (33, _), (34, _)]) (S' := [⟨b33, 33, 3, [_, _, _]⟩, ⟨b31, 33, 3, [_, _, _]⟩, ⟨b20, 33, 3, [_, _, _]⟩, ⟨b18, 33, 3, [_, _, _]⟩]) rfl rfl ⟨lk, lk, lk, lk, trivial⟩) ?_
        refine OD.nil ?_
        refine CD.seq ?_
        refine CD.region ?_
        refine OD.still (wants_plain rfl) rfl (still_mv rfl ot) ?_
        refine OD.still (wants_plain rfl) rfl (still_bin rfl ot opd_const bin_eql) ?_
        refine OD.still (wants_plain rfl) rfl (still_mv rfl ot) ?_
        refine OD.split (t := 165) lk (fun hg165 => ?_) (fun hg165 => ?_)
        ·have hg165' := hg165; (try simp only [V.cnd, ne_eq] at hg165')
         refine OD.skip (wants_F rfl rfl rfl lk (by first | rfl | assumption)) rfl ?_
         refine OD.skip (wants_F rfl rfl rfl lk (by first | rfl | assumption)) rfl ?_
         refine OD.skip (wants_F rfl rfl rfl lk (by first | rfl | assumption)) rfl ?_
         refine OD.skip (wants_F rfl rfl rfl lk (by first | rfl | assumption)) rfl ?_
         refine OD.skip (wants_J (b := false) rfl rfl rfl lk) rfl ?_
         refine OD.skip (wants_J (b := false) rfl rfl rfl lk) rfl ?_
         refine OD.skip (wants_J (b := false) rfl rfl rfl lk) rfl ?_
         refine OD.skip (wants_F rfl rfl rfl lk (by first | rfl | assumption)) rfl ?_
         refine OD.still (wants_plain rfl) rfl (still_pickT rfl ot (by first | rfl | assumption) opd_const) ?_
         refine OD.still (wants_plain rfl) rfl (still_as rfl ot) ?_
         refine OD.wk (Wk.as_ (n := 175) (l' := [(12, _)]) (S' := [⟨b33, 33, 3, [_, _, _]⟩, ⟨b31, 33, 3, [_, _, _]⟩, ⟨b20, 33, 3, [_, _, _]⟩, ⟨b18, 33, 3, [_, _, _]⟩]) rfl rfl ⟨lk, trivial⟩) ?_
         refine OD.nil ?_
         refine CD.ret ?_
         refine ⟨.inr rfl, _, [], List.nil_sublist _, ret_one Tryd.results4 (res_tmp (Nat.le_of_ble_eq_true rfl) lk), ?_⟩
         first | exact ⟨rfl, rfl⟩ | (refine ⟨vb ?_, rfl⟩; simp; done) | (rcases hE1v with h | h <;> first | (exfalso; omega) | (injection h with h1 h2; subst h1 h2; first | exact ⟨rfl, rfl⟩ | (refine ⟨vb ?_, rfl⟩; simp; done) | (exfalso; omega) | (exfalso; simp at *)))
        ·have hg165' := hg165; (try simp only [V.cnd, ne_eq] at hg165')
         refine OD.still (wants_T rfl rfl rfl lk (by first | rfl | assumption)) rfl (still_mv rfl ot) ?_
         refine OD.still (wants_T rfl rfl rfl lk (by first | rfl | assumption)) rfl (still_mv rfl ot) ?_
         refine OD.still (wants_T rfl rfl rfl lk (by first | rfl | assumption)) rfl (still_bin rfl ot ot bin_eql) ?_
         refine OD.still (wants_T rfl rfl rfl lk (by first | rfl | assumption)) rfl (still_mv rfl ot) ?_
         refine OD.split (t := 169) lk (fun hg169 => ?_) (fun hg169 => ?_)
         ·have hg169' := hg169; (try simp only [V.cnd, ne_eq] at hg169')
          refine OD.still (wants_T rfl rfl rfl lk (by first | rfl | assumption)) rfl (still_r1 (mk := Op.load 33) rfl ot (by first | exact ld_blks (k := 1) (ds := [_, _, _]) rfl rfl Tryd.isAgg33 Tryd.sizeOf33 rfl rfl | exact ld_fms cO_len Tryd.isAgg33 Tryd.sizeOf33 (by first | assumption | omega) | exact ld_fms cV_len Tryd.isAgg33 Tryd.sizeOf33 (by first | assumption | omega) | exact ld_fms cI_len Tryd.isAgg33 Tryd.sizeOf33 (by first | assumption | omega) | exact ld_rows (k := 0) cO_len rfl rfl rfl Tryd.isAgg33 Tryd.sizeOf33 (by first | assumption | omega) | exact ld_rows (k := 1) cO_len rfl rfl rfl Tryd.isAgg33 Tryd.sizeOf33 (by first | assumption | omega) | exact ld_rows (k := 2) cO_len rfl rfl rfl Tryd.isAgg33 Tryd.sizeOf33 (by first | assumption | omega) | exact ld_rows (k := 3) cO_len rfl rfl rfl Tryd.isAgg33 Tryd.sizeOf33 (by first | assumption | omega) | exact ld_rows (k := 0) cV_len rfl rfl rfl Tryd.isAgg33 Tryd.sizeOf33 (by first | assumption | omega) | exact ld_rows (k := 1) cV_len rfl rfl rfl Tryd.isAgg33 Tryd.sizeOf33 (by first | assumption | omega) | exact ld_rows (k := 2) cV_len rfl rfl rfl Tryd.isAgg33 Tryd.sizeOf33 (by first | assumption | omega) | exact ld_rows (k := 3) cV_len rfl rfl rfl Tryd.isAgg33 Tryd.sizeOf33 (by first | assumption | omega) | exact ld_rows (k := 0) cI_len rfl rfl rfl Tryd.isAgg33 Tryd.sizeOf33 (by first | assumption | omega) | exact ld_rows (k := 1) cI_len rfl rfl rfl Tryd.isAgg33 Tryd.sizeOf33 (by first | assumption | omega) | exact ld_rows (k := 2) cI_len rfl rfl rfl Tryd.isAgg33 Tryd.sizeOf33 (by first | assumption | omega) | exact ld_rows (k := 3) cI_len rfl rfl rfl Tryd.isAgg33 Tryd.sizeOf33 (by first | assumption | omega) | exact ld_is (ds := [_, _, _]) Tryd.isAgg33 Tryd.sizeOf33 rfl rfl)) ?_
          refine OD.still (wants_T rfl rfl rfl lk (by first | rfl | assumption)) rfl (still_r1 (mk := Op.load 33) rfl ot (by first | exact ld_blks (k := 0) (ds := [_, _, _]) rfl rfl Tryd.isAgg33 Tryd.sizeOf33 rfl rfl | exact ld_fms cO_len Tryd.isAgg33 Tryd.sizeOf33 (by first | assumption | omega) | exact ld_fms cV_len Tryd.isAgg33 Tryd.sizeOf33 (by first | assumption | omega) | exact ld_fms cI_len Tryd.isAgg33 Tryd.sizeOf33 (by first | assumption | omega) | exact ld_rows (k := 0) cO_len rfl rfl rfl Tryd.isAgg33 Tryd.sizeOf33 (by first | assumption | omega) | exact ld_rows (k := 1) cO_len rfl rfl rfl Tryd.isAgg33 Tryd.sizeOf33 (by first | assumption | omega) | exact ld_rows (k := 2) cO_len rfl rfl rfl Tryd.isAgg33 Tryd.sizeOf33 (by first | assumption | omega) | exact ld_rows (k := 3) cO_len rfl rfl rfl Tryd.isAgg33 Tryd.sizeOf33 (by first | assumption | omega) | exact ld_rows (k := 0) cV_len rfl rfl rfl Tryd.isAgg33 Tryd.sizeOf33 (by first | assumption | omega) | exact ld_rows (k := 1) cV_len rfl rfl rfl Tryd.isAgg33 Tryd.sizeOf33 (by first | assumption | omega) | exact ld_rows (k := 2) cV_len rfl rfl rfl Tryd.isAgg33 Tryd.sizeOf33 (by first | assumption | omega) | exact ld_rows (k := 3) cV_len rfl rfl rfl Tryd.isAgg33 Tryd.sizeOf33 (by first | assumption | omega) | exact ld_rows (k := 0) cI_len rfl rfl rfl Tryd.isAgg33 Tryd.sizeOf33 (by first | assumption | omega) | exact ld_rows (k := 1) cI_len rfl rfl rfl Tryd.isAgg33 Tryd.sizeOf33 (by first | assumption | omega) | exact ld_rows (k := 2) cI_len rfl rfl rfl Tryd.isAgg33 Tryd.sizeOf33 (by first | assumption | omega) | exact ld_rows (k := 3) cI_len rfl rfl rfl Tryd.isAgg33 Tryd.sizeOf33 (by first | assumption | omega) | exact ld_is (ds := [_, _, _]) Tryd.isAgg33 Tryd.sizeOf33 rfl rfl)) ?_
          refine OD.still (wants_T rfl rfl rfl lk (by first | rfl | assumption)) rfl (still_eqS (us := [_, _, _]) (us' := [_, _, _]) rfl ot ot Tryd.eqGuardType33 (Vl.eqs33 n1 o1)) ?_
          refine OD.still (wants_T rfl rfl rfl lk (by first | rfl | assumption)) rfl (still_pickT rfl ot (by first | rfl | assumption) ot) ?_
          refine OD.still (wants_plain rfl) rfl (still_pickF rfl ot (by first | rfl | assumption) ot) ?_
          refine OD.still (wants_plain rfl) rfl (still_as rfl ot) ?_
          refine OD.wk (Wk.as_ (n := 175) (l' := [(12, _)]) (S' := [⟨b33, 33, 3, [_, _, _]⟩, ⟨b31, 33, 3, [_, _, _]⟩, ⟨b20, 33, 3, [_, _, _]⟩, ⟨b18, 33, 3, [_, _, _]⟩]) rfl rfl ⟨lk, trivial⟩) ?_
          refine OD.nil ?_
          refine CD.ret ?_
          refine ⟨.inr rfl, _, [], List.nil_sublist _, ret_one Tryd.results4 (res_tmp (Nat.le_of_ble_eq_true rfl) lk), ?_⟩
          first | exact ⟨rfl, rfl⟩ | (refine ⟨vb ?_, rfl⟩; simp; done) | (rcases hE1v with h | h <;> first | (exfalso; omega) | (injection h with h1 h2; subst h1 h2; first | exact ⟨rfl, rfl⟩ | (refine ⟨vb ?_, rfl⟩; simp; done) | (exfalso; omega) | (exfalso; simp at *)))
         ·have hg169' := hg169; (try simp only [V.cnd, ne_eq] at hg169')
          refine OD.skip (wants_F rfl rfl rfl lk (by first | rfl | assumption)) rfl ?_
          refine OD.skip (wants_F rfl rfl rfl lk (by first | rfl | assumption)) rfl ?_
          refine OD.skip (wants_F rfl rfl rfl lk (by first | rfl | assumption)) rfl ?_
          refine OD.still (wants_T rfl rfl rfl lk (by first | rfl | assumption)) rfl (still_pickF rfl ot (by first | rfl | assumption) opd_const) ?_
          refine OD.still (wants_plain rfl) rfl (still_pickF rfl ot (by first | rfl | assumption) ot) ?_
          refine OD.still (wants_plain rfl) rfl (still_as rfl ot) ?_
          refine OD.wk (Wk.as_ (n := 175) (l' := [(12, _)]) (S' := [⟨b33, 33, 3, [_, _, _]⟩, ⟨b31, 33, 3, [_, _, _]⟩, ⟨b20, 33, 3, [_, _, _]⟩, ⟨b18, 33, 3, [_, _, _]⟩]) rfl rfl ⟨lk, trivial⟩) ?_
          refine OD.nil ?_
          refine CD.ret ?_
          refine ⟨.inr rfl, _, [], List.nil_sublist _, ret_one Tryd.results4 (res_tmp (Nat.le_of_ble_eq_true rfl) lk), ?_⟩
          first | exact ⟨rfl, rfl⟩ | (refine ⟨vb ?_, rfl⟩; simp; done) | (rcases hE1v with h | h <;> first | (exfalso; omega) | (injection h with h1 h2; subst h1 h2; first | exact ⟨rfl, rfl⟩ | (refine ⟨vb ?_, rfl⟩; simp; done) | (exfalso; omega) | (exfalso; simp at *)))

theorem walkEvalNot (t : Tw) (v : Value) (ok : t.Ok) (u : Tw) (v' : Value) (ok' : u.Ok) (a : Int) (wa : (Lit.int .i64 a).wf = true) (b : Int) (wb : (Lit.int .i64 b).wf = true) (s : ByteArray) (ws : s.size ≤ maxLen) (c : Int) (wc : (Lit.int .i64 c).wf = true) (w : World) (h1 : MarksTab w) (h2 : WordsTab w) (h3 : TypesTab w) (hv : Rep w (fun _ => False) (.agg t.cs) v) (hu : Rep w (fun _ => False) (.agg u.cs) v') :
  Calls Tryd.prog 4 #[v, v', .int .i64 a, .int .i64 b, .string s, .int .i64 c] w fun e w' => e = .returned (.bool true) ∧ Below w.heap.size w w' :=
 (not_vp tg1 tg2 tg3 t u ok ok' a (wf_bd wa).1 (wf_bd wa).2 b (wf_bd wb).1 (wf_bd wb).2 s ws c (wf_bd wc).1 (wf_bd wc).2).runL (tgx h1 h2 h3) (vs := [v, v', _, _, _, _]) (RepL.cons hv (RepL.cons hu (RepL.vs w _ [_, _, _, _])))

end Go.Proofs.YtfooincnmobemaaDoor.Ex
