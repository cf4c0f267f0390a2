/-
  What the proof of EvalNot leans on, part 6 of 7: walks of the program's functions at the level of values, and plain facts of what they compute.
-/
import Derived.Test.YtfooincnmobemaaDoorPEvalNot5
namespace Go.Proofs.YtfooincnmobemaaDoor.Ex
open Go.RowKit V Pk Vl Go.Proofs.YtfooincnmobemaaDoor.Nm Go.Proofs.YtfooincnmobemaaDoor.Pc
set_option linter.unusedVariables false
set_option linter.unusedSimpArgs false

def evalF (l : List ColL) (row : List Vl) (o : OpL) (a b : Vl) : Vl × Int :=
 if popsF o.k = 1 then oneF o.k a else if popsF o.k = 2 then twoF o.k a b else if o.k = 2 then (row.getD (colAt l o.nm).toNat noVl, 0) else (o.v, 0)
def foldV (l : List ColL) (row : List Vl) (ops : List OpL) : Vl × Int := foldG noVl (evalF l row) ops []
/-- What expr.Eval answers. -/
def evalR (l : List ColL) (row : List Vl) (ops : List OpL) : Vl × Int :=
  if rowF l row ≠ 0 then (noVl, rowF l row) else if (kindR l ops).2 ≠ 0 then (noVl, (kindR l ops).2) else foldV l row ops
theorem ok_no : noVl.Ok := ⟨by decide, by decide, by decide, by decide, Nat.zero_le _⟩
theorem ok_truth (b : Bool) : (truthV b).Ok := by unfold truthV; split <;> exact ⟨by decide, by decide, by decide, by decide, Nat.zero_le _⟩
theorem ok_int {n : Int} (h : -9223372036854775808 ≤ n ∧ n ≤ 9223372036854775807) : (⟨2, n, ⟨#[]⟩⟩ : Vl).Ok := ⟨by show -9223372036854775808 ≤ (2 : Int); decide, by show (2 : Int) ≤ _; decide, h.1, h.2, Nat.zero_le _⟩
theorem ok_logic {a b : Vl} {d : Int} (oa : a.Ok) (ob : b.Ok) : (logicF a b d).1.Ok := by
 unfold logicF
 repeat' split
 all_goals first | exact ok_no | exact oa | exact ob
theorem ok_two {k : Int} {a b : Vl} (oa : a.Ok) (ob : b.Ok) : (twoF k a b).1.Ok := by
 unfold twoF
 repeat' split
 all_goals first | exact ok_no | exact ok_logic oa ob | exact ok_truth _ | skip
 unfold arithF
 repeat' split
 all_goals exact ok_int (wr_bd _)
theorem ok_one {k : Int} {a : Vl} (oa : a.Ok) : (oneF k a).1.Ok := by
 unfold oneF
 repeat' split
 all_goals first | exact ok_no | exact oa | exact ok_truth _
theorem ok_eval {l : List ColL} {row : List Vl} (hr : ∀ v ∈ row, v.Ok) {o : OpL} (ho : o.v.Ok) {a b : Vl} (oa : a.Ok) (ob : b.Ok) : (evalF l row o a b).1.Ok := by
 unfold evalF
 split
 ·exact ok_one oa
 ·split
  ·exact ok_two oa ob
  ·split
   ·show (row.getD _ noVl).Ok
    rw [List.getD_eq_getElem?_getD]
    cases h : row[(colAt l o.nm).toNat]? with
    | none => exact ok_no
    | some v => exact hr v (List.mem_of_getElem? h)
   ·exact ho
theorem ok_getD {st : List Vl} (h : ∀ v ∈ st, v.Ok) (j : Nat) : (st.getD j noVl).Ok := by
 rw [List.getD_eq_getElem?_getD]
 cases hj : st[j]? with
 | none => exact ok_no
 | some v => exact h v (List.mem_of_getElem? hj)
theorem ok_argA {st : List Vl} (h : ∀ v ∈ st, v.Ok) (k : Int) : (argA noVl k st).Ok := by unfold argA; split; exact ok_getD h _; exact ok_no
theorem ok_argB {st : List Vl} (h : ∀ v ∈ st, v.Ok) (k : Int) : (argB noVl k st).Ok := by unfold argB; split; exact ok_getD h _; exact ok_no
theorem fold_each {α : Type} {z : α} {f : OpL → α → α → α × Int} : ∀ {l : List OpL} {st : List α}, (foldG z f l st).2 = 0 → ∀ o ∈ l, ∃ a b, (f o a b).2 = 0
 | [], _, _, o, ho => by cases ho
 | x :: r, st, h, o, ho => by
  rw [foldG] at h
  split at h
  ·rename_i hne; exact absurd h hne
  ·rename_i he
   rcases List.mem_cons.1 ho with rfl | ho
   ·exact ⟨_, _, Classical.not_not.1 he⟩
   ·exact fold_each h o ho
theorem kind_cols {l : List ColL} {ops : List OpL} (h : (kindF l ops).2 = 0) : ∀ o ∈ ops, o.k = 2 → 0 ≤ colAt l o.nm := fun o ho hk => by
 obtain ⟨a, b, he⟩ := fold_each h o ho
 unfold madeF at he
 rw [if_neg (by omega), if_pos hk] at he
 unfold kindAt at he
 split at he
 ·cases he
 ·omega
theorem row_len {l : List ColL} {row : List Vl} (h : rowF l row = 0) : row.length = l.length := by
 unfold rowF at h
 split at h
 ·rename_i h1; exact absurd h h1
 ·split at h
  ·cases h
  ·omega
theorem kind_ok {l : List ColL} {ops : List OpL} (h : (kindR l ops).2 = 0) : colsF l = 0 ∧ exprF ops = 0 ∧ kindR l ops = kindF l ops := by
 unfold kindR at h ⊢
 split at h
 ·rename_i h1; exact absurd h h1
 ·rename_i h1
  split at h
  ·rename_i h2; exact absurd h h2
  ·rename_i h2
   exact ⟨Classical.not_not.1 h1, Classical.not_not.1 h2, by rw [if_neg h1, if_neg h2]⟩
variable {G : List (Nat × List Value)}

set_option maxHeartbeats 4000000 in
set_option maxRecDepth 100000 in
theorem evalcl_vc (l : List ColL) (hl : l.length ≤ 1000) (row : List Vl) (hrl : row.length = l.length) (o : OpL) (hcol : o.k = 2 → 0 ≤ colAt l o.nm) (a b a' b' : Vl) (ha : a = a') (hb : b = b') (oa : a.Ok) (ob : b.Ok) (br bc : Nat) : VC Tryd.prog G 45 [.agg (cO o), .agg (cV a'), .agg (cV b'), .v (.pointer (some ⟨br, 0, none⟩)), .v (.pointer (some ⟨bc, 0, none⟩))] [⟨br, 36, 1, [.list 3 (row.flatMap cV) row.length]⟩, ⟨bc, 30, 1, [.list 2 (l.flatMap cC) l.length]⟩] (fun r S => r = vlD (evalF l row o a b) ∧ S = [⟨br, 36, 1, [.list 3 (row.flatMap cV) row.length]⟩, ⟨bc, 30, 1, [.list 2 (l.flatMap cC) l.length]⟩]) := by
 refine VC.body Tryd.func45 rfl Tryd.ntmps45 (Nat.le_of_ble_eq_true rfl) fun X0 w0 S00 => ?_
 subst ha hb
 have hov := one_vp (G := G) o.k a
 have htv := two_vp (G := G) o.k a b oa ob
 unfold vlD at hov htv ⊢
 unfold cV at hov htv
 unfold cO cV
 have hbd := idxG_bd (fun c : ColL => c.n.toList == o.nm.toList) l
 have hcd : colAt l o.nm = idxG (fun c : ColL => c.n.toList == o.nm.toList) l := rfl
 rw [← hcd] at hbd
 clear hcd
 refine CD.seq ?_
 refine CD.region ?_
 refine OD.box (ds := [_, _, _, _, _]) (wants_plain rfl) rfl rfl ot rfl rfl (fun b5 => ?_)
 refine OD.box (ds := [_, _, _]) (wants_plain rfl) rfl rfl ot rfl rfl (fun b6 => ?_)
 refine OD.box (ds := [_, _, _]) (wants_plain rfl) rfl rfl ot rfl rfl (fun b7 => ?_)
 refine OD.alloc (ds := [_, _, _]) (wants_plain rfl) rfl rfl Tryd.zeroValue33 rfl (fun b8 => ?_)
 refine OD.still (wants_plain rfl) rfl (still_as rfl opd_const) ?_
 refine OD.wk (Wk.as_ (n := 42) (l' := [(3, _), (4, _), (5, _), (6, _), (7, _), (8, _)]) (S' := [⟨b8, 33, 3, [_, _, _]⟩, ⟨b7, 33, 3, [_, _, _]⟩, ⟨b6, 33, 3, [_, _, _]⟩, ⟨b5, 40, 5, [_, _, _, _, _]⟩, ⟨br, 36, 1, [_]⟩, ⟨bc, 30, 1, [_]⟩]) rfl rfl ⟨lk, lk, lk, lk, lk, lk, trivial⟩) ?_
 refine OD.nil ?_
 refine CD.seq ?_
 refine CD.seq ?_
 refine CD.region ?_
 refine OD.still (wants_plain rfl) rfl (still_r1 (mk := fun y => Op.fieldAddr 40 y 0) rfl ot (by first | exact fa_ptr (off := 0) Tryd.runUnderlying40 rfl Tryd.sizeOf3 rfl | exact fa_iptr (off := 0) Tryd.runUnderlying40 rfl Tryd.sizeOf3 rfl)) ?_
 refine OD.still (wants_plain rfl) rfl (still_r1 (mk := Op.load 3) rfl ot (by first | exact ld_blk (k := 3) rfl rfl Tryd.isAgg3 rfl | exact ld_fm cV_len Tryd.isAgg3 (by first | assumption | omega) rfl | exact ld_fm0 cV_len Tryd.isAgg3 (by first | assumption | omega) rfl | exact ld_row (k := 0) cV_len rfl rfl rfl Tryd.isAgg3 (by first | assumption | omega) rfl | exact ld_row0 (k := 0) cV_len rfl rfl rfl Tryd.isAgg3 (by first | assumption | omega) rfl | exact ld_row (k := 1) cV_len rfl rfl rfl Tryd.isAgg3 (by first | assumption | omega) rfl | exact ld_row0 (k := 1) cV_len rfl rfl rfl Tryd.isAgg3 (by first | assumption | omega) rfl | exact ld_row (k := 2) cV_len rfl rfl rfl Tryd.isAgg3 (by first | assumption | omega) rfl | exact ld_row0 (k := 2) cV_len rfl rfl rfl Tryd.isAgg3 (by first | assumption | omega) rfl | exact ld_row (k := 3) cV_len rfl rfl rfl Tryd.isAgg3 (by first | assumption | omega) rfl | exact ld_row0 (k := 3) cV_len rfl rfl rfl Tryd.isAgg3 (by first | assumption | omega) rfl | exact ld_row (k := 4) cV_len rfl rfl rfl Tryd.isAgg3 (by first | assumption | omega) rfl | exact ld_row0 (k := 4) cV_len rfl rfl rfl Tryd.isAgg3 (by first | assumption | omega) rfl | exact ld_row (k := 5) cV_len rfl rfl rfl Tryd.isAgg3 (by first | assumption | omega) rfl | exact ld_row0 (k := 5) cV_len rfl rfl rfl Tryd.isAgg3 (by first | assumption | omega) rfl | exact ld_i Tryd.isAgg3 rfl)) ?_
 refine OD.callP (wants_plain rfl) rfl rfl rfl Tryd.call46 (works_vp o.k) ⟨ot, trivial⟩ ?_
 refine OD.wk (Wk.as_ (n := 42) (l' := [(3, _), (4, _), (5, _), (6, _), (7, _), (8, _), (12, _)]) (S' := [⟨b8, 33, 3, [_, _, _]⟩, ⟨b7, 33, 3, [_, _, _]⟩, ⟨b6, 33, 3, [_, _, _]⟩, ⟨b5, 40, 5, [_, _, _, _, _]⟩, ⟨br, 36, 1, [_]⟩, ⟨bc, 30, 1, [_]⟩]) rfl rfl ⟨lk, lk, lk, lk, lk, lk, lk, trivial⟩) ?_
 refine OD.nil ?_
 refine CD.block ?_
 refine CD.seq ?_
 refine CD.region ?_
 refine OD.still (wants_plain rfl) rfl (still_bin rfl ot opd_const bin_eql) ?_
 refine OD.still (wants_plain rfl) rfl (still_as rfl ot) ?_
 refine OD.wk (Wk.as_ (n := 42) (l' := [(3, _), (4, _), (5, _), (6, _), (7, _), (8, _), (12, _), (13, _)]) (S' := [⟨b8, 33, 3, [_, _, _]⟩, ⟨b7, 33, 3, [_, _, _]⟩, ⟨b6, 33, 3, [_, _, _]⟩, ⟨b5, 40, 5, [_, _, _, _, _]⟩, ⟨br, 36, 1, [_]⟩, ⟨bc, 30, 1, [_]⟩]) rfl rfl ⟨lk, lk, lk, lk, lk, lk, lk, lk, trivial⟩) ?_
 refine OD.nil ?_
 refine CD.cond ot (fun hc0 => ?_) (fun hc0 => ?_)
 ·have hc0' := hc0
  (try simp only [V.cnd, ne_eq] at hc0')
  have hres : evalF l row o a b = oneF o.k a := by unfold evalF; rw [if_pos (by omega)]
  refine CD.seq ?_
  refine CD.region ?_
  refine OD.still (wants_plain rfl) rfl (still_r1 (mk := fun y => Op.fieldAddr 40 y 0) rfl ot (by first | exact fa_ptr (off := 0) Tryd.runUnderlying40 rfl Tryd.sizeOf3 rfl | exact fa_iptr (off := 0) Tryd.runUnderlying40 rfl Tryd.sizeOf3 rfl)) ?_
  refine OD.still (wants_plain rfl) rfl (still_r1 (mk := Op.load 3) rfl ot (by first | exact ld_blk (k := 3) rfl rfl Tryd.isAgg3 rfl | exact ld_fm cV_len Tryd.isAgg3 (by first | assumption | omega) rfl | exact ld_fm0 cV_len Tryd.isAgg3 (by first | assumption | omega) rfl | exact ld_row (k := 0) cV_len rfl rfl rfl Tryd.isAgg3 (by first | assumption | omega) rfl | exact ld_row0 (k := 0) cV_len rfl rfl rfl Tryd.isAgg3 (by first | assumption | omega) rfl | exact ld_row (k := 1) cV_len rfl rfl rfl Tryd.isAgg3 (by first | assumption | omega) rfl | exact ld_row0 (k := 1) cV_len rfl rfl rfl Tryd.isAgg3 (by first | assumption | omega) rfl | exact ld_row (k := 2) cV_len rfl rfl rfl Tryd.isAgg3 (by first | assumption | omega) rfl | exact ld_row0 (k := 2) cV_len rfl rfl rfl Tryd.isAgg3 (by first | assumption | omega) rfl | exact ld_row (k := 3) cV_len rfl rfl rfl Tryd.isAgg3 (by first | assumption | omega) rfl | exact ld_row0 (k := 3) cV_len rfl rfl rfl Tryd.isAgg3 (by first | assumption | omega) rfl | exact ld_row (k := 4) cV_len rfl rfl rfl Tryd.isAgg3 (by first | assumption | omega) rfl | exact ld_row0 (k := 4) cV_len rfl rfl rfl Tryd.isAgg3 (by first | assumption | omega) rfl | exact ld_row (k := 5) cV_len rfl rfl rfl Tryd.isAgg3 (by first | assumption | omega) rfl | exact ld_row0 (k := 5) cV_len rfl rfl rfl Tryd.isAgg3 (by first | assumption | omega) rfl | exact ld_i Tryd.isAgg3 rfl)) ?_
  refine OD.still (wants_plain rfl) rfl (still_r1 (mk := Op.load 33) rfl ot (by first | exact ld_blks (k := 2) (ds := [_, _, _]) rfl rfl Tryd.isAgg33 Tryd.sizeOf33 rfl rfl | exact ld_fms cV_len Tryd.isAgg33 Tryd.sizeOf33 (by first | assumption | omega) | exact ld_rows (k := 0) cV_len rfl rfl rfl Tryd.isAgg33 Tryd.sizeOf33 (by first | assumption | omega) | exact ld_rows (k := 1) cV_len rfl rfl rfl Tryd.isAgg33 Tryd.sizeOf33 (by first | assumption | omega) | exact ld_rows (k := 2) cV_len rfl rfl rfl Tryd.isAgg33 Tryd.sizeOf33 (by first | assumption | omega) | exact ld_rows (k := 3) cV_len rfl rfl rfl Tryd.isAgg33 Tryd.sizeOf33 (by first | assumption | omega) | exact ld_rows (k := 4) cV_len rfl rfl rfl Tryd.isAgg33 Tryd.sizeOf33 (by first | assumption | omega) | exact ld_rows (k := 5) cV_len rfl rfl rfl Tryd.isAgg33 Tryd.sizeOf33 (by first | assumption | omega) | exact ld_is (ds := [_, _, _]) Tryd.isAgg33 Tryd.sizeOf33 rfl rfl)) ?_
  refine OD.callP (wants_plain rfl) rfl rfl rfl Tryd.call14 (hov) ⟨ot, ot, trivial⟩ ?_
  refine OD.still (wants_plain rfl) rfl (still_extract rfl ot rfl) ?_
  refine OD.still (wants_plain rfl) rfl (still_extract rfl ot rfl) ?_
  refine OD.store (k := 0) (cs' := [_, _, _]) (wants_plain rfl) rfl rfl ot rfl rfl ot rfl rfl Tryd.sizeOf33 rfl rfl rfl ?_
  refine OD.still (wants_plain rfl) rfl (still_as rfl ot) ?_
  refine OD.wk (Wk.as_ (n := 42) (l' := [(8, _), (9, _)]) (S' := [⟨b8, 33, 3, [_, _, _]⟩, ⟨b7, 33, 3, [_, _, _]⟩, ⟨b6, 33, 3, [_, _, _]⟩, ⟨b5, 40, 5, [_, _, _, _, _]⟩, ⟨br, 36, 1, [_]⟩, ⟨bc, 30, 1, [_]⟩]) rfl rfl ⟨lk, lk, trivial⟩) ?_
  refine OD.nil ?_
  refine CD.ret ?_
  refine ⟨.inr rfl, _, [⟨br, 36, 1, [.list 3 (row.flatMap cV) row.length]⟩, ⟨bc, 30, 1, [.list 2 (l.flatMap cC) l.length]⟩], (by repeat (first | exact List.Sublist.refl _ | exact List.nil_sublist _ | apply List.Sublist.cons)), ret_two Tryd.results45 (res_cells (k := 0) (ds := [_, _, _]) (Nat.le_of_ble_eq_true rfl) lk rfl rfl Tryd.isAgg33 Tryd.sizeOf33 rfl rfl) (res_tmp (Nat.le_of_ble_eq_true rfl) lk), ?_⟩
  rw [hres]; exact ⟨rfl, rfl⟩
 ·have hc0' := hc0
  (try simp only [V.cnd, ne_eq] at hc0')
  refine CD.seq ?_
  refine CD.region ?_
  refine OD.still (wants_plain rfl) rfl (still_bin rfl ot opd_const bin_eql) ?_
  refine OD.still (wants_plain rfl) rfl (still_as rfl ot) ?_
  refine OD.wk (Wk.as_ (n := 42) (l' := [(3, _), (4, _), (5, _), (6, _), (7, _), (8, _), (21, _)]) (S' := [⟨b8, 33, 3, [_, _, _]⟩, ⟨b7, 33, 3, [_, _, _]⟩, ⟨b6, 33, 3, [_, _, _]⟩, ⟨b5, 40, 5, [_, _, _, _, _]⟩, ⟨br, 36, 1, [_]⟩, ⟨bc, 30, 1, [_]⟩]) rfl rfl ⟨lk, lk, lk, lk, lk, lk, lk, trivial⟩) ?_
  refine OD.nil ?_
  refine CD.cond ot (fun hc1 => ?_) (fun hc1 => ?_)
  ·have hc1' := hc1
   (try simp only [V.cnd, ne_eq] at hc1')
   have hres : evalF l row o a b = twoF o.k a b := by unfold evalF; rw [if_neg (by omega), if_pos (by omega)]
   refine CD.seq ?_
   refine CD.region ?_
   refine OD.still (wants_plain rfl) rfl (still_r1 (mk := fun y => Op.fieldAddr 40 y 0) rfl ot (by first | exact fa_ptr (off := 0) Tryd.runUnderlying40 rfl Tryd.sizeOf3 rfl | exact fa_iptr (off := 0) Tryd.runUnderlying40 rfl Tryd.sizeOf3 rfl)) ?_
   refine OD.still (wants_plain rfl) rfl (still_r1 (mk := Op.load 3) rfl ot (by first | exact ld_blk (k := 3) rfl rfl Tryd.isAgg3 rfl | exact ld_fm cV_len Tryd.isAgg3 (by first | assumption | omega) rfl | exact ld_fm0 cV_len Tryd.isAgg3 (by first | assumption | omega) rfl | exact ld_row (k := 0) cV_len rfl rfl rfl Tryd.isAgg3 (by first | assumption | omega) rfl | exact ld_row0 (k := 0) cV_len rfl rfl rfl Tryd.isAgg3 (by first | assumption | omega) rfl | exact ld_row (k := 1) cV_len rfl rfl rfl Tryd.isAgg3 (by first | assumption | omega) rfl | exact ld_row0 (k := 1) cV_len rfl rfl rfl Tryd.isAgg3 (by first | assumption | omega) rfl | exact ld_row (k := 2) cV_len rfl rfl rfl Tryd.isAgg3 (by first | assumption | omega) rfl | exact ld_row0 (k := 2) cV_len rfl rfl rfl Tryd.isAgg3 (by first | assumption | omega) rfl | exact ld_row (k := 3) cV_len rfl rfl rfl Tryd.isAgg3 (by first | assumption | omega) rfl | exact ld_row0 (k := 3) cV_len rfl rfl rfl Tryd.isAgg3 (by first | assumption | omega) rfl | exact ld_row (k := 4) cV_len rfl rfl rfl Tryd.isAgg3 (by first | assumption | omega) rfl | exact ld_row0 (k := 4) cV_len rfl rfl rfl Tryd.isAgg3 (by first | assumption | omega) rfl | exact ld_row (k := 5) cV_len rfl rfl rfl Tryd.isAgg3 (by first | assumption | omega) rfl | exact ld_row0 (k := 5) cV_len rfl rfl rfl Tryd.isAgg3 (by first | assumption | omega) rfl | exact ld_i Tryd.isAgg3 rfl)) ?_
   refine OD.still (wants_plain rfl) rfl (still_r1 (mk := Op.load 33) rfl ot (by first | exact ld_blks (k := 2) (ds := [_, _, _]) rfl rfl Tryd.isAgg33 Tryd.sizeOf33 rfl rfl | exact ld_fms cV_len Tryd.isAgg33 Tryd.sizeOf33 (by first | assumption | omega) | exact ld_rows (k := 0) cV_len rfl rfl rfl Tryd.isAgg33 Tryd.sizeOf33 (by first | assumption | omega) | exact ld_rows (k := 1) cV_len rfl rfl rfl Tryd.isAgg33 Tryd.sizeOf33 (by first | assumption | omega) | exact ld_rows (k := 2) cV_len rfl rfl rfl Tryd.isAgg33 Tryd.sizeOf33 (by first | assumption | omega) | exact ld_rows (k := 3) cV_len rfl rfl rfl Tryd.isAgg33 Tryd.sizeOf33 (by first | assumption | omega) | exact ld_rows (k := 4) cV_len rfl rfl rfl Tryd.isAgg33 Tryd.sizeOf33 (by first | assumption | omega) | exact ld_rows (k := 5) cV_len rfl rfl rfl Tryd.isAgg33 Tryd.sizeOf33 (by first | assumption | omega) | exact ld_is (ds := [_, _, _]) Tryd.isAgg33 Tryd.sizeOf33 rfl rfl)) ?_
   refine OD.still (wants_plain rfl) rfl (still_r1 (mk := Op.load 33) rfl ot (by first | exact ld_blks (k := 1) (ds := [_, _, _]) rfl rfl Tryd.isAgg33 Tryd.sizeOf33 rfl rfl | exact ld_fms cV_len Tryd.isAgg33 Tryd.sizeOf33 (by first | assumption | omega) | exact ld_rows (k := 0) cV_len rfl rfl rfl Tryd.isAgg33 Tryd.sizeOf33 (by first | assumption | omega) | exact ld_rows (k := 1) cV_len rfl rfl rfl Tryd.isAgg33 Tryd.sizeOf33 (by first | assumption | omega) | exact ld_rows (k := 2) cV_len rfl rfl rfl Tryd.isAgg33 Tryd.sizeOf33 (by first | assumption | omega) | exact ld_rows (k := 3) cV_len rfl rfl rfl Tryd.isAgg33 Tryd.sizeOf33 (by first | assumption | omega) | exact ld_rows (k := 4) cV_len rfl rfl rfl Tryd.isAgg33 Tryd.sizeOf33 (by first | assumption | omega) | exact ld_rows (k := 5) cV_len rfl rfl rfl Tryd.isAgg33 Tryd.sizeOf33 (by first | assumption | omega) | exact ld_is (ds := [_, _, _]) Tryd.isAgg33 Tryd.sizeOf33 rfl rfl)) ?_
   refine OD.callP (wants_plain rfl) rfl rfl rfl Tryd.call13 (htv) ⟨ot, ot, ot, trivial⟩ ?_
   refine OD.still (wants_plain rfl) rfl (still_extract rfl ot rfl) ?_
   refine OD.still (wants_plain rfl) rfl (still_extract rfl ot rfl) ?_
   refine OD.store (k := 0) (cs' := [_, _, _]) (wants_plain rfl) rfl rfl ot rfl rfl ot rfl rfl Tryd.sizeOf33 rfl rfl rfl ?_
   refine OD.still (wants_plain rfl) rfl (still_as rfl ot) ?_
   refine OD.wk (Wk.as_ (n := 42) (l' := [(8, _), (9, _)]) (S' := [⟨b8, 33, 3, [_, _, _]⟩, ⟨b7, 33, 3, [_, _, _]⟩, ⟨b6, 33, 3, [_, _, _]⟩, ⟨b5, 40, 5, [_, _, _, _, _]⟩, ⟨br, 36, 1, [_]⟩, ⟨bc, 30, 1, [_]⟩]) rfl rfl ⟨lk, lk, trivial⟩) ?_
   refine OD.nil ?_
   refine CD.ret ?_
   refine ⟨.inr rfl, _, [⟨br, 36, 1, [.list 3 (row.flatMap cV) row.length]⟩, ⟨bc, 30, 1, [.list 2 (l.flatMap cC) l.length]⟩], (by repeat (first | exact List.Sublist.refl _ | exact List.nil_sublist _ | apply List.Sublist.cons)), ret_two Tryd.results45 (res_cells (k := 0) (ds := [_, _, _]) (Nat.le_of_ble_eq_true rfl) lk rfl rfl Tryd.isAgg33 Tryd.sizeOf33 rfl rfl) (res_tmp (Nat.le_of_ble_eq_true rfl) lk), ?_⟩
   rw [hres]; exact ⟨rfl, rfl⟩
  ·have hc1' := hc1
   (try simp only [V.cnd, ne_eq] at hc1')
   refine CD.skip ?_
   refine CD.seq ?_
   refine CD.seq ?_
   refine CD.region ?_
   refine OD.still (wants_plain rfl) rfl (still_r1 (mk := fun y => Op.fieldAddr 40 y 0) rfl ot (by first | exact fa_ptr (off := 0) Tryd.runUnderlying40 rfl Tryd.sizeOf3 rfl | exact fa_iptr (off := 0) Tryd.runUnderlying40 rfl Tryd.sizeOf3 rfl)) ?_
   refine OD.still (wants_plain rfl) rfl (still_r1 (mk := Op.load 3) rfl ot (by first | exact ld_blk (k := 3) rfl rfl Tryd.isAgg3 rfl | exact ld_fm cV_len Tryd.isAgg3 (by first | assumption | omega) rfl | exact ld_fm0 cV_len Tryd.isAgg3 (by first | assumption | omega) rfl | exact ld_row (k := 0) cV_len rfl rfl rfl Tryd.isAgg3 (by first | assumption | omega) rfl | exact ld_row0 (k := 0) cV_len rfl rfl rfl Tryd.isAgg3 (by first | assumption | omega) rfl | exact ld_row (k := 1) cV_len rfl rfl rfl Tryd.isAgg3 (by first | assumption | omega) rfl | exact ld_row0 (k := 1) cV_len rfl rfl rfl Tryd.isAgg3 (by first | assumption | omega) rfl | exact ld_row (k := 2) cV_len rfl rfl rfl Tryd.isAgg3 (by first | assumption | omega) rfl | exact ld_row0 (k := 2) cV_len rfl rfl rfl Tryd.isAgg3 (by first | assumption | omega) rfl | exact ld_row (k := 3) cV_len rfl rfl rfl Tryd.isAgg3 (by first | assumption | omega) rfl | exact ld_row0 (k := 3) cV_len rfl rfl rfl Tryd.isAgg3 (by first | assumption | omega) rfl | exact ld_row (k := 4) cV_len rfl rfl rfl Tryd.isAgg3 (by first | assumption | omega) rfl | exact ld_row0 (k := 4) cV_len rfl rfl rfl Tryd.isAgg3 (by first | assumption | omega) rfl | exact ld_row (k := 5) cV_len rfl rfl rfl Tryd.isAgg3 (by first | assumption | omega) rfl | exact ld_row0 (k := 5) cV_len rfl rfl rfl Tryd.isAgg3 (by first | assumption | omega) rfl | exact ld_i Tryd.isAgg3 rfl)) ?_
   refine OD.still (wants_plain rfl) rfl (still_bin rfl ot opd_const bin_eql) ?_
   refine OD.wk (Wk.as_ (n := 42) (l' := [(3, _), (4, _), (5, _), (8, _), (32, _)]) (S' := [⟨b8, 33, 3, [_, _, _]⟩, ⟨b7, 33, 3, [_, _, _]⟩, ⟨b6, 33, 3, [_, _, _]⟩, ⟨b5, 40, 5, [_, _, _, _, _]⟩, ⟨br, 36, 1, [_]⟩, ⟨bc, 30, 1, [_]⟩]) rfl rfl ⟨lk, lk, lk, lk, lk, trivial⟩) ?_
   refine OD.nil ?_
   refine CD.cond ot (fun hc2 => ?_) (fun hc2 => ?_)
   ·have hc2' := hc2
    (try simp only [V.cnd, ne_eq] at hc2')
    have hk2 : o.k = 2 := by omega
    have hc0 := hcol hk2
    have hci : (colAt l o.nm).toNat < row.length := by omega
    have hres : evalF l row o a b = (row[(colAt l o.nm).toNat], 0) := by unfold evalF; rw [if_neg (by omega), if_neg (by omega), if_pos hk2, List.getD_eq_getElem?_getD, List.getElem?_eq_getElem hci]; rfl
    refine CD.seq ?_
    refine CD.draw (bks (List.eraseIdx _ 0)) (by kernel_rfl) (fun _ h => (List.Sublist.map _ (List.eraseIdx_sublist _ 0)).subset h) ?_
    refine AD0.take (i := 0) rfl (by kernel_rfl) (by kernel_rfl) (by kernel_rfl) (by repeat (first | exact NP.body | apply NP.then | apply NP.cut | apply NP.inBlock | apply NP.round)) (wants_plain rfl) rfl (still_r1 (mk := Op.load 36) rfl ot (by first | exact ld_blk (k := 4) rfl rfl Tryd.isAgg36 rfl | exact ld_fm cV_len Tryd.isAgg36 (by first | assumption | omega) rfl | exact ld_fm0 cV_len Tryd.isAgg36 (by first | assumption | omega) rfl | exact ld_row (k := 0) cV_len rfl rfl rfl Tryd.isAgg36 (by first | assumption | omega) rfl | exact ld_row0 (k := 0) cV_len rfl rfl rfl Tryd.isAgg36 (by first | assumption | omega) rfl | exact ld_row (k := 1) cV_len rfl rfl rfl Tryd.isAgg36 (by first | assumption | omega) rfl | exact ld_row0 (k := 1) cV_len rfl rfl rfl Tryd.isAgg36 (by first | assumption | omega) rfl | exact ld_row (k := 2) cV_len rfl rfl rfl Tryd.isAgg36 (by first | assumption | omega) rfl | exact ld_row0 (k := 2) cV_len rfl rfl rfl Tryd.isAgg36 (by first | assumption | omega) rfl | exact ld_row (k := 3) cV_len rfl rfl rfl Tryd.isAgg36 (by first | assumption | omega) rfl | exact ld_row0 (k := 3) cV_len rfl rfl rfl Tryd.isAgg36 (by first | assumption | omega) rfl | exact ld_row (k := 4) cV_len rfl rfl rfl Tryd.isAgg36 (by first | assumption | omega) rfl | exact ld_row0 (k := 4) cV_len rfl rfl rfl Tryd.isAgg36 (by first | assumption | omega) rfl | exact ld_row (k := 5) cV_len rfl rfl rfl Tryd.isAgg36 (by first | assumption | omega) rfl | exact ld_row0 (k := 5) cV_len rfl rfl rfl Tryd.isAgg36 (by first | assumption | omega) rfl | exact ld_i Tryd.isAgg36 rfl)) (by first | exact trivial | exact safe_blk (k0 := 0) rfl rfl | exact safe_blk (k0 := 1) rfl rfl | exact safe_blk (k0 := 2) rfl rfl | exact safe_blk (k0 := 3) rfl rfl | exact safe_blk (k0 := 4) rfl rfl) ?_
    refine AD0.take (i := 1) rfl (by kernel_rfl) (by kernel_rfl) (by kernel_rfl) (by repeat (first | exact NP.body | apply NP.then | apply NP.cut | apply NP.inBlock | apply NP.round)) (wants_plain rfl) rfl (still_r1 (mk := Op.load 30) rfl ot (by first | exact ld_blk (k := 5) rfl rfl Tryd.isAgg30 rfl | exact ld_fm cV_len Tryd.isAgg30 (by first | assumption | omega) rfl | exact ld_fm0 cV_len Tryd.isAgg30 (by first | assumption | omega) rfl | exact ld_row (k := 0) cV_len rfl rfl rfl Tryd.isAgg30 (by first | assumption | omega) rfl | exact ld_row0 (k := 0) cV_len rfl rfl rfl Tryd.isAgg30 (by first | assumption | omega) rfl | exact ld_row (k := 1) cV_len rfl rfl rfl Tryd.isAgg30 (by first | assumption | omega) rfl | exact ld_row0 (k := 1) cV_len rfl rfl rfl Tryd.isAgg30 (by first | assumption | omega) rfl | exact ld_row (k := 2) cV_len rfl rfl rfl Tryd.isAgg30 (by first | assumption | omega) rfl | exact ld_row0 (k := 2) cV_len rfl rfl rfl Tryd.isAgg30 (by first | assumption | omega) rfl | exact ld_row (k := 3) cV_len rfl rfl rfl Tryd.isAgg30 (by first | assumption | omega) rfl | exact ld_row0 (k := 3) cV_len rfl rfl rfl Tryd.isAgg30 (by first | assumption | omega) rfl | exact ld_row (k := 4) cV_len rfl rfl rfl Tryd.isAgg30 (by first | assumption | omega) rfl | exact ld_row0 (k := 4) cV_len rfl rfl rfl Tryd.isAgg30 (by first | assumption | omega) rfl | exact ld_row (k := 5) cV_len rfl rfl rfl Tryd.isAgg30 (by first | assumption | omega) rfl | exact ld_row0 (k := 5) cV_len rfl rfl rfl Tryd.isAgg30 (by first | assumption | omega) rfl | exact ld_i Tryd.isAgg30 rfl)) (by first | exact trivial | exact safe_blk (k0 := 0) rfl rfl | exact safe_blk (k0 := 1) rfl rfl | exact safe_blk (k0 := 2) rfl rfl | exact safe_blk (k0 := 3) rfl rfl | exact safe_blk (k0 := 4) rfl rfl) ?_
    refine AD0.take (i := 2) rfl (by kernel_rfl) (by kernel_rfl) (by kernel_rfl) (by repeat (first | exact NP.body | apply NP.then | apply NP.cut | apply NP.inBlock | apply NP.round)) (wants_plain rfl) rfl (still_r1 (mk := fun y => Op.fieldAddr 40 y 2) rfl ot (by first | exact fa_ptr (off := 4) Tryd.runUnderlying40 rfl Tryd.sizeOf9 rfl | exact fa_iptr (off := 4) Tryd.runUnderlying40 rfl Tryd.sizeOf9 rfl)) (by exact trivial) ?_
    refine AD0.take (i := 3) rfl (by kernel_rfl) (by kernel_rfl) (by kernel_rfl) (by repeat (first | exact NP.body | apply NP.then | apply NP.cut | apply NP.inBlock | apply NP.round)) (wants_plain rfl) rfl (still_r1 (mk := Op.load 9) rfl ot (by first | exact ld_blk (k := 3) rfl rfl Tryd.isAgg9 rfl | exact ld_fm cV_len Tryd.isAgg9 (by first | assumption | omega) rfl | exact ld_fm0 cV_len Tryd.isAgg9 (by first | assumption | omega) rfl | exact ld_row (k := 0) cV_len rfl rfl rfl Tryd.isAgg9 (by first | assumption | omega) rfl | exact ld_row0 (k := 0) cV_len rfl rfl rfl Tryd.isAgg9 (by first | assumption | omega) rfl | exact ld_row (k := 1) cV_len rfl rfl rfl Tryd.isAgg9 (by first | assumption | omega) rfl | exact ld_row0 (k := 1) cV_len rfl rfl rfl Tryd.isAgg9 (by first | assumption | omega) rfl | exact ld_row (k := 2) cV_len rfl rfl rfl Tryd.isAgg9 (by first | assumption | omega) rfl | exact ld_row0 (k := 2) cV_len rfl rfl rfl Tryd.isAgg9 (by first | assumption | omega) rfl | exact ld_row (k := 3) cV_len rfl rfl rfl Tryd.isAgg9 (by first | assumption | omega) rfl | exact ld_row0 (k := 3) cV_len rfl rfl rfl Tryd.isAgg9 (by first | assumption | omega) rfl | exact ld_row (k := 4) cV_len rfl rfl rfl Tryd.isAgg9 (by first | assumption | omega) rfl | exact ld_row0 (k := 4) cV_len rfl rfl rfl Tryd.isAgg9 (by first | assumption | omega) rfl | exact ld_row (k := 5) cV_len rfl rfl rfl Tryd.isAgg9 (by first | assumption | omega) rfl | exact ld_row0 (k := 5) cV_len rfl rfl rfl Tryd.isAgg9 (by first | assumption | omega) rfl | exact ld_i Tryd.isAgg9 rfl)) (by first | exact trivial | exact safe_blk (k0 := 0) rfl rfl | exact safe_blk (k0 := 1) rfl rfl | exact safe_blk (k0 := 2) rfl rfl | exact safe_blk (k0 := 3) rfl rfl | exact safe_blk (k0 := 4) rfl rfl) ?_
    refine AD0.later rfl ?_
    refine AD.one (i := 4) (by kernel_rfl) ?_
    refine AStep.callP rfl (wants_plain rfl) rfl rfl rfl Tryd.call47 (find_vp l hl o.nm) ⟨ot, ot, trivial⟩ ?_
    refine AD.take (i := 5) rfl (by kernel_rfl) (by kernel_rfl) (by kernel_rfl) (by repeat (first | exact NP.body | apply NP.then | apply NP.cut | apply NP.inBlock | apply NP.round)) (wants_plain rfl) rfl (still_r2 (mk := Op.indexAddr 36) rfl ot ot (by first | exact ix_list Tryd.runUnderlying36 Tryd.sizeOf33 rfl (by first | assumption | omega) | exact ix_list (j := Int.toNat _) Tryd.runUnderlying36 Tryd.sizeOf33 (Int.toNat_of_nonneg (by omega)).symm (by omega) | exact ix_row Tryd.runUnderlying36 Tryd.sizeOf33 rfl (by first | assumption | omega) | exact ix_row (j := Int.toNat _) Tryd.runUnderlying36 Tryd.sizeOf33 (Int.toNat_of_nonneg (by omega)).symm (by omega))) (by exact trivial) (by intro h; cases h) ?_
    refine AD.one (i := 6) (by kernel_rfl) ?_
    refine AStep.still rfl (wants_plain rfl) rfl (still_r1 (mk := Op.load 33) rfl ot (by first | exact ld_blks (k := 0) (ds := [_, _, _]) rfl rfl Tryd.isAgg33 Tryd.sizeOf33 rfl rfl | exact ld_blks (k := 1) (ds := [_, _, _]) rfl rfl Tryd.isAgg33 Tryd.sizeOf33 rfl rfl | exact ld_blks (k := 2) (ds := [_, _, _]) rfl rfl Tryd.isAgg33 Tryd.sizeOf33 rfl rfl | exact ld_blks (k := 3) (ds := [_, _, _]) rfl rfl Tryd.isAgg33 Tryd.sizeOf33 rfl rfl | exact ld_fms cV_len Tryd.isAgg33 Tryd.sizeOf33 (by first | assumption | omega) | exact ld_rows (k := 0) cV_len rfl rfl rfl Tryd.isAgg33 Tryd.sizeOf33 (by first | assumption | omega) | exact ld_rows (k := 1) cV_len rfl rfl rfl Tryd.isAgg33 Tryd.sizeOf33 (by first | assumption | omega) | exact ld_rows (k := 2) cV_len rfl rfl rfl Tryd.isAgg33 Tryd.sizeOf33 (by first | assumption | omega) | exact ld_rows (k := 3) cV_len rfl rfl rfl Tryd.isAgg33 Tryd.sizeOf33 (by first | assumption | omega) | exact ld_rows (k := 4) cV_len rfl rfl rfl Tryd.isAgg33 Tryd.sizeOf33 (by first | assumption | omega) | exact ld_rows (k := 5) cV_len rfl rfl rfl Tryd.isAgg33 Tryd.sizeOf33 (by first | assumption | omega) | exact ld_is (ds := [_, _, _]) Tryd.isAgg33 Tryd.sizeOf33 rfl rfl)) ?_
    refine AD.one (i := 7) (by kernel_rfl) ?_
    refine AStep.store (k := 0) (cs' := [_, _, _]) rfl (wants_plain rfl) rfl rfl ot rfl rfl ot rfl rfl Tryd.sizeOf33 rfl rfl rfl (by intro b hb; simp [bks, St.put] at hb ⊢; try first | exact hb | simp [hb] | (rcases hb with hb | hb <;> simp [hb]) | (rcases hb with hb | hb | hb <;> simp [hb])) ?_
    refine AD.take (i := 8) rfl (by kernel_rfl) (by kernel_rfl) (by kernel_rfl) (by repeat (first | exact NP.body | apply NP.then | apply NP.cut | apply NP.inBlock | apply NP.round)) (wants_plain rfl) rfl (still_as rfl opd_const) (by exact trivial) (by intro h; cases h) ?_
    refine AD.wk (y := ⟨42, [(8, _), (9, _)], [⟨b8, 33, 3, [_, _, _]⟩, ⟨b7, 33, 3, [_, _, _]⟩, ⟨b6, 33, 3, [_, _, _]⟩, ⟨b5, 40, 5, [_, _, _, _, _]⟩, ⟨br, 36, 1, [_]⟩, ⟨bc, 30, 1, [_]⟩]⟩) (Wk.as_ rfl rfl ⟨lk, lk, trivial⟩) rfl ?_
    refine AD.done (by kernel_rfl) ?_
    refine CD.ret ?_
    refine ⟨.inr rfl, _, [⟨br, 36, 1, [.list 3 (row.flatMap cV) row.length]⟩, ⟨bc, 30, 1, [.list 2 (l.flatMap cC) l.length]⟩], (by repeat (first | exact List.Sublist.refl _ | exact List.nil_sublist _ | apply List.Sublist.cons)), ret_two Tryd.results45 (res_cells (k := 0) (ds := [_, _, _]) (Nat.le_of_ble_eq_true rfl) lk rfl rfl Tryd.isAgg33 Tryd.sizeOf33 rfl rfl) (res_tmp (Nat.le_of_ble_eq_true rfl) lk), ?_⟩
    rw [hres]; exact ⟨rfl, rfl⟩
   ·have hc2' := hc2
    (try simp only [V.cnd, ne_eq] at hc2')
    have hres : evalF l row o a b = (o.v, 0) := by unfold evalF; rw [if_neg (by omega), if_neg (by omega), if_neg (by omega)]
    refine CD.skip ?_
    refine CD.seq ?_
    refine CD.region ?_
    refine OD.still (wants_plain rfl) rfl (still_r1 (mk := fun y => Op.fieldAddr 40 y 1) rfl ot (by first | exact fa_ptr (off := 1) Tryd.runUnderlying40 rfl Tryd.sizeOf33 rfl | exact fa_iptr (off := 1) Tryd.runUnderlying40 rfl Tryd.sizeOf33 rfl)) ?_
    refine OD.still (wants_plain rfl) rfl (still_r1 (mk := Op.load 33) rfl ot (by first | exact ld_blks (k := 3) (ds := [_, _, _]) rfl rfl Tryd.isAgg33 Tryd.sizeOf33 rfl rfl | exact ld_fms cV_len Tryd.isAgg33 Tryd.sizeOf33 (by first | assumption | omega) | exact ld_rows (k := 0) cV_len rfl rfl rfl Tryd.isAgg33 Tryd.sizeOf33 (by first | assumption | omega) | exact ld_rows (k := 1) cV_len rfl rfl rfl Tryd.isAgg33 Tryd.sizeOf33 (by first | assumption | omega) | exact ld_rows (k := 2) cV_len rfl rfl rfl Tryd.isAgg33 Tryd.sizeOf33 (by first | assumption | omega) | exact ld_rows (k := 3) cV_len rfl rfl rfl Tryd.isAgg33 Tryd.sizeOf33 (by first | assumption | omega) | exact ld_rows (k := 4) cV_len rfl rfl rfl Tryd.isAgg33 Tryd.sizeOf33 (by first | assumption | omega) | exact ld_rows (k := 5) cV_len rfl rfl rfl Tryd.isAgg33 Tryd.sizeOf33 (by first | assumption | omega) | exact ld_is (ds := [_, _, _]) Tryd.isAgg33 Tryd.sizeOf33 rfl rfl)) ?_
    refine OD.store (k := 0) (cs' := [_, _, _]) (wants_plain rfl) rfl rfl ot rfl rfl ot rfl rfl Tryd.sizeOf33 rfl rfl rfl ?_
    refine OD.still (wants_plain rfl) rfl (still_as rfl opd_const) ?_
    refine OD.wk (Wk.as_ (n := 42) (l' := [(8, _), (9, _)]) (S' := [⟨b8, 33, 3, [_, _, _]⟩, ⟨b7, 33, 3, [_, _, _]⟩, ⟨b6, 33, 3, [_, _, _]⟩, ⟨b5, 40, 5, [_, _, _, _, _]⟩, ⟨br, 36, 1, [_]⟩, ⟨bc, 30, 1, [_]⟩]) rfl rfl ⟨lk, lk, trivial⟩) ?_
    refine OD.nil ?_
    refine CD.ret ?_
    refine ⟨.inr rfl, _, [⟨br, 36, 1, [.list 3 (row.flatMap cV) row.length]⟩, ⟨bc, 30, 1, [.list 2 (l.flatMap cC) l.length]⟩], (by repeat (first | exact List.Sublist.refl _ | exact List.nil_sublist _ | apply List.Sublist.cons)), ret_two Tryd.results45 (res_cells (k := 0) (ds := [_, _, _]) (Nat.le_of_ble_eq_true rfl) lk rfl rfl Tryd.isAgg33 Tryd.sizeOf33 rfl rfl) (res_tmp (Nat.le_of_ble_eq_true rfl) lk), ?_⟩
    rw [hres]; exact ⟨rfl, rfl⟩

theorem info33_Ex3 : (Tryd.prog.info? 33).map (fun i => (i.zero, i.size, i.bytes)) = some (some (.agg #[.int .i64 0, .int .i64 0, .string ⟨#[]⟩]), 3, 32) := by kernel_rfl

set_option maxHeartbeats 4000000 in
set_option maxRecDepth 100000 in
theorem foldV_vc (l : List ColL) (hl : l.length ≤ 1000) (row : List Vl) (hrl : row.length = l.length) (hrok : ∀ v ∈ row, v.Ok) (ops : List OpL) (hvo : ∀ o ∈ ops, o.v.Ok) (hcol : ∀ o ∈ ops, o.k = 2 → 0 ≤ colAt l o.nm) (h40 : ops.length ≤ 40) (hx : exprL 0 ops = 0) (br bc : Nat) : VC Tryd.prog G 44 [.list 5 (ops.flatMap cO) ops.length, .clo (.func 45) [.v (.pointer (some ⟨br, 0, none⟩)), .v (.pointer (some ⟨bc, 0, none⟩))]] [⟨br, 36, 1, [.list 3 (row.flatMap cV) row.length]⟩, ⟨bc, 30, 1, [.list 2 (l.flatMap cC) l.length]⟩] (fun r S => r = vlD (foldV l row ops) ∧ S = [⟨br, 36, 1, [.list 3 (row.flatMap cV) row.length]⟩, ⟨bc, 30, 1, [.list 2 (l.flatMap cC) l.length]⟩]) := by
 refine VC.body Tryd.func44 rfl Tryd.ntmps44 (Nat.le_of_ble_eq_true rfl) fun X0 w0 S00 => ?_
 unfold vlD
 refine CD.seq ?_
 refine CD.region ?_
 refine OD.alloc (ds := [_, _, _]) (wants_plain rfl) rfl rfl Tryd.zeroValue33 rfl (fun b4 => ?_)
 refine OD.still (wants_plain rfl) rfl (still_as rfl opd_const) ?_
 refine OD.wk (Wk.as_ (n := 64) (l' := [(0, _), (1, _), (4, _)]) (S' := [⟨b4, 33, 3, [_, _, _]⟩, ⟨br, 36, 1, [_]⟩, ⟨bc, 30, 1, [_]⟩]) rfl rfl ⟨lk, lk, lk, trivial⟩) ?_
 refine OD.nil ?_
 refine CD.seq ?_
 refine CD.region ?_
 refine OD.alloc (ds := [_, _, _]) (wants_plain rfl) rfl rfl Tryd.zeroValue33 rfl (fun b6 => ?_)
 refine OD.perm (perm_two (k := 2) (k' := 2) rfl rfl) ?_
 refine OD.wk (Wk.as_ (n := 64) (l' := [(0, _), (1, _), (4, _), (6, _)]) (S' := [⟨br, 36, 1, [_]⟩, ⟨bc, 30, 1, [_]⟩, ⟨b6, 33, 3, [_, _, _]⟩, ⟨b4, 33, 3, [_, _, _]⟩]) rfl rfl ⟨lk, lk, lk, lk, trivial⟩) ?_
 refine OD.nil ?_
 refine CD.seq ?_
 refine CD.region ?_
 refine OD.still (wants_plain rfl) rfl (still_as rfl opd_const) ?_
 refine OD.wk (Wk.as_ (n := 64) (l' := [(0, _), (1, _), (4, _), (6, _), (7, _)]) (S' := (⟨br, 36, 1, [_]⟩ :: ⟨bc, 30, 1, [_]⟩ :: ⟨b6, 33, 3, [_, _, _]⟩ :: ⟨b4, 33, 3, [_, _, _]⟩ :: [])) rfl rfl ⟨lk, lk, lk, lk, lk, trivial⟩) ?_
 refine OD.nil ?_
 refine CD.seq ?_
 refine CD.seq ?_
 refine CD.region ?_
 refine OD.still (wants_plain rfl) rfl (still_mv rfl ot) ?_
 refine OD.still (wants_plain rfl) rfl (still_r1 (mk := fun y => .call { callee := .builtin .len, args := #[y], argTypes := #[25] }) rfl ot (by first | exact len_list rfl Tryd.runUnderlying25 | exact len_row rfl Tryd.runUnderlying25)) ?_
 refine OD.still (wants_plain rfl) rfl (still_mv rfl opd_const) ?_
 refine OD.wk (Wk.as_ (n := 64) (l' := [(1, _), (4, _), (6, _), (7, _), (16, _), (17, _), (18, _)]) (S' := (⟨br, 36, 1, [_]⟩ :: ⟨bc, 30, 1, [_]⟩ :: ⟨b6, 33, 3, [_, _, _]⟩ :: ⟨b4, 33, 3, [_, _, _]⟩ :: [])) rfl rfl ⟨lk, lk, lk, lk, lk, lk, lk, trivial⟩) ?_
 refine OD.nil ?_
 refine CD.block ?_
 refine CD.wk (Wk.asS (n := 64) (l' := [(1, .clo (.func 45) [.v (.pointer (some ⟨br, 0, none⟩)), .v (.pointer (some ⟨bc, 0, none⟩))]), (4, .v (.pointer (some ⟨b4, 0, none⟩))), (6, .v (.pointer (some ⟨b6, 0, none⟩))), (7, .v (.slice none (([])).length (0))), (16, .list 5 (ops.flatMap cO) ops.length), (17, .v (.int .i64 (ops.length : Nat))), (18, .v (.int .i64 ((0) : Nat)))]) (S' := (⟨br, 36, 1, [.list 3 (row.flatMap cV) row.length]⟩ :: ⟨bc, 30, 1, [.list 2 (l.flatMap cC) l.length]⟩ :: ⟨b6, 33, 3, [.v (.int .i64 0), .v (.int .i64 0), .v (.string ⟨#[]⟩)]⟩ :: ⟨b4, 33, 3, [.v (.int .i64 0), .v (.int .i64 0), .v (.string ⟨#[]⟩)]⟩ :: ([]))) rfl (by first | exact List.Sublist.refl _ | (repeat (first | exact List.Sublist.refl _ | apply List.Sublist.cons_cons | apply List.Sublist.cons))) ⟨(by (repeat (first | exact look_hit | (apply look_at; focus (first | rfl | (simp; done) | (congr 2; omega) | (apply row_eq; rfl) | (apply row_eq; simp; done))) | (apply look_miss; focus rfl))); done), (by (repeat (first | exact look_hit | (apply look_at; focus (first | rfl | (simp; done) | (congr 2; omega) | (apply row_eq; rfl) | (apply row_eq; simp; done))) | (apply look_miss; focus rfl))); done), (by (repeat (first | exact look_hit | (apply look_at; focus (first | rfl | (simp; done) | (congr 2; omega) | (apply row_eq; rfl) | (apply row_eq; simp; done))) | (apply look_miss; focus rfl))); done), (by (repeat (first | exact look_hit | (apply look_at; focus (first | rfl | (simp; done) | (congr 2; omega) | (apply row_eq; rfl) | (apply row_eq; simp; done))) | (apply look_miss; focus rfl))); done), (by (repeat (first | exact look_hit | (apply look_at; focus (first | rfl | (simp; done) | (congr 2; omega) | (apply row_eq; rfl) | (apply row_eq; simp; done))) | (apply look_miss; focus rfl))); done), (by (repeat (first | exact look_hit | (apply look_at; focus (first | rfl | (simp; done) | (congr 2; omega) | (apply row_eq; rfl) | (apply row_eq; simp; done))) | (apply look_miss; focus rfl))); done), (by (repeat (first | exact look_hit | (apply look_at; focus (first | rfl | (simp; done) | (congr 2; omega) | (apply row_eq; rfl) | (apply row_eq; simp; done))) | (apply look_miss; focus rfl))); done), trivial⟩) (CD.loop (fun (gh__ : Nat × List Vl × Option Addr × Nat × List Blk) y__ => match gh__ with | (i, st, adh, cph, Sh) => (i ≤ ops.length) ∧ (st.length ≤ i) ∧ (exprL ((st.length : Nat) : Int) (ops.drop i) = 0) ∧ (foldV l row ops = foldG noVl (evalF l row) (ops.drop i) st) ∧ (∀ v ∈ st, v.Ok) ∧ (OwnL 33 3 ((st).flatMap cV) (st).length adh cph Sh) ∧ y__ = (⟨64, [(1, .clo (.func 45) [.v (.pointer (some ⟨br, 0, none⟩)), .v (.pointer (some ⟨bc, 0, none⟩))]), (4, .v (.pointer (some ⟨b4, 0, none⟩))), (6, .v (.pointer (some ⟨b6, 0, none⟩))), (7, .v (.slice adh (st).length cph)), (16, .list 5 (ops.flatMap cO) ops.length), (17, .v (.int .i64 (ops.length : Nat))), (18, .v (.int .i64 (i : Nat)))], (⟨br, 36, 1, [.list 3 (row.flatMap cV) row.length]⟩ :: ⟨bc, 30, 1, [.list 2 (l.flatMap cC) l.length]⟩ :: ⟨b6, 33, 3, [.v (.int .i64 0), .v (.int .i64 0), .v (.string ⟨#[]⟩)]⟩ :: ⟨b4, 33, 3, [.v (.int .i64 0), .v (.int .i64 0), .v (.string ⟨#[]⟩)]⟩ :: Sh)⟩ : St)) (fun (gh__ : Nat × List Vl × Option Addr × Nat × List Blk) => match gh__ with | (i, st, adh, cph, Sh) => ops.length - i) (0, [], none, 0, []) ⟨(Nat.zero_le _), (Nat.zero_le _), hx, rfl, (fun v hv => by cases hv), (OwnL.cast ownL_nil (by first | rfl | simp)), rfl⟩ ?_)
 rintro ⟨i, st, adh, cph, Sh⟩ _ ⟨hi, hst, hex, hinv, hok, hoh, rfl⟩
 refine CD.seq ?_
 refine CD.region ?_
 refine OD.still (wants_plain rfl) rfl (still_bin rfl ot ot bin_lss) ?_
 refine OD.wk (Wk.as_ (n := 64) (l' := [(1, _), (4, _), (6, _), (7, _), (16, _), (17, _), (18, _), (19, _)]) (S' := (⟨br, 36, 1, [_]⟩ :: ⟨bc, 30, 1, [_]⟩ :: ⟨b6, 33, 3, [_, _, _]⟩ :: ⟨b4, 33, 3, [_, _, _]⟩ :: Sh)) rfl rfl ⟨lk, lk, lk, lk, lk, lk, lk, lk, trivial⟩) ?_
 refine OD.nil ?_
 refine CD.seq ?_
 refine CD.cond ot (fun hc0 => ?_) (fun hc0 => ?_)
 ·have hc0' := hc0
  (try simp only [V.cnd, ne_eq] at hc0')
  have hlt : i < ops.length := by omega
  obtain ⟨he, hen⟩ := expr_next hlt hex
  obtain ⟨hpo, hk11, hlz, hnm⟩ := err_pops he
  have hpb := pops_bd ops[i].k
  have hnl : (st.take (st.length - (popsF ops[i].k).toNat) ++ [(evalF l row ops[i] (argA noVl ops[i].k st) (argB noVl ops[i].k st)).1]).length = st.length + 1 - (popsF ops[i].k).toNat := by rw [List.length_append, List.length_take, List.length_singleton]; omega
  have hnx : exprL (((st.take (st.length - (popsF ops[i].k).toNat) ++ [(evalF l row ops[i] (argA noVl ops[i].k st) (argB noVl ops[i].k st)).1]).length : Nat) : Int) (ops.drop (i + 1)) = 0 := by rw [hnl, show (((st.length + 1 - (popsF ops[i].k).toNat : Nat)) : Int) = (st.length : Int) + (1 - popsF ops[i].k) by omega]; exact hen
  have hnok : ∀ v ∈ st.take (st.length - (popsF ops[i].k).toNat) ++ [(evalF l row ops[i] (argA noVl ops[i].k st) (argB noVl ops[i].k st)).1], v.Ok := fun v hv => by rcases List.mem_append.1 hv with hv | hv; exact hok v (List.mem_of_mem_take hv); rw [List.mem_singleton] at hv; rw [hv]; exact ok_eval hrok (hvo _ (List.getElem_mem hlt)) (ok_argA hok _) (ok_argB hok _)
  refine CD.skip ?_
  refine CD.seq ?_
  refine CD.block ?_
  refine CD.seq ?_
  refine CD.region ?_
  refine OD.still (wants_plain rfl) rfl (still_r2 (mk := Op.indexAddr 25) rfl ot ot (by first | exact ix_list Tryd.runUnderlying25 Tryd.sizeOf40 rfl (by first | assumption | omega) | exact ix_list (j := Int.toNat _) Tryd.runUnderlying25 Tryd.sizeOf40 (Int.toNat_of_nonneg (by omega)).symm (by omega) | exact ix_row Tryd.runUnderlying25 Tryd.sizeOf40 rfl (by first | assumption | omega) | exact ix_row (j := Int.toNat _) Tryd.runUnderlying25 Tryd.sizeOf40 (Int.toNat_of_nonneg (by omega)).symm (by omega))) ?_
  refine OD.still (wants_plain rfl) rfl (still_r1 (mk := Op.load 40) rfl ot (by first | exact ld_blks (k := 0) (ds := [_, _, _, _, _]) rfl rfl Tryd.isAgg40 Tryd.sizeOf40 rfl rfl | exact ld_blks (k := 1) (ds := [_, _, _, _, _]) rfl rfl Tryd.isAgg40 Tryd.sizeOf40 rfl rfl | exact ld_blks (k := 2) (ds := [_, _, _, _, _]) rfl rfl Tryd.isAgg40 Tryd.sizeOf40 rfl rfl | exact ld_blks (k := 3) (ds := [_, _, _, _, _]) rfl rfl Tryd.isAgg40 Tryd.sizeOf40 rfl rfl | exact ld_fms cO_len Tryd.isAgg40 Tryd.sizeOf40 (by first | assumption | omega) | exact ld_fms cV_len Tryd.isAgg40 Tryd.sizeOf40 (by first | assumption | omega) | exact ld_rows (k := 0) cO_len rfl rfl rfl Tryd.isAgg40 Tryd.sizeOf40 (by first | assumption | omega) | exact ld_rows (k := 1) cO_len rfl rfl rfl Tryd.isAgg40 Tryd.sizeOf40 (by first | assumption | omega) | exact ld_rows (k := 2) cO_len rfl rfl rfl Tryd.isAgg40 Tryd.sizeOf40 (by first | assumption | omega) | exact ld_rows (k := 3) cO_len rfl rfl rfl Tryd.isAgg40 Tryd.sizeOf40 (by first | assumption | omega) | exact ld_rows (k := 0) cV_len rfl rfl rfl Tryd.isAgg40 Tryd.sizeOf40 (by first | assumption | omega) | exact ld_rows (k := 1) cV_len rfl rfl rfl Tryd.isAgg40 Tryd.sizeOf40 (by first | assumption | omega) | exact ld_rows (k := 2) cV_len rfl rfl rfl Tryd.isAgg40 Tryd.sizeOf40 (by first | assumption | omega) | exact ld_rows (k := 3) cV_len rfl rfl rfl Tryd.isAgg40 Tryd.sizeOf40 (by first | assumption | omega) | exact ld_is (ds := [_, _, _, _, _]) Tryd.isAgg40 Tryd.sizeOf40 rfl rfl)) ?_
  refine OD.alloc (ds := [_, _, _, _, _]) (wants_plain rfl) rfl rfl Tryd.zeroValue40 rfl (fun b9 => ?_)
  refine OD.store (k := 0) (cs' := [_, _, _, _, _]) (wants_plain rfl) rfl rfl ot rfl rfl ot rfl rfl Tryd.sizeOf40 rfl rfl rfl ?_
  refine OD.wk (Wk.as_ (n := 64) (l' := [(1, _), (4, _), (6, _), (7, _), (9, _), (16, _), (17, _), (18, _)]) (S' := (⟨b9, 40, 5, [_, _, _, _, _]⟩ :: ⟨br, 36, 1, [_]⟩ :: ⟨bc, 30, 1, [_]⟩ :: ⟨b6, 33, 3, [_, _, _]⟩ :: ⟨b4, 33, 3, [_, _, _]⟩ :: Sh)) rfl rfl ⟨lk, lk, lk, lk, lk, lk, lk, lk, trivial⟩) ?_
  refine OD.nil ?_
  refine CD.seq ?_
  refine CD.region ?_
  refine OD.alloc (ds := [_, _, _]) (wants_plain rfl) rfl rfl Tryd.zeroValue33 rfl (fun b10 => ?_)
  refine OD.alloc (ds := [_, _, _]) (wants_plain rfl) rfl rfl Tryd.zeroValue33 rfl (fun b11 => ?_)
  refine OD.wk (Wk.as_ (n := 64) (l' := [(1, _), (4, _), (6, _), (7, _), (9, _), (10, _), (11, _), (16, _), (17, _), (18, _)]) (S' := (⟨b11, 33, 3, [_, _, _]⟩ :: ⟨b10, 33, 3, [_, _, _]⟩ :: ⟨b9, 40, 5, [_, _, _, _, _]⟩ :: ⟨br, 36, 1, [_]⟩ :: ⟨bc, 30, 1, [_]⟩ :: ⟨b6, 33, 3, [_, _, _]⟩ :: ⟨b4, 33, 3, [_, _, _]⟩ :: Sh)) rfl rfl ⟨lk, lk, lk, lk, lk, lk, lk, lk, lk, lk, trivial⟩) ?_
  refine OD.nil ?_
  refine CD.seq ?_
  refine CD.region ?_
  refine OD.still (wants_plain rfl) rfl (still_r1 (mk := fun y => Op.fieldAddr 40 y 0) rfl ot (by first | exact fa_ptr (off := 0) Tryd.runUnderlying40 rfl Tryd.sizeOf3 rfl | exact fa_iptr (off := 0) Tryd.runUnderlying40 rfl Tryd.sizeOf3 rfl)) ?_
  refine OD.still (wants_plain rfl) rfl (still_r1 (mk := Op.load 3) rfl ot (by first | exact ld_blk (k := 2) rfl rfl Tryd.isAgg3 rfl | exact ld_fm cO_len Tryd.isAgg3 (by first | assumption | omega) rfl | exact ld_fm0 cO_len Tryd.isAgg3 (by first | assumption | omega) rfl | exact ld_fm cV_len Tryd.isAgg3 (by first | assumption | omega) rfl | exact ld_fm0 cV_len Tryd.isAgg3 (by first | assumption | omega) rfl | exact ld_row (k := 0) cO_len rfl rfl rfl Tryd.isAgg3 (by first | assumption | omega) rfl | exact ld_row0 (k := 0) cO_len rfl rfl rfl Tryd.isAgg3 (by first | assumption | omega) rfl | exact ld_row (k := 1) cO_len rfl rfl rfl Tryd.isAgg3 (by first | assumption | omega) rfl | exact ld_row0 (k := 1) cO_len rfl rfl rfl Tryd.isAgg3 (by first | assumption | omega) rfl | exact ld_row (k := 2) cO_len rfl rfl rfl Tryd.isAgg3 (by first | assumption | omega) rfl | exact ld_row0 (k := 2) cO_len rfl rfl rfl Tryd.isAgg3 (by first | assumption | omega) rfl | exact ld_row (k := 3) cO_len rfl rfl rfl Tryd.isAgg3 (by first | assumption | omega) rfl | exact ld_row0 (k := 3) cO_len rfl rfl rfl Tryd.isAgg3 (by first | assumption | omega) rfl | exact ld_row (k := 4) cO_len rfl rfl rfl Tryd.isAgg3 (by first | assumption | omega) rfl | exact ld_row0 (k := 4) cO_len rfl rfl rfl Tryd.isAgg3 (by first | assumption | omega) rfl | exact ld_row (k := 5) cO_len rfl rfl rfl Tryd.isAgg3 (by first | assumption | omega) rfl | exact ld_row0 (k := 5) cO_len rfl rfl rfl Tryd.isAgg3 (by first | assumption | omega) rfl | exact ld_row (k := 6) cO_len rfl rfl rfl Tryd.isAgg3 (by first | assumption | omega) rfl | exact ld_row0 (k := 6) cO_len rfl rfl rfl Tryd.isAgg3 (by first | assumption | omega) rfl | exact ld_row (k := 0) cV_len rfl rfl rfl Tryd.isAgg3 (by first | assumption | omega) rfl | exact ld_row0 (k := 0) cV_len rfl rfl rfl Tryd.isAgg3 (by first | assumption | omega) rfl | exact ld_row (k := 1) cV_len rfl rfl rfl Tryd.isAgg3 (by first | assumption | omega) rfl | exact ld_row0 (k := 1) cV_len rfl rfl rfl Tryd.isAgg3 (by first | assumption | omega) rfl | exact ld_row (k := 2) cV_len rfl rfl rfl Tryd.isAgg3 (by first | assumption | omega) rfl | exact ld_row0 (k := 2) cV_len rfl rfl rfl Tryd.isAgg3 (by first | assumption | omega) rfl | exact ld_row (k := 3) cV_len rfl rfl rfl Tryd.isAgg3 (by first | assumption | omega) rfl | exact ld_row0 (k := 3) cV_len rfl rfl rfl Tryd.isAgg3 (by first | assumption | omega) rfl | exact ld_row (k := 4) cV_len rfl rfl rfl Tryd.isAgg3 (by first | assumption | omega) rfl | exact ld_row0 (k := 4) cV_len rfl rfl rfl Tryd.isAgg3 (by first | assumption | omega) rfl | exact ld_row (k := 5) cV_len rfl rfl rfl Tryd.isAgg3 (by first | assumption | omega) rfl | exact ld_row0 (k := 5) cV_len rfl rfl rfl Tryd.isAgg3 (by first | assumption | omega) rfl | exact ld_row (k := 6) cV_len rfl rfl rfl Tryd.isAgg3 (by first | assumption | omega) rfl | exact ld_row0 (k := 6) cV_len rfl rfl rfl Tryd.isAgg3 (by first | assumption | omega) rfl | exact ld_i Tryd.isAgg3 rfl)) ?_
  refine OD.callP (wants_plain rfl) rfl rfl rfl Tryd.call46 (works_vp ops[i].k) ⟨ot, trivial⟩ ?_
  refine OD.still (wants_plain rfl) rfl (still_as rfl ot) ?_
  refine OD.wk (Wk.as_ (n := 64) (l' := [(1, _), (4, _), (6, _), (7, _), (9, _), (10, _), (11, _), (12, _), (16, _), (17, _), (18, _)]) (S' := (⟨b11, 33, 3, [_, _, _]⟩ :: ⟨b10, 33, 3, [_, _, _]⟩ :: ⟨b9, 40, 5, [_, _, _, _, _]⟩ :: ⟨br, 36, 1, [_]⟩ :: ⟨bc, 30, 1, [_]⟩ :: ⟨b6, 33, 3, [_, _, _]⟩ :: ⟨b4, 33, 3, [_, _, _]⟩ :: Sh)) rfl rfl ⟨lk, lk, lk, lk, lk, lk, lk, lk, lk, lk, lk, trivial⟩) ?_
  refine OD.nil ?_
  refine CD.seq ?_
  refine CD.region ?_
  refine OD.still (wants_plain rfl) rfl (still_mv rfl ot) ?_
  refine OD.still (wants_plain rfl) rfl (still_r1 (mk := fun y => .call { callee := .builtin .len, args := #[y], argTypes := #[36] }) rfl ot (by first | exact len_list rfl Tryd.runUnderlying36 | exact len_row rfl Tryd.runUnderlying36)) ?_
  refine OD.still (wants_plain rfl) rfl (still_mv rfl ot) ?_
  refine OD.still (wants_plain rfl) rfl (still_bin rfl ot ot (bin_sub (wrap_i64 (by omega) (by omega)))) ?_
  refine OD.still (wants_plain rfl) rfl (still_as rfl ot) ?_
  refine OD.wk (Wk.as_ (n := 64) (l' := [(1, _), (4, _), (6, _), (7, _), (9, _), (10, _), (11, _), (12, _), (13, _), (16, _), (17, _), (18, _)]) (S' := (⟨b11, 33, 3, [_, _, _]⟩ :: ⟨b10, 33, 3, [_, _, _]⟩ :: ⟨b9, 40, 5, [_, _, _, _, _]⟩ :: ⟨br, 36, 1, [_]⟩ :: ⟨bc, 30, 1, [_]⟩ :: ⟨b6, 33, 3, [_, _, _]⟩ :: ⟨b4, 33, 3, [_, _, _]⟩ :: Sh)) rfl rfl ⟨lk, lk, lk, lk, lk, lk, lk, lk, lk, lk, lk, lk, trivial⟩) ?_
  refine OD.nil ?_
  refine CD.seq ?_
  refine CD.seq ?_
  refine CD.region ?_
  refine OD.still (wants_plain rfl) rfl (still_mv rfl ot) ?_
  refine OD.still (wants_plain rfl) rfl (still_bin rfl ot opd_const bin_gtr) ?_
  refine OD.wk (Wk.as_ (n := 64) (l' := [(1, _), (4, _), (6, _), (7, _), (9, _), (10, _), (11, _), (12, _), (13, _), (16, _), (17, _), (18, _), (30, _)]) (S' := (⟨b11, 33, 3, [_, _, _]⟩ :: ⟨b10, 33, 3, [_, _, _]⟩ :: ⟨b9, 40, 5, [_, _, _, _, _]⟩ :: ⟨br, 36, 1, [_]⟩ :: ⟨bc, 30, 1, [_]⟩ :: ⟨b6, 33, 3, [_, _, _]⟩ :: ⟨b4, 33, 3, [_, _, _]⟩ :: Sh)) rfl rfl ⟨lk, lk, lk, lk, lk, lk, lk, lk, lk, lk, lk, lk, lk, trivial⟩) ?_
  refine OD.nil ?_
  refine CD.cond ot (fun hc1 => ?_) (fun hc1 => ?_)
  ·have hc1' := hc1
   (try simp only [V.cnd, ne_eq] at hc1')
   obtain ⟨bh, rfl, hhle, hhcap, rfl⟩ := hoh.pos (by omega)
   have hat : (st.length - (popsF ops[i].k).toNat) < st.length := by omega
   have ha : argA noVl ops[i].k st = st[(st.length - (popsF ops[i].k).toNat)] := by unfold argA; rw [if_pos (by omega), List.getD_eq_getElem?_getD, List.getElem?_eq_getElem hat]; rfl
   refine CD.region ?_
   refine OD.still (wants_plain rfl) rfl (still_mv rfl ot) ?_
   refine OD.still (wants_plain rfl) rfl (still_mv rfl ot) ?_
   refine OD.still (wants_plain rfl) rfl (still_r2 (mk := Op.indexAddr 36) rfl ot ot (by first | exact ix_list Tryd.runUnderlying36 Tryd.sizeOf33 (j := (st.length - (popsF ops[i].k).toNat)) (by omega) (by omega) | exact ix_row Tryd.runUnderlying36 Tryd.sizeOf33 (j := (st.length - (popsF ops[i].k).toNat)) (by omega) (by omega))) ?_
   refine OD.still (wants_plain rfl) rfl (still_r1 (mk := Op.load 33) rfl ot (ld_rows (k := 7) cV_len rfl rfl rfl Tryd.isAgg33 Tryd.sizeOf33 hat)) ?_
   refine OD.store (k := 1) (cs' := [_, _, _]) (wants_plain rfl) rfl rfl ot rfl rfl ot rfl rfl Tryd.sizeOf33 rfl rfl rfl ?_
   refine OD.wk (Wk.as_ (n := 64) (l' := [(1, _), (4, _), (6, _), (7, _), (9, _), (10, _), (11, _), (12, _), (13, _), (16, _), (17, _), (18, _)]) (S' := (⟨b11, 33, 3, [_, _, _]⟩ :: ⟨b10, 33, 3, [_, _, _]⟩ :: ⟨b9, 40, 5, [_, _, _, _, _]⟩ :: ⟨br, 36, 1, [_]⟩ :: ⟨bc, 30, 1, [_]⟩ :: ⟨b6, 33, 3, [_, _, _]⟩ :: ⟨b4, 33, 3, [_, _, _]⟩ :: [⟨bh, 33, cph * 3, List.flatMap cV st⟩])) rfl rfl ⟨lk, lk, lk, lk, lk, lk, lk, lk, lk, lk, lk, lk, trivial⟩) ?_
   refine OD.nil ?_
   refine CD.seq ?_
   refine CD.seq ?_
   refine CD.region ?_
   refine OD.still (wants_plain rfl) rfl (still_mv rfl ot) ?_
   refine OD.still (wants_plain rfl) rfl (still_bin rfl ot opd_const bin_gtr) ?_
   refine OD.wk (Wk.as_ (n := 64) (l' := [(1, _), (4, _), (6, _), (7, _), (9, _), (10, _), (11, _), (13, _), (16, _), (17, _), (18, _), (36, _)]) (S' := (⟨b11, 33, 3, [_, _, _]⟩ :: ⟨b10, 33, 3, [_, _, _]⟩ :: ⟨b9, 40, 5, [_, _, _, _, _]⟩ :: ⟨br, 36, 1, [_]⟩ :: ⟨bc, 30, 1, [_]⟩ :: ⟨b6, 33, 3, [_, _, _]⟩ :: ⟨b4, 33, 3, [_, _, _]⟩ :: [⟨bh, 33, cph * 3, List.flatMap cV st⟩])) rfl rfl ⟨lk, lk, lk, lk, lk, lk, lk, lk, lk, lk, lk, lk, trivial⟩) ?_
   refine OD.nil ?_
   refine CD.cond ot (fun hc2 => ?_) (fun hc2 => ?_)
   ·have hc2' := hc2
    (try simp only [V.cnd, ne_eq] at hc2')
    have hat1 : (st.length - (popsF ops[i].k).toNat) + 1 < st.length := by omega
    have hb : argB noVl ops[i].k st = st[(st.length - (popsF ops[i].k).toNat) + 1] := by unfold argB; rw [if_pos (by omega), List.getD_eq_getElem?_getD, List.getElem?_eq_getElem hat1]; rfl
    refine CD.region ?_
    refine OD.still (wants_plain rfl) rfl (still_mv rfl ot) ?_
    refine OD.still (wants_plain rfl) rfl (still_mv rfl ot) ?_
    refine OD.still (wants_plain rfl) rfl (still_bin rfl ot opd_const (bin_add (wrap_i64 (by omega) (by omega)))) ?_
    refine OD.still (wants_plain rfl) rfl (still_r2 (mk := Op.indexAddr 36) rfl ot ot (by first | exact ix_list Tryd.runUnderlying36 Tryd.sizeOf33 (j := (st.length - (popsF ops[i].k).toNat) + 1) (by omega) (by omega) | exact ix_row Tryd.runUnderlying36 Tryd.sizeOf33 (j := (st.length - (popsF ops[i].k).toNat) + 1) (by omega) (by omega))) ?_
    refine OD.still (wants_plain rfl) rfl (still_r1 (mk := Op.load 33) rfl ot (ld_rows (k := 7) cV_len rfl rfl rfl Tryd.isAgg33 Tryd.sizeOf33 hat1)) ?_
    refine OD.store (k := 0) (cs' := [_, _, _]) (wants_plain rfl) rfl rfl ot rfl rfl ot rfl rfl Tryd.sizeOf33 rfl rfl rfl ?_
    refine OD.wk (Wk.as_ (n := 64) (l' := [(1, _), (4, _), (6, _), (7, _), (9, _), (10, _), (11, _), (13, _), (16, _), (17, _), (18, _)]) (S' := (⟨b11, 33, 3, [_, _, _]⟩ :: ⟨b10, 33, 3, [_, _, _]⟩ :: ⟨b9, 40, 5, [_, _, _, _, _]⟩ :: ⟨br, 36, 1, [_]⟩ :: ⟨bc, 30, 1, [_]⟩ :: ⟨b6, 33, 3, [_, _, _]⟩ :: ⟨b4, 33, 3, [_, _, _]⟩ :: [⟨bh, 33, cph * 3, List.flatMap cV st⟩])) rfl rfl ⟨lk, lk, lk, lk, lk, lk, lk, lk, lk, lk, lk, trivial⟩) ?_
    refine OD.nil ?_
    refine CD.seq ?_
    refine CD.region ?_
    refine OD.still (wants_plain rfl) rfl (still_mv rfl ot) ?_
    refine OD.still (wants_plain rfl) rfl (still_r1 (mk := Op.load 40) rfl ot (by first | exact ld_blks (k := 2) (ds := [_, _, _, _, _]) rfl rfl Tryd.isAgg40 Tryd.sizeOf40 rfl rfl | exact ld_fms cO_len Tryd.isAgg40 Tryd.sizeOf40 (by first | assumption | omega) | exact ld_fms cV_len Tryd.isAgg40 Tryd.sizeOf40 (by first | assumption | omega) | exact ld_rows (k := 0) cO_len rfl rfl rfl Tryd.isAgg40 Tryd.sizeOf40 (by first | assumption | omega) | exact ld_rows (k := 1) cO_len rfl rfl rfl Tryd.isAgg40 Tryd.sizeOf40 (by first | assumption | omega) | exact ld_rows (k := 2) cO_len rfl rfl rfl Tryd.isAgg40 Tryd.sizeOf40 (by first | assumption | omega) | exact ld_rows (k := 3) cO_len rfl rfl rfl Tryd.isAgg40 Tryd.sizeOf40 (by first | assumption | omega) | exact ld_rows (k := 4) cO_len rfl rfl rfl Tryd.isAgg40 Tryd.sizeOf40 (by first | assumption | omega) | exact ld_rows (k := 5) cO_len rfl rfl rfl Tryd.isAgg40 Tryd.sizeOf40 (by first | assumption | omega) | exact ld_rows (k := 6) cO_len rfl rfl rfl Tryd.isAgg40 Tryd.sizeOf40 (by first | assumption | omega) | exact ld_rows (k := 0) cV_len rfl rfl rfl Tryd.isAgg40 Tryd.sizeOf40 (by first | assumption | omega) | exact ld_rows (k := 1) cV_len rfl rfl rfl Tryd.isAgg40 Tryd.sizeOf40 (by first | assumption | omega) | exact ld_rows (k := 2) cV_len rfl rfl rfl Tryd.isAgg40 Tryd.sizeOf40 (by first | assumption | omega) | exact ld_rows (k := 3) cV_len rfl rfl rfl Tryd.isAgg40 Tryd.sizeOf40 (by first | assumption | omega) | exact ld_rows (k := 4) cV_len rfl rfl rfl Tryd.isAgg40 Tryd.sizeOf40 (by first | assumption | omega) | exact ld_rows (k := 5) cV_len rfl rfl rfl Tryd.isAgg40 Tryd.sizeOf40 (by first | assumption | omega) | exact ld_rows (k := 6) cV_len rfl rfl rfl Tryd.isAgg40 Tryd.sizeOf40 (by first | assumption | omega) | exact ld_is (ds := [_, _, _, _, _]) Tryd.isAgg40 Tryd.sizeOf40 rfl rfl)) ?_
    refine OD.still (wants_plain rfl) rfl (still_r1 (mk := Op.load 33) rfl ot (by first | exact ld_blks (k := 1) (ds := [_, _, _]) rfl rfl Tryd.isAgg33 Tryd.sizeOf33 rfl rfl | exact ld_fms cO_len Tryd.isAgg33 Tryd.sizeOf33 (by first | assumption | omega) | exact ld_fms cV_len Tryd.isAgg33 Tryd.sizeOf33 (by first | assumption | omega) | exact ld_rows (k := 0) cO_len rfl rfl rfl Tryd.isAgg33 Tryd.sizeOf33 (by first | assumption | omega) | exact ld_rows (k := 1) cO_len rfl rfl rfl Tryd.isAgg33 Tryd.sizeOf33 (by first | assumption | omega) | exact ld_rows (k := 2) cO_len rfl rfl rfl Tryd.isAgg33 Tryd.sizeOf33 (by first | assumption | omega) | exact ld_rows (k := 3) cO_len rfl rfl rfl Tryd.isAgg33 Tryd.sizeOf33 (by first | assumption | omega) | exact ld_rows (k := 4) cO_len rfl rfl rfl Tryd.isAgg33 Tryd.sizeOf33 (by first | assumption | omega) | exact ld_rows (k := 5) cO_len rfl rfl rfl Tryd.isAgg33 Tryd.sizeOf33 (by first | assumption | omega) | exact ld_rows (k := 6) cO_len rfl rfl rfl Tryd.isAgg33 Tryd.sizeOf33 (by first | assumption | omega) | exact ld_rows (k := 0) cV_len rfl rfl rfl Tryd.isAgg33 Tryd.sizeOf33 (by first | assumption | omega) | exact ld_rows (k := 1) cV_len rfl rfl rfl Tryd.isAgg33 Tryd.sizeOf33 (by first | assumption | omega) | exact ld_rows (k := 2) cV_len rfl rfl rfl Tryd.isAgg33 Tryd.sizeOf33 (by first | assumption | omega) | exact ld_rows (k := 3) cV_len rfl rfl rfl Tryd.isAgg33 Tryd.sizeOf33 (by first | assumption | omega) | exact ld_rows (k := 4) cV_len rfl rfl rfl Tryd.isAgg33 Tryd.sizeOf33 (by first | assumption | omega) | exact ld_rows (k := 5) cV_len rfl rfl rfl Tryd.isAgg33 Tryd.sizeOf33 (by first | assumption | omega) | exact ld_rows (k := 6) cV_len rfl rfl rfl Tryd.isAgg33 Tryd.sizeOf33 (by first | assumption | omega) | exact ld_is (ds := [_, _, _]) Tryd.isAgg33 Tryd.sizeOf33 rfl rfl)) ?_
    refine OD.still (wants_plain rfl) rfl (still_r1 (mk := Op.load 33) rfl ot (by first | exact ld_blks (k := 0) (ds := [_, _, _]) rfl rfl Tryd.isAgg33 Tryd.sizeOf33 rfl rfl | exact ld_fms cO_len Tryd.isAgg33 Tryd.sizeOf33 (by first | assumption | omega) | exact ld_fms cV_len Tryd.isAgg33 Tryd.sizeOf33 (by first | assumption | omega) | exact ld_rows (k := 0) cO_len rfl rfl rfl Tryd.isAgg33 Tryd.sizeOf33 (by first | assumption | omega) | exact ld_rows (k := 1) cO_len rfl rfl rfl Tryd.isAgg33 Tryd.sizeOf33 (by first | assumption | omega) | exact ld_rows (k := 2) cO_len rfl rfl rfl Tryd.isAgg33 Tryd.sizeOf33 (by first | assumption | omega) | exact ld_rows (k := 3) cO_len rfl rfl rfl Tryd.isAgg33 Tryd.sizeOf33 (by first | assumption | omega) | exact ld_rows (k := 4) cO_len rfl rfl rfl Tryd.isAgg33 Tryd.sizeOf33 (by first | assumption | omega) | exact ld_rows (k := 5) cO_len rfl rfl rfl Tryd.isAgg33 Tryd.sizeOf33 (by first | assumption | omega) | exact ld_rows (k := 6) cO_len rfl rfl rfl Tryd.isAgg33 Tryd.sizeOf33 (by first | assumption | omega) | exact ld_rows (k := 0) cV_len rfl rfl rfl Tryd.isAgg33 Tryd.sizeOf33 (by first | assumption | omega) | exact ld_rows (k := 1) cV_len rfl rfl rfl Tryd.isAgg33 Tryd.sizeOf33 (by first | assumption | omega) | exact ld_rows (k := 2) cV_len rfl rfl rfl Tryd.isAgg33 Tryd.sizeOf33 (by first | assumption | omega) | exact ld_rows (k := 3) cV_len rfl rfl rfl Tryd.isAgg33 Tryd.sizeOf33 (by first | assumption | omega) | exact ld_rows (k := 4) cV_len rfl rfl rfl Tryd.isAgg33 Tryd.sizeOf33 (by first | assumption | omega) | exact ld_rows (k := 5) cV_len rfl rfl rfl Tryd.isAgg33 Tryd.sizeOf33 (by first | assumption | omega) | exact ld_rows (k := 6) cV_len rfl rfl rfl Tryd.isAgg33 Tryd.sizeOf33 (by first | assumption | omega) | exact ld_is (ds := [_, _, _]) Tryd.isAgg33 Tryd.sizeOf33 rfl rfl)) ?_
    refine OD.callv (f := 45) (args := [_, _, _]) (all := [_, _, _, _, _]) (Sf := [⟨br, 36, 1, [.list 3 (row.flatMap cV) row.length]⟩, ⟨bc, 30, 1, [.list 2 (l.flatMap cC) l.length]⟩]) (wants_plain rfl) rfl rfl ot Tryd.call45 (evalcl_vc l hl row hrl ops[i] (hcol _ (List.getElem_mem hlt)) _ _ (st[(st.length - (popsF ops[i].k).toNat)]) (st[(st.length - (popsF ops[i].k).toNat) + 1]) ha hb (ok_argA hok _) (ok_argB hok _) br bc) rfl ⟨ot, ot, ot, trivial⟩ (perm_two (k := 3) (k' := 3) rfl rfl) ?_
    rintro _ _ ⟨rfl, rfl⟩
    refine OD.still (wants_plain rfl) rfl (still_mv rfl ot) ?_
    refine OD.still (wants_plain rfl) rfl (still_extract rfl ot rfl) ?_
    refine OD.still (wants_plain rfl) rfl (still_extract rfl ot rfl) ?_
    refine OD.alloc (ds := [_, _, _]) (wants_plain rfl) rfl rfl Tryd.zeroValue33 rfl (fun b14 => ?_)
    refine OD.store (k := 0) (cs' := [_, _, _]) (wants_plain rfl) rfl rfl ot rfl rfl ot rfl rfl Tryd.sizeOf33 rfl rfl rfl ?_
    refine OD.still (wants_plain rfl) rfl (still_as rfl ot) ?_
    refine OD.wk (Wk.as_ (n := 64) (l' := [(1, _), (4, _), (6, _), (7, _), (13, _), (14, _), (15, _), (16, _), (17, _), (18, _)]) (S' := (⟨b14, 33, 3, [_, _, _]⟩ :: ⟨br, 36, 1, [_]⟩ :: ⟨bc, 30, 1, [_]⟩ :: ⟨b11, 33, 3, [_, _, _]⟩ :: ⟨b10, 33, 3, [_, _, _]⟩ :: ⟨b9, 40, 5, [_, _, _, _, _]⟩ :: ⟨b6, 33, 3, [_, _, _]⟩ :: ⟨b4, 33, 3, [_, _, _]⟩ :: [⟨bh, 33, cph * 3, List.flatMap cV st⟩])) rfl rfl ⟨lk, lk, lk, lk, lk, lk, lk, lk, lk, lk, trivial⟩) ?_
    refine OD.nil ?_
    refine CD.seq ?_
    refine CD.seq ?_
    refine CD.region ?_
    refine OD.still (wants_plain rfl) rfl (still_mv rfl ot) ?_
    refine OD.still (wants_plain rfl) rfl (still_bin rfl ot opd_const bin_neq) ?_
    refine OD.wk (Wk.as_ (n := 64) (l' := [(1, _), (4, _), (6, _), (7, _), (13, _), (14, _), (15, _), (16, _), (17, _), (18, _), (51, _)]) (S' := (⟨b14, 33, 3, [_, _, _]⟩ :: ⟨br, 36, 1, [_]⟩ :: ⟨bc, 30, 1, [_]⟩ :: ⟨b11, 33, 3, [_, _, _]⟩ :: ⟨b10, 33, 3, [_, _, _]⟩ :: ⟨b9, 40, 5, [_, _, _, _, _]⟩ :: ⟨b6, 33, 3, [_, _, _]⟩ :: ⟨b4, 33, 3, [_, _, _]⟩ :: [⟨bh, 33, cph * 3, List.flatMap cV st⟩])) rfl rfl ⟨lk, lk, lk, lk, lk, lk, lk, lk, lk, lk, lk, trivial⟩) ?_
    refine OD.nil ?_
    refine CD.cond ot (fun hc3 => ?_) (fun hc3 => ?_)
    ·have hc3' := hc3
     (try simp only [V.cnd, ne_eq] at hc3')
     have hz : (evalF l row ops[i] (argA noVl ops[i].k st) (argB noVl ops[i].k st)).2 ≠ 0 := by simpa using hc3
     have hres := hinv.trans (fold_no hlt hz)
     refine CD.seq ?_
     refine CD.region ?_
     refine OD.still (wants_plain rfl) rfl (still_r1 (mk := Op.load 33) rfl ot (by first | exact ld_blks (k := 6) (ds := [_, _, _]) rfl rfl Tryd.isAgg33 Tryd.sizeOf33 rfl rfl | exact ld_fms cO_len Tryd.isAgg33 Tryd.sizeOf33 (by first | assumption | omega) | exact ld_fms cV_len Tryd.isAgg33 Tryd.sizeOf33 (by first | assumption | omega) | exact ld_rows (k := 0) cO_len rfl rfl rfl Tryd.isAgg33 Tryd.sizeOf33 (by first | assumption | omega) | exact ld_rows (k := 1) cO_len rfl rfl rfl Tryd.isAgg33 Tryd.sizeOf33 (by first | assumption | omega) | exact ld_rows (k := 2) cO_len rfl rfl rfl Tryd.isAgg33 Tryd.sizeOf33 (by first | assumption | omega) | exact ld_rows (k := 3) cO_len rfl rfl rfl Tryd.isAgg33 Tryd.sizeOf33 (by first | assumption | omega) | exact ld_rows (k := 4) cO_len rfl rfl rfl Tryd.isAgg33 Tryd.sizeOf33 (by first | assumption | omega) | exact ld_rows (k := 5) cO_len rfl rfl rfl Tryd.isAgg33 Tryd.sizeOf33 (by first | assumption | omega) | exact ld_rows (k := 6) cO_len rfl rfl rfl Tryd.isAgg33 Tryd.sizeOf33 (by first | assumption | omega) | exact ld_rows (k := 7) cO_len rfl rfl rfl Tryd.isAgg33 Tryd.sizeOf33 (by first | assumption | omega) | exact ld_rows (k := 0) cV_len rfl rfl rfl Tryd.isAgg33 Tryd.sizeOf33 (by first | assumption | omega) | exact ld_rows (k := 1) cV_len rfl rfl rfl Tryd.isAgg33 Tryd.sizeOf33 (by first | assumption | omega) | exact ld_rows (k := 2) cV_len rfl rfl rfl Tryd.isAgg33 Tryd.sizeOf33 (by first | assumption | omega) | exact ld_rows (k := 3) cV_len rfl rfl rfl Tryd.isAgg33 Tryd.sizeOf33 (by first | assumption | omega) | exact ld_rows (k := 4) cV_len rfl rfl rfl Tryd.isAgg33 Tryd.sizeOf33 (by first | assumption | omega) | exact ld_rows (k := 5) cV_len rfl rfl rfl Tryd.isAgg33 Tryd.sizeOf33 (by first | assumption | omega) | exact ld_rows (k := 6) cV_len rfl rfl rfl Tryd.isAgg33 Tryd.sizeOf33 (by first | assumption | omega) | exact ld_rows (k := 7) cV_len rfl rfl rfl Tryd.isAgg33 Tryd.sizeOf33 (by first | assumption | omega) | exact ld_is (ds := [_, _, _]) Tryd.isAgg33 Tryd.sizeOf33 rfl rfl)) ?_
     refine OD.still (wants_plain rfl) rfl (still_mv rfl ot) ?_
     refine OD.store (k := 7) (cs' := [_, _, _]) (wants_plain rfl) rfl rfl ot rfl rfl ot rfl rfl Tryd.sizeOf33 rfl rfl rfl ?_
     refine OD.still (wants_plain rfl) rfl (still_as rfl ot) ?_
     refine OD.wk (Wk.as_ (n := 64) (l' := [(4, _), (5, _)]) (S' := (⟨b14, 33, 3, [_, _, _]⟩ :: ⟨br, 36, 1, [_]⟩ :: ⟨bc, 30, 1, [_]⟩ :: ⟨b11, 33, 3, [_, _, _]⟩ :: ⟨b10, 33, 3, [_, _, _]⟩ :: ⟨b9, 40, 5, [_, _, _, _, _]⟩ :: ⟨b6, 33, 3, [_, _, _]⟩ :: ⟨b4, 33, 3, [_, _, _]⟩ :: [⟨bh, 33, cph * 3, List.flatMap cV st⟩])) rfl rfl ⟨lk, lk, trivial⟩) ?_
     refine OD.nil ?_
     refine CD.ret ?_
     refine ⟨.inr rfl, _, [⟨br, 36, 1, [.list 3 (row.flatMap cV) row.length]⟩, ⟨bc, 30, 1, [.list 2 (l.flatMap cC) l.length]⟩], (by repeat (first | exact List.Sublist.refl _ | exact List.nil_sublist _ | (apply List.Sublist.cons_cons; apply List.Sublist.cons_cons; exact List.nil_sublist _) | apply List.Sublist.cons)), ret_two Tryd.results44 (res_cells (k := 7) (ds := [_, _, _]) (Nat.le_of_ble_eq_true rfl) lk rfl rfl Tryd.isAgg33 Tryd.sizeOf33 rfl rfl) (res_tmp (Nat.le_of_ble_eq_true rfl) lk), ?_⟩
     rw [hres]; exact ⟨rfl, rfl⟩
    ·have hc3' := hc3
     (try simp only [V.cnd, ne_eq] at hc3')
     have hz : (evalF l row ops[i] (argA noVl ops[i].k st) (argB noVl ops[i].k st)).2 = 0 := by simpa using hc3
     refine CD.skip ?_
     refine CD.cutL (k := (st.length - (popsF ops[i].k).toNat)) (ls := (st)) (Sq := [⟨bh, 33, cph * 3, List.flatMap cV st⟩]) cV_len (by omega) (ownL_row (g := cV) (ls := st) hhle hhcap) (perm_r11 (A := [_, _, _, _, _, _, _, _])) (fun Sc16 hoc16 => ?_)
     refine CD.perm (perm_q11 (A := [_, _, _, _, _, _, _, _])) ?_
     refine CD.draw (bks (List.take 1 _)) (by kernel_rfl) (fun _ h => (List.Sublist.map _ (List.take_sublist _ _)).subset h) ?_
     refine AD0.take (i := 0) rfl (by kernel_rfl) (by kernel_rfl) (by kernel_rfl) (by repeat (first | exact NP.body | apply NP.then | apply NP.cut | apply NP.inBlock | apply NP.round)) (wants_plain rfl) rfl (still_mv rfl ot) (by exact trivial) ?_
     refine AD0.take (i := 1) rfl (by kernel_rfl) (by kernel_rfl) (by kernel_rfl) (by repeat (first | exact NP.body | apply NP.then | apply NP.cut | apply NP.inBlock | apply NP.round)) (wants_plain rfl) rfl (still_mv rfl ot) (by exact trivial) ?_
     first | refine AD0.take (i := 2) rfl (by kernel_rfl) (by kernel_rfl) (by kernel_rfl) (by repeat (first | exact NP.body | apply NP.then | apply NP.cut | apply NP.inBlock | apply NP.round)) (wants_plain rfl) rfl (still_oslice (n := st.length) (k := (List.take (st.length - (popsF ops[i].k).toNat) st).length) (cs := st.flatMap cV) rfl ot rfl ⟨_, _, ot, by rw [List.length_take]; omega⟩ Tryd.runUnderlying36 Tryd.sizeOf33 (by rw [List.length_take]; omega) hoh) (by exact trivial) ?_ | refine AD0.take (i := 2) rfl (by kernel_rfl) (by kernel_rfl) (by kernel_rfl) (by repeat (first | exact NP.body | apply NP.then | apply NP.cut | apply NP.inBlock | apply NP.round)) (wants_plain rfl) rfl (still_oslice (n := st.length) (k := (List.take (st.length - (popsF ops[i].k).toNat) st).length) (cs := st.flatMap cV) rfl ot rfl ⟨_, _, ot, by rw [List.length_take]; omega⟩ Tryd.runUnderlying36 Tryd.sizeOf33 (by rw [List.length_take]; omega) (ownL_row (e := 33) (g := cV) (ls := st) hhle hhcap)) (by exact trivial) ?_
     refine AD0.take (i := 3) rfl (by kernel_rfl) (by kernel_rfl) (by kernel_rfl) (by repeat (first | exact NP.body | apply NP.then | apply NP.cut | apply NP.inBlock | apply NP.round)) (wants_plain rfl) rfl (still_r1 (mk := Op.load 33) rfl ot (by first | exact ld_blks (k := 0) (ds := [_, _, _]) rfl rfl Tryd.isAgg33 Tryd.sizeOf33 rfl rfl | exact ld_fms cO_len Tryd.isAgg33 Tryd.sizeOf33 (by first | assumption | omega) | exact ld_fms cV_len Tryd.isAgg33 Tryd.sizeOf33 (by first | assumption | omega) | exact ld_rows (k := 0) cO_len rfl rfl rfl Tryd.isAgg33 Tryd.sizeOf33 (by first | assumption | omega) | exact ld_rows (k := 1) cO_len rfl rfl rfl Tryd.isAgg33 Tryd.sizeOf33 (by first | assumption | omega) | exact ld_rows (k := 2) cO_len rfl rfl rfl Tryd.isAgg33 Tryd.sizeOf33 (by first | assumption | omega) | exact ld_rows (k := 3) cO_len rfl rfl rfl Tryd.isAgg33 Tryd.sizeOf33 (by first | assumption | omega) | exact ld_rows (k := 4) cO_len rfl rfl rfl Tryd.isAgg33 Tryd.sizeOf33 (by first | assumption | omega) | exact ld_rows (k := 5) cO_len rfl rfl rfl Tryd.isAgg33 Tryd.sizeOf33 (by first | assumption | omega) | exact ld_rows (k := 6) cO_len rfl rfl rfl Tryd.isAgg33 Tryd.sizeOf33 (by first | assumption | omega) | exact ld_rows (k := 7) cO_len rfl rfl rfl Tryd.isAgg33 Tryd.sizeOf33 (by first | assumption | omega) | exact ld_rows (k := 0) cV_len rfl rfl rfl Tryd.isAgg33 Tryd.sizeOf33 (by first | assumption | omega) | exact ld_rows (k := 1) cV_len rfl rfl rfl Tryd.isAgg33 Tryd.sizeOf33 (by first | assumption | omega) | exact ld_rows (k := 2) cV_len rfl rfl rfl Tryd.isAgg33 Tryd.sizeOf33 (by first | assumption | omega) | exact ld_rows (k := 3) cV_len rfl rfl rfl Tryd.isAgg33 Tryd.sizeOf33 (by first | assumption | omega) | exact ld_rows (k := 4) cV_len rfl rfl rfl Tryd.isAgg33 Tryd.sizeOf33 (by first | assumption | omega) | exact ld_rows (k := 5) cV_len rfl rfl rfl Tryd.isAgg33 Tryd.sizeOf33 (by first | assumption | omega) | exact ld_rows (k := 6) cV_len rfl rfl rfl Tryd.isAgg33 Tryd.sizeOf33 (by first | assumption | omega) | exact ld_rows (k := 7) cV_len rfl rfl rfl Tryd.isAgg33 Tryd.sizeOf33 (by first | assumption | omega) | exact ld_is (ds := [_, _, _]) Tryd.isAgg33 Tryd.sizeOf33 rfl rfl)) (by first | exact trivial | exact safe_blk (k0 := 0) rfl rfl) ?_
     refine AD0.later rfl ?_
     refine AD.one (i := 4) (by kernel_rfl) ?_
     refine AStep.bldS (pl := numD 0 [_]) (zvs := [.int .i64 0, .int .i64 0, .string ⟨#[]⟩]) (ds := [_, _, _]) rfl (wants_plain rfl) rfl rfl Tryd.zeroValue33 Tryd.runUnderlying36 Tryd.sizeOf33 rfl rfl (by kernel_rfl) ⟨rfl, ot, trivial⟩ (by exact rfl) (fill_full (by exact rfl) (by exact rfl) (by exact rfl)) (fun b58 => ?_)
     refine AD.give (k := 0) (t := 58) (sz := 3) (m := 1) rfl lk rfl rfl rfl (Nat.le_refl _) (by decide) ?_
     refine AD.one (i := 5) (by kernel_rfl) ?_
     refine AStep.appendG (ls := (List.take (st.length - (popsF ops[i].k).toNat) (st))) (new := [(evalF l row ops[i] (argA noVl ops[i].k st) (argB noVl ops[i].k st)).1]) (Sq := Sc16) cV_len cV_one rfl (wants_plain rfl) rfl rfl Tryd.underlying36 info33_Ex3 rfl (by decide) ot hoc16 (perm_r11 (A := [_, _, _, _, _, _, _, _])) ot (by simp) (by simp [maxLen]; omega) (by simp; omega) (fun b59 cp59 h159 h259 => ?_)
     refine AD.perm (perm_q11 (S1 := [⟨b59, 33, cp59 * 3, List.flatMap cV ((List.take (st.length - (popsF ops[i].k).toNat) (st)) ++ [(evalF l row ops[i] (argA noVl ops[i].k st) (argB noVl ops[i].k st)).1])⟩]) (A := [_, _, _, _, _, _, _, _])) ?_
     refine AD.take (i := 6) rfl (by kernel_rfl) (by kernel_rfl) (by kernel_rfl) (by repeat (first | exact NP.body | apply NP.then | apply NP.cut | apply NP.inBlock | apply NP.round)) (wants_plain rfl) rfl (still_as rfl ot) (by exact trivial) (by intro h; cases h) ?_
     refine AD.wk (y := ⟨64, [(1, _), (4, _), (6, _), (7, _), (16, _), (17, _), (18, _)], (⟨b14, 33, 3, [_, _, _]⟩ :: ⟨br, 36, 1, [_]⟩ :: ⟨bc, 30, 1, [_]⟩ :: ⟨b11, 33, 3, [_, _, _]⟩ :: ⟨b10, 33, 3, [_, _, _]⟩ :: ⟨b9, 40, 5, [_, _, _, _, _]⟩ :: ⟨b6, 33, 3, [_, _, _]⟩ :: ⟨b4, 33, 3, [_, _, _]⟩ :: [⟨b59, 33, cp59 * 3, List.flatMap cV ((List.take (st.length - (popsF ops[i].k).toNat) (st)) ++ [(evalF l row ops[i] (argA noVl ops[i].k st) (argB noVl ops[i].k st)).1])⟩])⟩) (Wk.as_ rfl rfl ⟨lk, lk, lk, lk, lk, lk, lk, trivial⟩) rfl ?_
     refine AD.done (by kernel_rfl) ?_
     refine CD.region ?_
     refine OD.still (wants_plain rfl) rfl (still_bin rfl ot opd_const (bin_add (wrap_i64 (by omega) (by omega)))) ?_
     refine OD.still (wants_plain rfl) rfl (still_mv rfl ot) ?_
     refine OD.wk (Wk.as_ (n := 64) (l' := [(1, _), (4, _), (6, _), (7, _), (16, _), (17, _), (18, _)]) (S' := (⟨b14, 33, 3, [_, _, _]⟩ :: ⟨br, 36, 1, [_]⟩ :: ⟨bc, 30, 1, [_]⟩ :: ⟨b11, 33, 3, [_, _, _]⟩ :: ⟨b10, 33, 3, [_, _, _]⟩ :: ⟨b9, 40, 5, [_, _, _, _, _]⟩ :: ⟨b6, 33, 3, [_, _, _]⟩ :: ⟨b4, 33, 3, [_, _, _]⟩ :: [⟨b59, 33, cp59 * 3, List.flatMap cV ((List.take (st.length - (popsF ops[i].k).toNat) (st)) ++ [(evalF l row ops[i] (argA noVl ops[i].k st) (argB noVl ops[i].k st)).1])⟩])) rfl rfl ⟨lk, lk, lk, lk, lk, lk, lk, trivial⟩) ?_
     refine OD.nil ?_
     refine ⟨((i + 1), (st.take (st.length - (popsF ops[i].k).toNat) ++ [(evalF l row ops[i] (argA noVl ops[i].k st) (argB noVl ops[i].k st)).1]), (some ⟨b59, 0, none⟩), cp59, [⟨b59, 33, cp59 * 3, List.flatMap cV ((List.take (st.length - (popsF ops[i].k).toNat) (st)) ++ [(evalF l row ops[i] (argA noVl ops[i].k st) (argB noVl ops[i].k st)).1])⟩]), ⟨64, [(1, .clo (.func 45) [.v (.pointer (some ⟨br, 0, none⟩)), .v (.pointer (some ⟨bc, 0, none⟩))]), (4, .v (.pointer (some ⟨b4, 0, none⟩))), (6, .v (.pointer (some ⟨b6, 0, none⟩))), (7, .v (.slice ((some ⟨b59, 0, none⟩)) (((st.take (st.length - (popsF ops[i].k).toNat) ++ [(evalF l row ops[i] (argA noVl ops[i].k st) (argB noVl ops[i].k st)).1]))).length cp59)), (16, .list 5 (ops.flatMap cO) ops.length), (17, .v (.int .i64 (ops.length : Nat))), (18, .v (.int .i64 (((i + 1)) : Nat)))], (⟨br, 36, 1, [.list 3 (row.flatMap cV) row.length]⟩ :: ⟨bc, 30, 1, [.list 2 (l.flatMap cC) l.length]⟩ :: ⟨b6, 33, 3, [.v (.int .i64 0), .v (.int .i64 0), .v (.string ⟨#[]⟩)]⟩ :: ⟨b4, 33, 3, [.v (.int .i64 0), .v (.int .i64 0), .v (.string ⟨#[]⟩)]⟩ :: ([⟨b59, 33, cp59 * 3, List.flatMap cV ((List.take (st.length - (popsF ops[i].k).toNat) (st)) ++ [(evalF l row ops[i] (argA noVl ops[i].k st) (argB noVl ops[i].k st)).1])⟩]))⟩, ?_, Wk.asS (n := 64) rfl (by first | exact List.Sublist.refl _ | (repeat (first | exact List.Sublist.refl _ | apply List.Sublist.cons_cons | apply List.Sublist.cons))) ⟨(by (repeat (first | exact look_hit | (apply look_at; focus (first | rfl | (simp; done) | (congr 2; omega) | (apply row_eq; rfl) | (apply row_eq; simp; done))) | (apply look_miss; focus rfl))); done), (by (repeat (first | exact look_hit | (apply look_at; focus (first | rfl | (simp; done) | (congr 2; omega) | (apply row_eq; rfl) | (apply row_eq; simp; done))) | (apply look_miss; focus rfl))); done), (by (repeat (first | exact look_hit | (apply look_at; focus (first | rfl | (simp; done) | (congr 2; omega) | (apply row_eq; rfl) | (apply row_eq; simp; done))) | (apply look_miss; focus rfl))); done), (by (repeat (first | exact look_hit | (apply look_at; focus (first | rfl | (simp; done) | (congr 2; omega) | (apply row_eq; rfl) | (apply row_eq; simp; done))) | (apply look_miss; focus rfl))); done), (by (repeat (first | exact look_hit | (apply look_at; focus (first | rfl | (simp; done) | (congr 2; omega) | (apply row_eq; rfl) | (apply row_eq; simp; done))) | (apply look_miss; focus rfl))); done), (by (repeat (first | exact look_hit | (apply look_at; focus (first | rfl | (simp; done) | (congr 2; omega) | (apply row_eq; rfl) | (apply row_eq; simp; done))) | (apply look_miss; focus rfl))); done), (by (repeat (first | exact look_hit | (apply look_at; focus (first | rfl | (simp; done) | (congr 2; omega) | (apply row_eq; rfl) | (apply row_eq; simp; done))) | (apply look_miss; focus rfl))); done), trivial⟩, (by omega), (by rw [hnl]; omega), hnx, (hinv.trans (fold_go hlt hz)), hnok, (OwnL.cast (ownL_row h159 h259) (by rfl)), rfl⟩
     first | omega | (simp only []; omega)
   ·have hc2' := hc2
    (try simp only [V.cnd, ne_eq] at hc2')
    have hb : argB noVl ops[i].k st = noVl := by unfold argB; rw [if_neg (by omega)]
    refine CD.skip ?_
    refine CD.seq ?_
    refine CD.region ?_
    refine OD.still (wants_plain rfl) rfl (still_mv rfl ot) ?_
    refine OD.still (wants_plain rfl) rfl (still_r1 (mk := Op.load 40) rfl ot (by first | exact ld_blks (k := 2) (ds := [_, _, _, _, _]) rfl rfl Tryd.isAgg40 Tryd.sizeOf40 rfl rfl | exact ld_fms cO_len Tryd.isAgg40 Tryd.sizeOf40 (by first | assumption | omega) | exact ld_fms cV_len Tryd.isAgg40 Tryd.sizeOf40 (by first | assumption | omega) | exact ld_rows (k := 0) cO_len rfl rfl rfl Tryd.isAgg40 Tryd.sizeOf40 (by first | assumption | omega) | exact ld_rows (k := 1) cO_len rfl rfl rfl Tryd.isAgg40 Tryd.sizeOf40 (by first | assumption | omega) | exact ld_rows (k := 2) cO_len rfl rfl rfl Tryd.isAgg40 Tryd.sizeOf40 (by first | assumption | omega) | exact ld_rows (k := 3) cO_len rfl rfl rfl Tryd.isAgg40 Tryd.sizeOf40 (by first | assumption | omega) | exact ld_rows (k := 4) cO_len rfl rfl rfl Tryd.isAgg40 Tryd.sizeOf40 (by first | assumption | omega) | exact ld_rows (k := 5) cO_len rfl rfl rfl Tryd.isAgg40 Tryd.sizeOf40 (by first | assumption | omega) | exact ld_rows (k := 6) cO_len rfl rfl rfl Tryd.isAgg40 Tryd.sizeOf40 (by first | assumption | omega) | exact ld_rows (k := 0) cV_len rfl rfl rfl Tryd.isAgg40 Tryd.sizeOf40 (by first | assumption | omega) | exact ld_rows (k := 1) cV_len rfl rfl rfl Tryd.isAgg40 Tryd.sizeOf40 (by first | assumption | omega) | exact ld_rows (k := 2) cV_len rfl rfl rfl Tryd.isAgg40 Tryd.sizeOf40 (by first | assumption | omega) | exact ld_rows (k := 3) cV_len rfl rfl rfl Tryd.isAgg40 Tryd.sizeOf40 (by first | assumption | omega) | exact ld_rows (k := 4) cV_len rfl rfl rfl Tryd.isAgg40 Tryd.sizeOf40 (by first | assumption | omega) | exact ld_rows (k := 5) cV_len rfl rfl rfl Tryd.isAgg40 Tryd.sizeOf40 (by first | assumption | omega) | exact ld_rows (k := 6) cV_len rfl rfl rfl Tryd.isAgg40 Tryd.sizeOf40 (by first | assumption | omega) | exact ld_is (ds := [_, _, _, _, _]) Tryd.isAgg40 Tryd.sizeOf40 rfl rfl)) ?_
    refine OD.still (wants_plain rfl) rfl (still_r1 (mk := Op.load 33) rfl ot (by first | exact ld_blks (k := 1) (ds := [_, _, _]) rfl rfl Tryd.isAgg33 Tryd.sizeOf33 rfl rfl | exact ld_fms cO_len Tryd.isAgg33 Tryd.sizeOf33 (by first | assumption | omega) | exact ld_fms cV_len Tryd.isAgg33 Tryd.sizeOf33 (by first | assumption | omega) | exact ld_rows (k := 0) cO_len rfl rfl rfl Tryd.isAgg33 Tryd.sizeOf33 (by first | assumption | omega) | exact ld_rows (k := 1) cO_len rfl rfl rfl Tryd.isAgg33 Tryd.sizeOf33 (by first | assumption | omega) | exact ld_rows (k := 2) cO_len rfl rfl rfl Tryd.isAgg33 Tryd.sizeOf33 (by first | assumption | omega) | exact ld_rows (k := 3) cO_len rfl rfl rfl Tryd.isAgg33 Tryd.sizeOf33 (by first | assumption | omega) | exact ld_rows (k := 4) cO_len rfl rfl rfl Tryd.isAgg33 Tryd.sizeOf33 (by first | assumption | omega) | exact ld_rows (k := 5) cO_len rfl rfl rfl Tryd.isAgg33 Tryd.sizeOf33 (by first | assumption | omega) | exact ld_rows (k := 6) cO_len rfl rfl rfl Tryd.isAgg33 Tryd.sizeOf33 (by first | assumption | omega) | exact ld_rows (k := 0) cV_len rfl rfl rfl Tryd.isAgg33 Tryd.sizeOf33 (by first | assumption | omega) | exact ld_rows (k := 1) cV_len rfl rfl rfl Tryd.isAgg33 Tryd.sizeOf33 (by first | assumption | omega) | exact ld_rows (k := 2) cV_len rfl rfl rfl Tryd.isAgg33 Tryd.sizeOf33 (by first | assumption | omega) | exact ld_rows (k := 3) cV_len rfl rfl rfl Tryd.isAgg33 Tryd.sizeOf33 (by first | assumption | omega) | exact ld_rows (k := 4) cV_len rfl rfl rfl Tryd.isAgg33 Tryd.sizeOf33 (by first | assumption | omega) | exact ld_rows (k := 5) cV_len rfl rfl rfl Tryd.isAgg33 Tryd.sizeOf33 (by first | assumption | omega) | exact ld_rows (k := 6) cV_len rfl rfl rfl Tryd.isAgg33 Tryd.sizeOf33 (by first | assumption | omega) | exact ld_is (ds := [_, _, _]) Tryd.isAgg33 Tryd.sizeOf33 rfl rfl)) ?_
    refine OD.still (wants_plain rfl) rfl (still_r1 (mk := Op.load 33) rfl ot (by first | exact ld_blks (k := 0) (ds := [_, _, _]) rfl rfl Tryd.isAgg33 Tryd.sizeOf33 rfl rfl | exact ld_fms cO_len Tryd.isAgg33 Tryd.sizeOf33 (by first | assumption | omega) | exact ld_fms cV_len Tryd.isAgg33 Tryd.sizeOf33 (by first | assumption | omega) | exact ld_rows (k := 0) cO_len rfl rfl rfl Tryd.isAgg33 Tryd.sizeOf33 (by first | assumption | omega) | exact ld_rows (k := 1) cO_len rfl rfl rfl Tryd.isAgg33 Tryd.sizeOf33 (by first | assumption | omega) | exact ld_rows (k := 2) cO_len rfl rfl rfl Tryd.isAgg33 Tryd.sizeOf33 (by first | assumption | omega) | exact ld_rows (k := 3) cO_len rfl rfl rfl Tryd.isAgg33 Tryd.sizeOf33 (by first | assumption | omega) | exact ld_rows (k := 4) cO_len rfl rfl rfl Tryd.isAgg33 Tryd.sizeOf33 (by first | assumption | omega) | exact ld_rows (k := 5) cO_len rfl rfl rfl Tryd.isAgg33 Tryd.sizeOf33 (by first | assumption | omega) | exact ld_rows (k := 6) cO_len rfl rfl rfl Tryd.isAgg33 Tryd.sizeOf33 (by first | assumption | omega) | exact ld_rows (k := 0) cV_len rfl rfl rfl Tryd.isAgg33 Tryd.sizeOf33 (by first | assumption | omega) | exact ld_rows (k := 1) cV_len rfl rfl rfl Tryd.isAgg33 Tryd.sizeOf33 (by first | assumption | omega) | exact ld_rows (k := 2) cV_len rfl rfl rfl Tryd.isAgg33 Tryd.sizeOf33 (by first | assumption | omega) | exact ld_rows (k := 3) cV_len rfl rfl rfl Tryd.isAgg33 Tryd.sizeOf33 (by first | assumption | omega) | exact ld_rows (k := 4) cV_len rfl rfl rfl Tryd.isAgg33 Tryd.sizeOf33 (by first | assumption | omega) | exact ld_rows (k := 5) cV_len rfl rfl rfl Tryd.isAgg33 Tryd.sizeOf33 (by first | assumption | omega) | exact ld_rows (k := 6) cV_len rfl rfl rfl Tryd.isAgg33 Tryd.sizeOf33 (by first | assumption | omega) | exact ld_is (ds := [_, _, _]) Tryd.isAgg33 Tryd.sizeOf33 rfl rfl)) ?_
    refine OD.callv (f := 45) (args := [_, _, _]) (all := [_, _, _, _, _]) (Sf := [⟨br, 36, 1, [.list 3 (row.flatMap cV) row.length]⟩, ⟨bc, 30, 1, [.list 2 (l.flatMap cC) l.length]⟩]) (wants_plain rfl) rfl rfl ot Tryd.call45 (evalcl_vc l hl row hrl ops[i] (hcol _ (List.getElem_mem hlt)) _ _ (st[(st.length - (popsF ops[i].k).toNat)]) (noVl) ha hb (ok_argA hok _) (ok_argB hok _) br bc) rfl ⟨ot, ot, ot, trivial⟩ (perm_two (k := 3) (k' := 3) rfl rfl) ?_
    rintro _ _ ⟨rfl, rfl⟩
    refine OD.still (wants_plain rfl) rfl (still_mv rfl ot) ?_
    refine OD.still (wants_plain rfl) rfl (still_extract rfl ot rfl) ?_
    refine OD.still (wants_plain rfl) rfl (still_extract rfl ot rfl) ?_
    refine OD.alloc (ds := [_, _, _]) (wants_plain rfl) rfl rfl Tryd.zeroValue33 rfl (fun b14 => ?_)
    refine OD.store (k := 0) (cs' := [_, _, _]) (wants_plain rfl) rfl rfl ot rfl rfl ot rfl rfl Tryd.sizeOf33 rfl rfl rfl ?_
    refine OD.still (wants_plain rfl) rfl (still_as rfl ot) ?_
    refine OD.wk (Wk.as_ (n := 64) (l' := [(1, _), (4, _), (6, _), (7, _), (13, _), (14, _), (15, _), (16, _), (17, _), (18, _)]) (S' := (⟨b14, 33, 3, [_, _, _]⟩ :: ⟨br, 36, 1, [_]⟩ :: ⟨bc, 30, 1, [_]⟩ :: ⟨b11, 33, 3, [_, _, _]⟩ :: ⟨b10, 33, 3, [_, _, _]⟩ :: ⟨b9, 40, 5, [_, _, _, _, _]⟩ :: ⟨b6, 33, 3, [_, _, _]⟩ :: ⟨b4, 33, 3, [_, _, _]⟩ :: [⟨bh, 33, cph * 3, List.flatMap cV st⟩])) rfl rfl ⟨lk, lk, lk, lk, lk, lk, lk, lk, lk, lk, trivial⟩) ?_
    refine OD.nil ?_
    refine CD.seq ?_
    refine CD.seq ?_
    refine CD.region ?_
    refine OD.still (wants_plain rfl) rfl (still_mv rfl ot) ?_
    refine OD.still (wants_plain rfl) rfl (still_bin rfl ot opd_const bin_neq) ?_
    refine OD.wk (Wk.as_ (n := 64) (l' := [(1, _), (4, _), (6, _), (7, _), (13, _), (14, _), (15, _), (16, _), (17, _), (18, _), (51, _)]) (S' := (⟨b14, 33, 3, [_, _, _]⟩ :: ⟨br, 36, 1, [_]⟩ :: ⟨bc, 30, 1, [_]⟩ :: ⟨b11, 33, 3, [_, _, _]⟩ :: ⟨b10, 33, 3, [_, _, _]⟩ :: ⟨b9, 40, 5, [_, _, _, _, _]⟩ :: ⟨b6, 33, 3, [_, _, _]⟩ :: ⟨b4, 33, 3, [_, _, _]⟩ :: [⟨bh, 33, cph * 3, List.flatMap cV st⟩])) rfl rfl ⟨lk, lk, lk, lk, lk, lk, lk, lk, lk, lk, lk, trivial⟩) ?_
    refine OD.nil ?_
    refine CD.cond ot (fun hc3 => ?_) (fun hc3 => ?_)
    ·have hc3' := hc3
     (try simp only [V.cnd, ne_eq] at hc3')
     have hz : (evalF l row ops[i] (argA noVl ops[i].k st) (argB noVl ops[i].k st)).2 ≠ 0 := by simpa using hc3
     have hres := hinv.trans (fold_no hlt hz)
     refine CD.seq ?_
     refine CD.region ?_
     refine OD.still (wants_plain rfl) rfl (still_r1 (mk := Op.load 33) rfl ot (by first | exact ld_blks (k := 6) (ds := [_, _, _]) rfl rfl Tryd.isAgg33 Tryd.sizeOf33 rfl rfl | exact ld_fms cO_len Tryd.isAgg33 Tryd.sizeOf33 (by first | assumption | omega) | exact ld_fms cV_len Tryd.isAgg33 Tryd.sizeOf33 (by first | assumption | omega) | exact ld_rows (k := 0) cO_len rfl rfl rfl Tryd.isAgg33 Tryd.sizeOf33 (by first | assumption | omega) | exact ld_rows (k := 1) cO_len rfl rfl rfl Tryd.isAgg33 Tryd.sizeOf33 (by first | assumption | omega) | exact ld_rows (k := 2) cO_len rfl rfl rfl Tryd.isAgg33 Tryd.sizeOf33 (by first | assumption | omega) | exact ld_rows (k := 3) cO_len rfl rfl rfl Tryd.isAgg33 Tryd.sizeOf33 (by first | assumption | omega) | exact ld_rows (k := 4) cO_len rfl rfl rfl Tryd.isAgg33 Tryd.sizeOf33 (by first | assumption | omega) | exact ld_rows (k := 5) cO_len rfl rfl rfl Tryd.isAgg33 Tryd.sizeOf33 (by first | assumption | omega) | exact ld_rows (k := 6) cO_len rfl rfl rfl Tryd.isAgg33 Tryd.sizeOf33 (by first | assumption | omega) | exact ld_rows (k := 7) cO_len rfl rfl rfl Tryd.isAgg33 Tryd.sizeOf33 (by first | assumption | omega) | exact ld_rows (k := 0) cV_len rfl rfl rfl Tryd.isAgg33 Tryd.sizeOf33 (by first | assumption | omega) | exact ld_rows (k := 1) cV_len rfl rfl rfl Tryd.isAgg33 Tryd.sizeOf33 (by first | assumption | omega) | exact ld_rows (k := 2) cV_len rfl rfl rfl Tryd.isAgg33 Tryd.sizeOf33 (by first | assumption | omega) | exact ld_rows (k := 3) cV_len rfl rfl rfl Tryd.isAgg33 Tryd.sizeOf33 (by first | assumption | omega) | exact ld_rows (k := 4) cV_len rfl rfl rfl Tryd.isAgg33 Tryd.sizeOf33 (by first | assumption | omega) | exact ld_rows (k := 5) cV_len rfl rfl rfl Tryd.isAgg33 Tryd.sizeOf33 (by first | assumption | omega) | exact ld_rows (k := 6) cV_len rfl rfl rfl Tryd.isAgg33 Tryd.sizeOf33 (by first | assumption | omega) | exact ld_rows (k := 7) cV_len rfl rfl rfl Tryd.isAgg33 Tryd.sizeOf33 (by first | assumption | omega) | exact ld_is (ds := [_, _, _]) Tryd.isAgg33 Tryd.sizeOf33 rfl rfl)) ?_
     refine OD.still (wants_plain rfl) rfl (still_mv rfl ot) ?_
     refine OD.store (k := 7) (cs' := [_, _, _]) (wants_plain rfl) rfl rfl ot rfl rfl ot rfl rfl Tryd.sizeOf33 rfl rfl rfl ?_
     refine OD.still (wants_plain rfl) rfl (still_as rfl ot) ?_
     refine OD.wk (Wk.as_ (n := 64) (l' := [(4, _), (5, _)]) (S' := (⟨b14, 33, 3, [_, _, _]⟩ :: ⟨br, 36, 1, [_]⟩ :: ⟨bc, 30, 1, [_]⟩ :: ⟨b11, 33, 3, [_, _, _]⟩ :: ⟨b10, 33, 3, [_, _, _]⟩ :: ⟨b9, 40, 5, [_, _, _, _, _]⟩ :: ⟨b6, 33, 3, [_, _, _]⟩ :: ⟨b4, 33, 3, [_, _, _]⟩ :: [⟨bh, 33, cph * 3, List.flatMap cV st⟩])) rfl rfl ⟨lk, lk, trivial⟩) ?_
     refine OD.nil ?_
     refine CD.ret ?_
     refine ⟨.inr rfl, _, [⟨br, 36, 1, [.list 3 (row.flatMap cV) row.length]⟩, ⟨bc, 30, 1, [.list 2 (l.flatMap cC) l.length]⟩], (by repeat (first | exact List.Sublist.refl _ | exact List.nil_sublist _ | (apply List.Sublist.cons_cons; apply List.Sublist.cons_cons; exact List.nil_sublist _) | apply List.Sublist.cons)), ret_two Tryd.results44 (res_cells (k := 7) (ds := [_, _, _]) (Nat.le_of_ble_eq_true rfl) lk rfl rfl Tryd.isAgg33 Tryd.sizeOf33 rfl rfl) (res_tmp (Nat.le_of_ble_eq_true rfl) lk), ?_⟩
     rw [hres]; exact ⟨rfl, rfl⟩
    ·have hc3' := hc3
     (try simp only [V.cnd, ne_eq] at hc3')
     have hz : (evalF l row ops[i] (argA noVl ops[i].k st) (argB noVl ops[i].k st)).2 = 0 := by simpa using hc3
     refine CD.skip ?_
     refine CD.cutL (k := (st.length - (popsF ops[i].k).toNat)) (ls := (st)) (Sq := [⟨bh, 33, cph * 3, List.flatMap cV st⟩]) cV_len (by omega) (ownL_row (g := cV) (ls := st) hhle hhcap) (perm_r11 (A := [_, _, _, _, _, _, _, _])) (fun Sc16 hoc16 => ?_)
     refine CD.perm (perm_q11 (A := [_, _, _, _, _, _, _, _])) ?_
     refine CD.draw (bks (List.take 1 _)) (by kernel_rfl) (fun _ h => (List.Sublist.map _ (List.take_sublist _ _)).subset h) ?_
     refine AD0.take (i := 0) rfl (by kernel_rfl) (by kernel_rfl) (by kernel_rfl) (by repeat (first | exact NP.body | apply NP.then | apply NP.cut | apply NP.inBlock | apply NP.round)) (wants_plain rfl) rfl (still_mv rfl ot) (by exact trivial) ?_
     refine AD0.take (i := 1) rfl (by kernel_rfl) (by kernel_rfl) (by kernel_rfl) (by repeat (first | exact NP.body | apply NP.then | apply NP.cut | apply NP.inBlock | apply NP.round)) (wants_plain rfl) rfl (still_mv rfl ot) (by exact trivial) ?_
     first | refine AD0.take (i := 2) rfl (by kernel_rfl) (by kernel_rfl) (by kernel_rfl) (by repeat (first | exact NP.body | apply NP.then | apply NP.cut | apply NP.inBlock | apply NP.round)) (wants_plain rfl) rfl (still_oslice (n := st.length) (k := (List.take (st.length - (popsF ops[i].k).toNat) st).length) (cs := st.flatMap cV) rfl ot rfl ⟨_, _, ot, by rw [List.length_take]; omega⟩ Tryd.runUnderlying36 Tryd.sizeOf33 (by rw [List.length_take]; omega) hoh) (by exact trivial) ?_ | refine AD0.take (i := 2) rfl (by kernel_rfl) (by kernel_rfl) (by kernel_rfl) (by repeat (first | exact NP.body | apply NP.then | apply NP.cut | apply NP.inBlock | apply NP.round)) (wants_plain rfl) rfl (still_oslice (n := st.length) (k := (List.take (st.length - (popsF ops[i].k).toNat) st).length) (cs := st.flatMap cV) rfl ot rfl ⟨_, _, ot, by rw [List.length_take]; omega⟩ Tryd.runUnderlying36 Tryd.sizeOf33 (by rw [List.length_take]; omega) (ownL_row (e := 33) (g := cV) (ls := st) hhle hhcap)) (by exact trivial) ?_
     refine AD0.take (i := 3) rfl (by kernel_rfl) (by kernel_rfl) (by kernel_rfl) (by repeat (first | exact NP.body | apply NP.then | apply NP.cut | apply NP.inBlock | apply NP.round)) (wants_plain rfl) rfl (still_r1 (mk := Op.load 33) rfl ot (by first | exact ld_blks (k := 0) (ds := [_, _, _]) rfl rfl Tryd.isAgg33 Tryd.sizeOf33 rfl rfl | exact ld_fms cO_len Tryd.isAgg33 Tryd.sizeOf33 (by first | assumption | omega) | exact ld_fms cV_len Tryd.isAgg33 Tryd.sizeOf33 (by first | assumption | omega) | exact ld_rows (k := 0) cO_len rfl rfl rfl Tryd.isAgg33 Tryd.sizeOf33 (by first | assumption | omega) | exact ld_rows (k := 1) cO_len rfl rfl rfl Tryd.isAgg33 Tryd.sizeOf33 (by first | assumption | omega) | exact ld_rows (k := 2) cO_len rfl rfl rfl Tryd.isAgg33 Tryd.sizeOf33 (by first | assumption | omega) | exact ld_rows (k := 3) cO_len rfl rfl rfl Tryd.isAgg33 Tryd.sizeOf33 (by first | assumption | omega) | exact ld_rows (k := 4) cO_len rfl rfl rfl Tryd.isAgg33 Tryd.sizeOf33 (by first | assumption | omega) | exact ld_rows (k := 5) cO_len rfl rfl rfl Tryd.isAgg33 Tryd.sizeOf33 (by first | assumption | omega) | exact ld_rows (k := 6) cO_len rfl rfl rfl Tryd.isAgg33 Tryd.sizeOf33 (by first | assumption | omega) | exact ld_rows (k := 7) cO_len rfl rfl rfl Tryd.isAgg33 Tryd.sizeOf33 (by first | assumption | omega) | exact ld_rows (k := 0) cV_len rfl rfl rfl Tryd.isAgg33 Tryd.sizeOf33 (by first | assumption | omega) | exact ld_rows (k := 1) cV_len rfl rfl rfl Tryd.isAgg33 Tryd.sizeOf33 (by first | assumption | omega) | exact ld_rows (k := 2) cV_len rfl rfl rfl Tryd.isAgg33 Tryd.sizeOf33 (by first | assumption | omega) | exact ld_rows (k := 3) cV_len rfl rfl rfl Tryd.isAgg33 Tryd.sizeOf33 (by first | assumption | omega) | exact ld_rows (k := 4) cV_len rfl rfl rfl Tryd.isAgg33 Tryd.sizeOf33 (by first | assumption | omega) | exact ld_rows (k := 5) cV_len rfl rfl rfl Tryd.isAgg33 Tryd.sizeOf33 (by first | assumption | omega) | exact ld_rows (k := 6) cV_len rfl rfl rfl Tryd.isAgg33 Tryd.sizeOf33 (by first | assumption | omega) | exact ld_rows (k := 7) cV_len rfl rfl rfl Tryd.isAgg33 Tryd.sizeOf33 (by first | assumption | omega) | exact ld_is (ds := [_, _, _]) Tryd.isAgg33 Tryd.sizeOf33 rfl rfl)) (by first | exact trivial | exact safe_blk (k0 := 0) rfl rfl) ?_
     refine AD0.later rfl ?_
     refine AD.one (i := 4) (by kernel_rfl) ?_
     refine AStep.bldS (pl := numD 0 [_]) (zvs := [.int .i64 0, .int .i64 0, .string ⟨#[]⟩]) (ds := [_, _, _]) rfl (wants_plain rfl) rfl rfl Tryd.zeroValue33 Tryd.runUnderlying36 Tryd.sizeOf33 rfl rfl (by kernel_rfl) ⟨rfl, ot, trivial⟩ (by exact rfl) (fill_full (by exact rfl) (by exact rfl) (by exact rfl)) (fun b58 => ?_)
     refine AD.give (k := 0) (t := 58) (sz := 3) (m := 1) rfl lk rfl rfl rfl (Nat.le_refl _) (by decide) ?_
     refine AD.one (i := 5) (by kernel_rfl) ?_
     refine AStep.appendG (ls := (List.take (st.length - (popsF ops[i].k).toNat) (st))) (new := [(evalF l row ops[i] (argA noVl ops[i].k st) (argB noVl ops[i].k st)).1]) (Sq := Sc16) cV_len cV_one rfl (wants_plain rfl) rfl rfl Tryd.underlying36 info33_Ex3 rfl (by decide) ot hoc16 (perm_r11 (A := [_, _, _, _, _, _, _, _])) ot (by simp) (by simp [maxLen]; omega) (by simp; omega) (fun b59 cp59 h159 h259 => ?_)
     refine AD.perm (perm_q11 (S1 := [⟨b59, 33, cp59 * 3, List.flatMap cV ((List.take (st.length - (popsF ops[i].k).toNat) (st)) ++ [(evalF l row ops[i] (argA noVl ops[i].k st) (argB noVl ops[i].k st)).1])⟩]) (A := [_, _, _, _, _, _, _, _])) ?_
     refine AD.take (i := 6) rfl (by kernel_rfl) (by kernel_rfl) (by kernel_rfl) (by repeat (first | exact NP.body | apply NP.then | apply NP.cut | apply NP.inBlock | apply NP.round)) (wants_plain rfl) rfl (still_as rfl ot) (by exact trivial) (by intro h; cases h) ?_
     refine AD.wk (y := ⟨64, [(1, _), (4, _), (6, _), (7, _), (16, _), (17, _), (18, _)], (⟨b14, 33, 3, [_, _, _]⟩ :: ⟨br, 36, 1, [_]⟩ :: ⟨bc, 30, 1, [_]⟩ :: ⟨b11, 33, 3, [_, _, _]⟩ :: ⟨b10, 33, 3, [_, _, _]⟩ :: ⟨b9, 40, 5, [_, _, _, _, _]⟩ :: ⟨b6, 33, 3, [_, _, _]⟩ :: ⟨b4, 33, 3, [_, _, _]⟩ :: [⟨b59, 33, cp59 * 3, List.flatMap cV ((List.take (st.length - (popsF ops[i].k).toNat) (st)) ++ [(evalF l row ops[i] (argA noVl ops[i].k st) (argB noVl ops[i].k st)).1])⟩])⟩) (Wk.as_ rfl rfl ⟨lk, lk, lk, lk, lk, lk, lk, trivial⟩) rfl ?_
     refine AD.done (by kernel_rfl) ?_
     refine CD.region ?_
     refine OD.still (wants_plain rfl) rfl (still_bin rfl ot opd_const (bin_add (wrap_i64 (by omega) (by omega)))) ?_
     refine OD.still (wants_plain rfl) rfl (still_mv rfl ot) ?_
     refine OD.wk (Wk.as_ (n := 64) (l' := [(1, _), (4, _), (6, _), (7, _), (16, _), (17, _), (18, _)]) (S' := (⟨b14, 33, 3, [_, _, _]⟩ :: ⟨br, 36, 1, [_]⟩ :: ⟨bc, 30, 1, [_]⟩ :: ⟨b11, 33, 3, [_, _, _]⟩ :: ⟨b10, 33, 3, [_, _, _]⟩ :: ⟨b9, 40, 5, [_, _, _, _, _]⟩ :: ⟨b6, 33, 3, [_, _, _]⟩ :: ⟨b4, 33, 3, [_, _, _]⟩ :: [⟨b59, 33, cp59 * 3, List.flatMap cV ((List.take (st.length - (popsF ops[i].k).toNat) (st)) ++ [(evalF l row ops[i] (argA noVl ops[i].k st) (argB noVl ops[i].k st)).1])⟩])) rfl rfl ⟨lk, lk, lk, lk, lk, lk, lk, trivial⟩) ?_
     refine OD.nil ?_
     refine ⟨((i + 1), (st.take (st.length - (popsF ops[i].k).toNat) ++ [(evalF l row ops[i] (argA noVl ops[i].k st) (argB noVl ops[i].k st)).1]), (some ⟨b59, 0, none⟩), cp59, [⟨b59, 33, cp59 * 3, List.flatMap cV ((List.take (st.length - (popsF ops[i].k).toNat) (st)) ++ [(evalF l row ops[i] (argA noVl ops[i].k st) (argB noVl ops[i].k st)).1])⟩]), ⟨64, [(1, .clo (.func 45) [.v (.pointer (some ⟨br, 0, none⟩)), .v (.pointer (some ⟨bc, 0, none⟩))]), (4, .v (.pointer (some ⟨b4, 0, none⟩))), (6, .v (.pointer (some ⟨b6, 0, none⟩))), (7, .v (.slice ((some ⟨b59, 0, none⟩)) (((st.take (st.length - (popsF ops[i].k).toNat) ++ [(evalF l row ops[i] (argA noVl ops[i].k st) (argB noVl ops[i].k st)).1]))).length cp59)), (16, .list 5 (ops.flatMap cO) ops.length), (17, .v (.int .i64 (ops.length : Nat))), (18, .v (.int .i64 (((i + 1)) : Nat)))], (⟨br, 36, 1, [.list 3 (row.flatMap cV) row.length]⟩ :: ⟨bc, 30, 1, [.list 2 (l.flatMap cC) l.length]⟩ :: ⟨b6, 33, 3, [.v (.int .i64 0), .v (.int .i64 0), .v (.string ⟨#[]⟩)]⟩ :: ⟨b4, 33, 3, [.v (.int .i64 0), .v (.int .i64 0), .v (.string ⟨#[]⟩)]⟩ :: ([⟨b59, 33, cp59 * 3, List.flatMap cV ((List.take (st.length - (popsF ops[i].k).toNat) (st)) ++ [(evalF l row ops[i] (argA noVl ops[i].k st) (argB noVl ops[i].k st)).1])⟩]))⟩, ?_, Wk.asS (n := 64) rfl (by first | exact List.Sublist.refl _ | (repeat (first | exact List.Sublist.refl _ | apply List.Sublist.cons_cons | apply List.Sublist.cons))) ⟨(by (repeat (first | exact look_hit | (apply look_at; focus (first | rfl | (simp; done) | (congr 2; omega) | (apply row_eq; rfl) | (apply row_eq; simp; done))) | (apply look_miss; focus rfl))); done), (by (repeat (first | exact look_hit | (apply look_at; focus (first | rfl | (simp; done) | (congr 2; omega) | (apply row_eq; rfl) | (apply row_eq; simp; done))) | (apply look_miss; focus rfl))); done), (by (repeat (first | exact look_hit | (apply look_at; focus (first | rfl | (simp; done) | (congr 2; omega) | (apply row_eq; rfl) | (apply row_eq; simp; done))) | (apply look_miss; focus rfl))); done), (by (repeat (first | exact look_hit | (apply look_at; focus (first | rfl | (simp; done) | (congr 2; omega) | (apply row_eq; rfl) | (apply row_eq; simp; done))) | (apply look_miss; focus rfl))); done), (by (repeat (first | exact look_hit | (apply look_at; focus (first | rfl | (simp; done) | (congr 2; omega) | (apply row_eq; rfl) | (apply row_eq; simp; done))) | (apply look_miss; focus rfl))); done), (by (repeat (first | exact look_hit | (apply look_at; focus (first | rfl | (simp; done) | (congr 2; omega) | (apply row_eq; rfl) | (apply row_eq; simp; done))) | (apply look_miss; focus rfl))); done), (by (repeat (first | exact look_hit | (apply look_at; focus (first | rfl | (simp; done) | (congr 2; omega) | (apply row_eq; rfl) | (apply row_eq; simp; done))) | (apply look_miss; focus rfl))); done), trivial⟩, (by omega), (by rw [hnl]; omega), hnx, (hinv.trans (fold_go hlt hz)), hnok, (OwnL.cast (ownL_row h159 h259) (by rfl)), rfl⟩
     first | omega | (simp only []; omega)
  ·have hc1' := hc1
   (try simp only [V.cnd, ne_eq] at hc1')
   have ha : argA noVl ops[i].k st = noVl := by unfold argA; rw [if_neg (by omega)]
   refine CD.skip ?_
   refine CD.seq ?_
   refine CD.seq ?_
   refine CD.region ?_
   refine OD.still (wants_plain rfl) rfl (still_mv rfl ot) ?_
   refine OD.still (wants_plain rfl) rfl (still_bin rfl ot opd_const bin_gtr) ?_
   refine OD.wk (Wk.as_ (n := 64) (l' := [(1, _), (4, _), (6, _), (7, _), (9, _), (10, _), (11, _), (13, _), (16, _), (17, _), (18, _), (36, _)]) (S' := (⟨b11, 33, 3, [_, _, _]⟩ :: ⟨b10, 33, 3, [_, _, _]⟩ :: ⟨b9, 40, 5, [_, _, _, _, _]⟩ :: ⟨br, 36, 1, [_]⟩ :: ⟨bc, 30, 1, [_]⟩ :: ⟨b6, 33, 3, [_, _, _]⟩ :: ⟨b4, 33, 3, [_, _, _]⟩ :: Sh)) rfl rfl ⟨lk, lk, lk, lk, lk, lk, lk, lk, lk, lk, lk, lk, trivial⟩) ?_
   refine OD.nil ?_
   refine CD.cond ot (fun hc2 => ?_) (fun hc2 => ?_)
   ·exact absurd hc2 (by simp at *; omega)
   ·have hc2' := hc2
    (try simp only [V.cnd, ne_eq] at hc2')
    have hb : argB noVl ops[i].k st = noVl := by unfold argB; rw [if_neg (by omega)]
    refine CD.skip ?_
    refine CD.seq ?_
    refine CD.region ?_
    refine OD.still (wants_plain rfl) rfl (still_mv rfl ot) ?_
    refine OD.still (wants_plain rfl) rfl (still_r1 (mk := Op.load 40) rfl ot (by first | exact ld_blks (k := 2) (ds := [_, _, _, _, _]) rfl rfl Tryd.isAgg40 Tryd.sizeOf40 rfl rfl | exact ld_fms cO_len Tryd.isAgg40 Tryd.sizeOf40 (by first | assumption | omega) | exact ld_fms cV_len Tryd.isAgg40 Tryd.sizeOf40 (by first | assumption | omega) | exact ld_rows (k := 0) cO_len rfl rfl rfl Tryd.isAgg40 Tryd.sizeOf40 (by first | assumption | omega) | exact ld_rows (k := 1) cO_len rfl rfl rfl Tryd.isAgg40 Tryd.sizeOf40 (by first | assumption | omega) | exact ld_rows (k := 2) cO_len rfl rfl rfl Tryd.isAgg40 Tryd.sizeOf40 (by first | assumption | omega) | exact ld_rows (k := 3) cO_len rfl rfl rfl Tryd.isAgg40 Tryd.sizeOf40 (by first | assumption | omega) | exact ld_rows (k := 4) cO_len rfl rfl rfl Tryd.isAgg40 Tryd.sizeOf40 (by first | assumption | omega) | exact ld_rows (k := 5) cO_len rfl rfl rfl Tryd.isAgg40 Tryd.sizeOf40 (by first | assumption | omega) | exact ld_rows (k := 6) cO_len rfl rfl rfl Tryd.isAgg40 Tryd.sizeOf40 (by first | assumption | omega) | exact ld_rows (k := 0) cV_len rfl rfl rfl Tryd.isAgg40 Tryd.sizeOf40 (by first | assumption | omega) | exact ld_rows (k := 1) cV_len rfl rfl rfl Tryd.isAgg40 Tryd.sizeOf40 (by first | assumption | omega) | exact ld_rows (k := 2) cV_len rfl rfl rfl Tryd.isAgg40 Tryd.sizeOf40 (by first | assumption | omega) | exact ld_rows (k := 3) cV_len rfl rfl rfl Tryd.isAgg40 Tryd.sizeOf40 (by first | assumption | omega) | exact ld_rows (k := 4) cV_len rfl rfl rfl Tryd.isAgg40 Tryd.sizeOf40 (by first | assumption | omega) | exact ld_rows (k := 5) cV_len rfl rfl rfl Tryd.isAgg40 Tryd.sizeOf40 (by first | assumption | omega) | exact ld_rows (k := 6) cV_len rfl rfl rfl Tryd.isAgg40 Tryd.sizeOf40 (by first | assumption | omega) | exact ld_is (ds := [_, _, _, _, _]) Tryd.isAgg40 Tryd.sizeOf40 rfl rfl)) ?_
    refine OD.still (wants_plain rfl) rfl (still_r1 (mk := Op.load 33) rfl ot (by first | exact ld_blks (k := 1) (ds := [_, _, _]) rfl rfl Tryd.isAgg33 Tryd.sizeOf33 rfl rfl | exact ld_fms cO_len Tryd.isAgg33 Tryd.sizeOf33 (by first | assumption | omega) | exact ld_fms cV_len Tryd.isAgg33 Tryd.sizeOf33 (by first | assumption | omega) | exact ld_rows (k := 0) cO_len rfl rfl rfl Tryd.isAgg33 Tryd.sizeOf33 (by first | assumption | omega) | exact ld_rows (k := 1) cO_len rfl rfl rfl Tryd.isAgg33 Tryd.sizeOf33 (by first | assumption | omega) | exact ld_rows (k := 2) cO_len rfl rfl rfl Tryd.isAgg33 Tryd.sizeOf33 (by first | assumption | omega) | exact ld_rows (k := 3) cO_len rfl rfl rfl Tryd.isAgg33 Tryd.sizeOf33 (by first | assumption | omega) | exact ld_rows (k := 4) cO_len rfl rfl rfl Tryd.isAgg33 Tryd.sizeOf33 (by first | assumption | omega) | exact ld_rows (k := 5) cO_len rfl rfl rfl Tryd.isAgg33 Tryd.sizeOf33 (by first | assumption | omega) | exact ld_rows (k := 6) cO_len rfl rfl rfl Tryd.isAgg33 Tryd.sizeOf33 (by first | assumption | omega) | exact ld_rows (k := 0) cV_len rfl rfl rfl Tryd.isAgg33 Tryd.sizeOf33 (by first | assumption | omega) | exact ld_rows (k := 1) cV_len rfl rfl rfl Tryd.isAgg33 Tryd.sizeOf33 (by first | assumption | omega) | exact ld_rows (k := 2) cV_len rfl rfl rfl Tryd.isAgg33 Tryd.sizeOf33 (by first | assumption | omega) | exact ld_rows (k := 3) cV_len rfl rfl rfl Tryd.isAgg33 Tryd.sizeOf33 (by first | assumption | omega) | exact ld_rows (k := 4) cV_len rfl rfl rfl Tryd.isAgg33 Tryd.sizeOf33 (by first | assumption | omega) | exact ld_rows (k := 5) cV_len rfl rfl rfl Tryd.isAgg33 Tryd.sizeOf33 (by first | assumption | omega) | exact ld_rows (k := 6) cV_len rfl rfl rfl Tryd.isAgg33 Tryd.sizeOf33 (by first | assumption | omega) | exact ld_is (ds := [_, _, _]) Tryd.isAgg33 Tryd.sizeOf33 rfl rfl)) ?_
    refine OD.still (wants_plain rfl) rfl (still_r1 (mk := Op.load 33) rfl ot (by first | exact ld_blks (k := 0) (ds := [_, _, _]) rfl rfl Tryd.isAgg33 Tryd.sizeOf33 rfl rfl | exact ld_fms cO_len Tryd.isAgg33 Tryd.sizeOf33 (by first | assumption | omega) | exact ld_fms cV_len Tryd.isAgg33 Tryd.sizeOf33 (by first | assumption | omega) | exact ld_rows (k := 0) cO_len rfl rfl rfl Tryd.isAgg33 Tryd.sizeOf33 (by first | assumption | omega) | exact ld_rows (k := 1) cO_len rfl rfl rfl Tryd.isAgg33 Tryd.sizeOf33 (by first | assumption | omega) | exact ld_rows (k := 2) cO_len rfl rfl rfl Tryd.isAgg33 Tryd.sizeOf33 (by first | assumption | omega) | exact ld_rows (k := 3) cO_len rfl rfl rfl Tryd.isAgg33 Tryd.sizeOf33 (by first | assumption | omega) | exact ld_rows (k := 4) cO_len rfl rfl rfl Tryd.isAgg33 Tryd.sizeOf33 (by first | assumption | omega) | exact ld_rows (k := 5) cO_len rfl rfl rfl Tryd.isAgg33 Tryd.sizeOf33 (by first | assumption | omega) | exact ld_rows (k := 6) cO_len rfl rfl rfl Tryd.isAgg33 Tryd.sizeOf33 (by first | assumption | omega) | exact ld_rows (k := 0) cV_len rfl rfl rfl Tryd.isAgg33 Tryd.sizeOf33 (by first | assumption | omega) | exact ld_rows (k := 1) cV_len rfl rfl rfl Tryd.isAgg33 Tryd.sizeOf33 (by first | assumption | omega) | exact ld_rows (k := 2) cV_len rfl rfl rfl Tryd.isAgg33 Tryd.sizeOf33 (by first | assumption | omega) | exact ld_rows (k := 3) cV_len rfl rfl rfl Tryd.isAgg33 Tryd.sizeOf33 (by first | assumption | omega) | exact ld_rows (k := 4) cV_len rfl rfl rfl Tryd.isAgg33 Tryd.sizeOf33 (by first | assumption | omega) | exact ld_rows (k := 5) cV_len rfl rfl rfl Tryd.isAgg33 Tryd.sizeOf33 (by first | assumption | omega) | exact ld_rows (k := 6) cV_len rfl rfl rfl Tryd.isAgg33 Tryd.sizeOf33 (by first | assumption | omega) | exact ld_is (ds := [_, _, _]) Tryd.isAgg33 Tryd.sizeOf33 rfl rfl)) ?_
    refine OD.callv (f := 45) (args := [_, _, _]) (all := [_, _, _, _, _]) (Sf := [⟨br, 36, 1, [.list 3 (row.flatMap cV) row.length]⟩, ⟨bc, 30, 1, [.list 2 (l.flatMap cC) l.length]⟩]) (wants_plain rfl) rfl rfl ot Tryd.call45 (evalcl_vc l hl row hrl ops[i] (hcol _ (List.getElem_mem hlt)) _ _ (noVl) (noVl) ha hb (ok_argA hok _) (ok_argB hok _) br bc) rfl ⟨ot, ot, ot, trivial⟩ (perm_two (k := 3) (k' := 3) rfl rfl) ?_
    rintro _ _ ⟨rfl, rfl⟩
    refine OD.still (wants_plain rfl) rfl (still_mv rfl ot) ?_
    refine OD.still (wants_plain rfl) rfl (still_extract rfl ot rfl) ?_
    refine OD.still (wants_plain rfl) rfl (still_extract rfl ot rfl) ?_
    refine OD.alloc (ds := [_, _, _]) (wants_plain rfl) rfl rfl Tryd.zeroValue33 rfl (fun b14 => ?_)
    refine OD.store (k := 0) (cs' := [_, _, _]) (wants_plain rfl) rfl rfl ot rfl rfl ot rfl rfl Tryd.sizeOf33 rfl rfl rfl ?_
    refine OD.still (wants_plain rfl) rfl (still_as rfl ot) ?_
    refine OD.wk (Wk.as_ (n := 64) (l' := [(1, _), (4, _), (6, _), (7, _), (13, _), (14, _), (15, _), (16, _), (17, _), (18, _)]) (S' := (⟨b14, 33, 3, [_, _, _]⟩ :: ⟨br, 36, 1, [_]⟩ :: ⟨bc, 30, 1, [_]⟩ :: ⟨b11, 33, 3, [_, _, _]⟩ :: ⟨b10, 33, 3, [_, _, _]⟩ :: ⟨b9, 40, 5, [_, _, _, _, _]⟩ :: ⟨b6, 33, 3, [_, _, _]⟩ :: ⟨b4, 33, 3, [_, _, _]⟩ :: Sh)) rfl rfl ⟨lk, lk, lk, lk, lk, lk, lk, lk, lk, lk, trivial⟩) ?_
    refine OD.nil ?_
    refine CD.seq ?_
    refine CD.seq ?_
    refine CD.region ?_
    refine OD.still (wants_plain rfl) rfl (still_mv rfl ot) ?_
    refine OD.still (wants_plain rfl) rfl (still_bin rfl ot opd_const bin_neq) ?_
    refine OD.wk (Wk.as_ (n := 64) (l' := [(1, _), (4, _), (6, _), (7, _), (13, _), (14, _), (15, _), (16, _), (17, _), (18, _), (51, _)]) (S' := (⟨b14, 33, 3, [_, _, _]⟩ :: ⟨br, 36, 1, [_]⟩ :: ⟨bc, 30, 1, [_]⟩ :: ⟨b11, 33, 3, [_, _, _]⟩ :: ⟨b10, 33, 3, [_, _, _]⟩ :: ⟨b9, 40, 5, [_, _, _, _, _]⟩ :: ⟨b6, 33, 3, [_, _, _]⟩ :: ⟨b4, 33, 3, [_, _, _]⟩ :: Sh)) rfl rfl ⟨lk, lk, lk, lk, lk, lk, lk, lk, lk, lk, lk, trivial⟩) ?_
    refine OD.nil ?_
    refine CD.cond ot (fun hc3 => ?_) (fun hc3 => ?_)
    ·have hc3' := hc3
     (try simp only [V.cnd, ne_eq] at hc3')
     have hz : (evalF l row ops[i] (argA noVl ops[i].k st) (argB noVl ops[i].k st)).2 ≠ 0 := by simpa using hc3
     have hres := hinv.trans (fold_no hlt hz)
     refine CD.seq ?_
     refine CD.region ?_
     refine OD.still (wants_plain rfl) rfl (still_r1 (mk := Op.load 33) rfl ot (by first | exact ld_blks (k := 6) (ds := [_, _, _]) rfl rfl Tryd.isAgg33 Tryd.sizeOf33 rfl rfl | exact ld_fms cO_len Tryd.isAgg33 Tryd.sizeOf33 (by first | assumption | omega) | exact ld_fms cV_len Tryd.isAgg33 Tryd.sizeOf33 (by first | assumption | omega) | exact ld_rows (k := 0) cO_len rfl rfl rfl Tryd.isAgg33 Tryd.sizeOf33 (by first | assumption | omega) | exact ld_rows (k := 1) cO_len rfl rfl rfl Tryd.isAgg33 Tryd.sizeOf33 (by first | assumption | omega) | exact ld_rows (k := 2) cO_len rfl rfl rfl Tryd.isAgg33 Tryd.sizeOf33 (by first | assumption | omega) | exact ld_rows (k := 3) cO_len rfl rfl rfl Tryd.isAgg33 Tryd.sizeOf33 (by first | assumption | omega) | exact ld_rows (k := 4) cO_len rfl rfl rfl Tryd.isAgg33 Tryd.sizeOf33 (by first | assumption | omega) | exact ld_rows (k := 5) cO_len rfl rfl rfl Tryd.isAgg33 Tryd.sizeOf33 (by first | assumption | omega) | exact ld_rows (k := 6) cO_len rfl rfl rfl Tryd.isAgg33 Tryd.sizeOf33 (by first | assumption | omega) | exact ld_rows (k := 7) cO_len rfl rfl rfl Tryd.isAgg33 Tryd.sizeOf33 (by first | assumption | omega) | exact ld_rows (k := 0) cV_len rfl rfl rfl Tryd.isAgg33 Tryd.sizeOf33 (by first | assumption | omega) | exact ld_rows (k := 1) cV_len rfl rfl rfl Tryd.isAgg33 Tryd.sizeOf33 (by first | assumption | omega) | exact ld_rows (k := 2) cV_len rfl rfl rfl Tryd.isAgg33 Tryd.sizeOf33 (by first | assumption | omega) | exact ld_rows (k := 3) cV_len rfl rfl rfl Tryd.isAgg33 Tryd.sizeOf33 (by first | assumption | omega) | exact ld_rows (k := 4) cV_len rfl rfl rfl Tryd.isAgg33 Tryd.sizeOf33 (by first | assumption | omega) | exact ld_rows (k := 5) cV_len rfl rfl rfl Tryd.isAgg33 Tryd.sizeOf33 (by first | assumption | omega) | exact ld_rows (k := 6) cV_len rfl rfl rfl Tryd.isAgg33 Tryd.sizeOf33 (by first | assumption | omega) | exact ld_rows (k := 7) cV_len rfl rfl rfl Tryd.isAgg33 Tryd.sizeOf33 (by first | assumption | omega) | exact ld_is (ds := [_, _, _]) Tryd.isAgg33 Tryd.sizeOf33 rfl rfl)) ?_
     refine OD.still (wants_plain rfl) rfl (still_mv rfl ot) ?_
     refine OD.store (k := 7) (cs' := [_, _, _]) (wants_plain rfl) rfl rfl ot rfl rfl ot rfl rfl Tryd.sizeOf33 rfl rfl rfl ?_
     refine OD.still (wants_plain rfl) rfl (still_as rfl ot) ?_
     refine OD.wk (Wk.as_ (n := 64) (l' := [(4, _), (5, _)]) (S' := (⟨b14, 33, 3, [_, _, _]⟩ :: ⟨br, 36, 1, [_]⟩ :: ⟨bc, 30, 1, [_]⟩ :: ⟨b11, 33, 3, [_, _, _]⟩ :: ⟨b10, 33, 3, [_, _, _]⟩ :: ⟨b9, 40, 5, [_, _, _, _, _]⟩ :: ⟨b6, 33, 3, [_, _, _]⟩ :: ⟨b4, 33, 3, [_, _, _]⟩ :: Sh)) rfl rfl ⟨lk, lk, trivial⟩) ?_
     refine OD.nil ?_
     refine CD.ret ?_
     refine ⟨.inr rfl, _, [⟨br, 36, 1, [.list 3 (row.flatMap cV) row.length]⟩, ⟨bc, 30, 1, [.list 2 (l.flatMap cC) l.length]⟩], (by repeat (first | exact List.Sublist.refl _ | exact List.nil_sublist _ | (apply List.Sublist.cons_cons; apply List.Sublist.cons_cons; exact List.nil_sublist _) | apply List.Sublist.cons)), ret_two Tryd.results44 (res_cells (k := 7) (ds := [_, _, _]) (Nat.le_of_ble_eq_true rfl) lk rfl rfl Tryd.isAgg33 Tryd.sizeOf33 rfl rfl) (res_tmp (Nat.le_of_ble_eq_true rfl) lk), ?_⟩
     rw [hres]; exact ⟨rfl, rfl⟩
    ·have hc3' := hc3
     (try simp only [V.cnd, ne_eq] at hc3')
     have hz : (evalF l row ops[i] (argA noVl ops[i].k st) (argB noVl ops[i].k st)).2 = 0 := by simpa using hc3
     refine CD.skip ?_
     refine CD.cutL (k := (st.length - (popsF ops[i].k).toNat)) (ls := (st)) (Sq := Sh) cV_len (by omega) hoh (perm_r11 (A := [_, _, _, _, _, _, _, _])) (fun Sc16 hoc16 => ?_)
     refine CD.perm (perm_q11 (A := [_, _, _, _, _, _, _, _])) ?_
     refine CD.draw (bks (List.take 1 _)) (by kernel_rfl) (fun _ h => (List.Sublist.map _ (List.take_sublist _ _)).subset h) ?_
     refine AD0.take (i := 0) rfl (by kernel_rfl) (by kernel_rfl) (by kernel_rfl) (by repeat (first | exact NP.body | apply NP.then | apply NP.cut | apply NP.inBlock | apply NP.round)) (wants_plain rfl) rfl (still_mv rfl ot) (by exact trivial) ?_
     refine AD0.take (i := 1) rfl (by kernel_rfl) (by kernel_rfl) (by kernel_rfl) (by repeat (first | exact NP.body | apply NP.then | apply NP.cut | apply NP.inBlock | apply NP.round)) (wants_plain rfl) rfl (still_mv rfl ot) (by exact trivial) ?_
     first | refine AD0.take (i := 2) rfl (by kernel_rfl) (by kernel_rfl) (by kernel_rfl) (by repeat (first | exact NP.body | apply NP.then | apply NP.cut | apply NP.inBlock | apply NP.round)) (wants_plain rfl) rfl (still_oslice (n := st.length) (k := (List.take (st.length - (popsF ops[i].k).toNat) st).length) (cs := st.flatMap cV) rfl ot rfl ⟨_, _, ot, by rw [List.length_take]; omega⟩ Tryd.runUnderlying36 Tryd.sizeOf33 (by rw [List.length_take]; omega) hoh) (by exact trivial) ?_ | refine AD0.take (i := 2) rfl (by kernel_rfl) (by kernel_rfl) (by kernel_rfl) (by repeat (first | exact NP.body | apply NP.then | apply NP.cut | apply NP.inBlock | apply NP.round)) (wants_plain rfl) rfl (still_oslice (n := st.length) (k := (List.take (st.length - (popsF ops[i].k).toNat) st).length) (cs := st.flatMap cV) rfl ot rfl ⟨_, _, ot, by rw [List.length_take]; omega⟩ Tryd.runUnderlying36 Tryd.sizeOf33 (by rw [List.length_take]; omega) (ownL_row (e := 33) (g := cV) (ls := st) hhle hhcap)) (by exact trivial) ?_
     refine AD0.take (i := 3) rfl (by kernel_rfl) (by kernel_rfl) (by kernel_rfl) (by repeat (first | exact NP.body | apply NP.then | apply NP.cut | apply NP.inBlock | apply NP.round)) (wants_plain rfl) rfl (still_r1 (mk := Op.load 33) rfl ot (by first | exact ld_blks (k := 0) (ds := [_, _, _]) rfl rfl Tryd.isAgg33 Tryd.sizeOf33 rfl rfl | exact ld_fms cO_len Tryd.isAgg33 Tryd.sizeOf33 (by first | assumption | omega) | exact ld_fms cV_len Tryd.isAgg33 Tryd.sizeOf33 (by first | assumption | omega) | exact ld_rows (k := 0) cO_len rfl rfl rfl Tryd.isAgg33 Tryd.sizeOf33 (by first | assumption | omega) | exact ld_rows (k := 1) cO_len rfl rfl rfl Tryd.isAgg33 Tryd.sizeOf33 (by first | assumption | omega) | exact ld_rows (k := 2) cO_len rfl rfl rfl Tryd.isAgg33 Tryd.sizeOf33 (by first | assumption | omega) | exact ld_rows (k := 3) cO_len rfl rfl rfl Tryd.isAgg33 Tryd.sizeOf33 (by first | assumption | omega) | exact ld_rows (k := 4) cO_len rfl rfl rfl Tryd.isAgg33 Tryd.sizeOf33 (by first | assumption | omega) | exact ld_rows (k := 5) cO_len rfl rfl rfl Tryd.isAgg33 Tryd.sizeOf33 (by first | assumption | omega) | exact ld_rows (k := 6) cO_len rfl rfl rfl Tryd.isAgg33 Tryd.sizeOf33 (by first | assumption | omega) | exact ld_rows (k := 7) cO_len rfl rfl rfl Tryd.isAgg33 Tryd.sizeOf33 (by first | assumption | omega) | exact ld_rows (k := 0) cV_len rfl rfl rfl Tryd.isAgg33 Tryd.sizeOf33 (by first | assumption | omega) | exact ld_rows (k := 1) cV_len rfl rfl rfl Tryd.isAgg33 Tryd.sizeOf33 (by first | assumption | omega) | exact ld_rows (k := 2) cV_len rfl rfl rfl Tryd.isAgg33 Tryd.sizeOf33 (by first | assumption | omega) | exact ld_rows (k := 3) cV_len rfl rfl rfl Tryd.isAgg33 Tryd.sizeOf33 (by first | assumption | omega) | exact ld_rows (k := 4) cV_len rfl rfl rfl Tryd.isAgg33 Tryd.sizeOf33 (by first | assumption | omega) | exact ld_rows (k := 5) cV_len rfl rfl rfl Tryd.isAgg33 Tryd.sizeOf33 (by first | assumption | omega) | exact ld_rows (k := 6) cV_len rfl rfl rfl Tryd.isAgg33 Tryd.sizeOf33 (by first | assumption | omega) | exact ld_rows (k := 7) cV_len rfl rfl rfl Tryd.isAgg33 Tryd.sizeOf33 (by first | assumption | omega) | exact ld_is (ds := [_, _, _]) Tryd.isAgg33 Tryd.sizeOf33 rfl rfl)) (by first | exact trivial | exact safe_blk (k0 := 0) rfl rfl) ?_
     refine AD0.later rfl ?_
     refine AD.one (i := 4) (by kernel_rfl) ?_
     refine AStep.bldS (pl := numD 0 [_]) (zvs := [.int .i64 0, .int .i64 0, .string ⟨#[]⟩]) (ds := [_, _, _]) rfl (wants_plain rfl) rfl rfl Tryd.zeroValue33 Tryd.runUnderlying36 Tryd.sizeOf33 rfl rfl (by kernel_rfl) ⟨rfl, ot, trivial⟩ (by exact rfl) (fill_full (by exact rfl) (by exact rfl) (by exact rfl)) (fun b58 => ?_)
     refine AD.give (k := 0) (t := 58) (sz := 3) (m := 1) rfl lk rfl rfl rfl (Nat.le_refl _) (by decide) ?_
     refine AD.one (i := 5) (by kernel_rfl) ?_
     refine AStep.appendG (ls := (List.take (st.length - (popsF ops[i].k).toNat) (st))) (new := [(evalF l row ops[i] (argA noVl ops[i].k st) (argB noVl ops[i].k st)).1]) (Sq := Sc16) cV_len cV_one rfl (wants_plain rfl) rfl rfl Tryd.underlying36 info33_Ex3 rfl (by decide) ot hoc16 (perm_r11 (A := [_, _, _, _, _, _, _, _])) ot (by simp) (by simp [maxLen]; omega) (by simp; omega) (fun b59 cp59 h159 h259 => ?_)
     refine AD.perm (perm_q11 (S1 := [⟨b59, 33, cp59 * 3, List.flatMap cV ((List.take (st.length - (popsF ops[i].k).toNat) (st)) ++ [(evalF l row ops[i] (argA noVl ops[i].k st) (argB noVl ops[i].k st)).1])⟩]) (A := [_, _, _, _, _, _, _, _])) ?_
     refine AD.take (i := 6) rfl (by kernel_rfl) (by kernel_rfl) (by kernel_rfl) (by repeat (first | exact NP.body | apply NP.then | apply NP.cut | apply NP.inBlock | apply NP.round)) (wants_plain rfl) rfl (still_as rfl ot) (by exact trivial) (by intro h; cases h) ?_
     refine AD.wk (y := ⟨64, [(1, _), (4, _), (6, _), (7, _), (16, _), (17, _), (18, _)], (⟨b14, 33, 3, [_, _, _]⟩ :: ⟨br, 36, 1, [_]⟩ :: ⟨bc, 30, 1, [_]⟩ :: ⟨b11, 33, 3, [_, _, _]⟩ :: ⟨b10, 33, 3, [_, _, _]⟩ :: ⟨b9, 40, 5, [_, _, _, _, _]⟩ :: ⟨b6, 33, 3, [_, _, _]⟩ :: ⟨b4, 33, 3, [_, _, _]⟩ :: [⟨b59, 33, cp59 * 3, List.flatMap cV ((List.take (st.length - (popsF ops[i].k).toNat) (st)) ++ [(evalF l row ops[i] (argA noVl ops[i].k st) (argB noVl ops[i].k st)).1])⟩])⟩) (Wk.as_ rfl rfl ⟨lk, lk, lk, lk, lk, lk, lk, trivial⟩) rfl ?_
     refine AD.done (by kernel_rfl) ?_
     refine CD.region ?_
     refine OD.still (wants_plain rfl) rfl (still_bin rfl ot opd_const (bin_add (wrap_i64 (by omega) (by omega)))) ?_
     refine OD.still (wants_plain rfl) rfl (still_mv rfl ot) ?_
     refine OD.wk (Wk.as_ (n := 64) (l' := [(1, _), (4, _), (6, _), (7, _), (16, _), (17, _), (18, _)]) (S' := (⟨b14, 33, 3, [_, _, _]⟩ :: ⟨br, 36, 1, [_]⟩ :: ⟨bc, 30, 1, [_]⟩ :: ⟨b11, 33, 3, [_, _, _]⟩ :: ⟨b10, 33, 3, [_, _, _]⟩ :: ⟨b9, 40, 5, [_, _, _, _, _]⟩ :: ⟨b6, 33, 3, [_, _, _]⟩ :: ⟨b4, 33, 3, [_, _, _]⟩ :: [⟨b59, 33, cp59 * 3, List.flatMap cV ((List.take (st.length - (popsF ops[i].k).toNat) (st)) ++ [(evalF l row ops[i] (argA noVl ops[i].k st) (argB noVl ops[i].k st)).1])⟩])) rfl rfl ⟨lk, lk, lk, lk, lk, lk, lk, trivial⟩) ?_
     refine OD.nil ?_
     refine ⟨((i + 1), (st.take (st.length - (popsF ops[i].k).toNat) ++ [(evalF l row ops[i] (argA noVl ops[i].k st) (argB noVl ops[i].k st)).1]), (some ⟨b59, 0, none⟩), cp59, [⟨b59, 33, cp59 * 3, List.flatMap cV ((List.take (st.length - (popsF ops[i].k).toNat) (st)) ++ [(evalF l row ops[i] (argA noVl ops[i].k st) (argB noVl ops[i].k st)).1])⟩]), ⟨64, [(1, .clo (.func 45) [.v (.pointer (some ⟨br, 0, none⟩)), .v (.pointer (some ⟨bc, 0, none⟩))]), (4, .v (.pointer (some ⟨b4, 0, none⟩))), (6, .v (.pointer (some ⟨b6, 0, none⟩))), (7, .v (.slice ((some ⟨b59, 0, none⟩)) (((st.take (st.length - (popsF ops[i].k).toNat) ++ [(evalF l row ops[i] (argA noVl ops[i].k st) (argB noVl ops[i].k st)).1]))).length cp59)), (16, .list 5 (ops.flatMap cO) ops.length), (17, .v (.int .i64 (ops.length : Nat))), (18, .v (.int .i64 (((i + 1)) : Nat)))], (⟨br, 36, 1, [.list 3 (row.flatMap cV) row.length]⟩ :: ⟨bc, 30, 1, [.list 2 (l.flatMap cC) l.length]⟩ :: ⟨b6, 33, 3, [.v (.int .i64 0), .v (.int .i64 0), .v (.string ⟨#[]⟩)]⟩ :: ⟨b4, 33, 3, [.v (.int .i64 0), .v (.int .i64 0), .v (.string ⟨#[]⟩)]⟩ :: ([⟨b59, 33, cp59 * 3, List.flatMap cV ((List.take (st.length - (popsF ops[i].k).toNat) (st)) ++ [(evalF l row ops[i] (argA noVl ops[i].k st) (argB noVl ops[i].k st)).1])⟩]))⟩, ?_, Wk.asS (n := 64) rfl (by first | exact List.Sublist.refl _ | (repeat (first | exact List.Sublist.refl _ | apply List.Sublist.cons_cons | apply List.Sublist.cons))) ⟨(by (repeat (first | exact look_hit | (apply look_at; focus (first | rfl | (simp; done) | (congr 2; omega) | (apply row_eq; rfl) | (apply row_eq; simp; done))) | (apply look_miss; focus rfl))); done), (by (repeat (first | exact look_hit | (apply look_at; focus (first | rfl | (simp; done) | (congr 2; omega) | (apply row_eq; rfl) | (apply row_eq; simp; done))) | (apply look_miss; focus rfl))); done), (by (repeat (first | exact look_hit | (apply look_at; focus (first | rfl | (simp; done) | (congr 2; omega) | (apply row_eq; rfl) | (apply row_eq; simp; done))) | (apply look_miss; focus rfl))); done), (by (repeat (first | exact look_hit | (apply look_at; focus (first | rfl | (simp; done) | (congr 2; omega) | (apply row_eq; rfl) | (apply row_eq; simp; done))) | (apply look_miss; focus rfl))); done), (by (repeat (first | exact look_hit | (apply look_at; focus (first | rfl | (simp; done) | (congr 2; omega) | (apply row_eq; rfl) | (apply row_eq; simp; done))) | (apply look_miss; focus rfl))); done), (by (repeat (first | exact look_hit | (apply look_at; focus (first | rfl | (simp; done) | (congr 2; omega) | (apply row_eq; rfl) | (apply row_eq; simp; done))) | (apply look_miss; focus rfl))); done), (by (repeat (first | exact look_hit | (apply look_at; focus (first | rfl | (simp; done) | (congr 2; omega) | (apply row_eq; rfl) | (apply row_eq; simp; done))) | (apply look_miss; focus rfl))); done), trivial⟩, (by omega), (by rw [hnl]; omega), hnx, (hinv.trans (fold_go hlt hz)), hnok, (OwnL.cast (ownL_row h159 h259) (by rfl)), rfl⟩
     first | omega | (simp only []; omega)
 ·have hc0' := hc0
  (try simp only [V.cnd, ne_eq] at hc0')
  have h1 := expr_one (by omega) hex
  have hst1 : 0 < st.length := by omega
  obtain ⟨bh, rfl, hhle, hhcap, rfl⟩ := hoh.pos (by omega)
  have hres := hinv.trans (fold_end (by omega))
  have hgd : st.getD 0 noVl = st[0] := by rw [List.getD_eq_getElem?_getD, List.getElem?_eq_getElem hst1]; rfl
  rw [hgd] at hres
  refine CD.exit ?_
  refine CD.seq ?_
  refine CD.region ?_
  refine OD.still (wants_plain rfl) rfl (still_mv rfl ot) ?_
  refine OD.still (wants_plain rfl) rfl (still_r2 (mk := Op.indexAddr 36) rfl ot opd_const (by first | exact ix_list (j := 0) Tryd.runUnderlying36 Tryd.sizeOf33 rfl (by first | omega | decide) | exact ix_row (j := 0) Tryd.runUnderlying36 Tryd.sizeOf33 rfl (by first | omega | decide))) ?_
  refine OD.still (wants_plain rfl) rfl (still_r1 (mk := Op.load 33) rfl ot (ld_rows (k := 4) cV_len rfl rfl rfl Tryd.isAgg33 Tryd.sizeOf33 hst1)) ?_
  refine OD.store (k := 3) (cs' := [_, _, _]) (wants_plain rfl) rfl rfl ot rfl rfl ot rfl rfl Tryd.sizeOf33 rfl rfl rfl ?_
  refine OD.still (wants_plain rfl) rfl (still_as rfl opd_const) ?_
  refine OD.wk (Wk.as_ (n := 64) (l' := [(4, _), (5, _)]) (S' := (⟨br, 36, 1, [_]⟩ :: ⟨bc, 30, 1, [_]⟩ :: ⟨b6, 33, 3, [_, _, _]⟩ :: ⟨b4, 33, 3, [_, _, _]⟩ :: [⟨bh, 33, cph * 3, List.flatMap cV st⟩])) rfl rfl ⟨lk, lk, trivial⟩) ?_
  refine OD.nil ?_
  refine CD.ret ?_
  refine ⟨.inr rfl, _, [⟨br, 36, 1, [.list 3 (row.flatMap cV) row.length]⟩, ⟨bc, 30, 1, [.list 2 (l.flatMap cC) l.length]⟩], (by repeat (first | exact List.Sublist.refl _ | exact List.nil_sublist _ | (apply List.Sublist.cons_cons; apply List.Sublist.cons_cons; exact List.nil_sublist _) | apply List.Sublist.cons)), ret_two Tryd.results44 (res_cells (k := 3) (ds := [_, _, _]) (Nat.le_of_ble_eq_true rfl) lk rfl rfl Tryd.isAgg33 Tryd.sizeOf33 rfl rfl) (res_tmp (Nat.le_of_ble_eq_true rfl) lk), ?_⟩
  rw [hres]; exact ⟨rfl, rfl⟩

set_option maxHeartbeats 4000000 in
set_option maxRecDepth 100000 in
theorem eval_vp (l : List ColL) (hl : l.length ≤ 1000) (row : List Vl) (hrl : row.length = l.length) (hrok : ∀ v ∈ row, v.Ok) (ops : List OpL) (hvo : ∀ o ∈ ops, o.v.Ok) (hcol : ∀ o ∈ ops, o.k = 2 → 0 ≤ colAt l o.nm) (hx : exprF ops = 0) : VP Tryd.prog G 24 [.list 2 (l.flatMap cC) l.length, .list 3 (row.flatMap cV) row.length, .list 5 (ops.flatMap cO) ops.length] (vlD (foldV l row ops)) := by
 refine VC.body Tryd.func24 rfl Tryd.ntmps24 (Nat.le_of_ble_eq_true rfl) fun X0 w0 S00 => ?_
 obtain ⟨h40, hx0⟩ := expr_ok hx
 have hfv := fun br bc => foldV_vc (G := G) l hl row hrl hrok ops hvo hcol h40 hx0 br bc
 unfold vlD at hfv ⊢
 generalize foldV l row ops = q at hfv ⊢
 skip
 refine CD.seq ?_
 refine CD.region ?_
 refine OD.box (ds := [_]) (wants_plain rfl) rfl rfl ot rfl rfl (fun b3 => ?_)
 refine OD.box (ds := [_]) (wants_plain rfl) rfl rfl ot rfl rfl (fun b4 => ?_)
 refine OD.alloc (ds := [_, _, _]) (wants_plain rfl) rfl rfl Tryd.zeroValue33 rfl (fun b6 => ?_)
 refine OD.still (wants_plain rfl) rfl (still_as rfl opd_const) ?_
 refine OD.wk (Wk.as_ (n := 13) (l' := [(2, _), (3, _), (4, _), (6, _)]) (S' := [⟨b6, 33, 3, [_, _, _]⟩, ⟨b4, 36, 1, [_]⟩, ⟨b3, 30, 1, [_]⟩]) rfl rfl ⟨lk, lk, lk, lk, trivial⟩) ?_
 refine OD.nil ?_
 refine CD.seq ?_
 refine CD.region ?_
 refine OD.still (wants_plain rfl) rfl (still_mv rfl ot) ?_
 refine OD.still (wants_plain rfl) rfl (still_fn (ds := [_, _]) rfl ⟨ot, ot, trivial⟩) ?_
 refine OD.call (wants_plain rfl) rfl rfl rfl Tryd.call44 (hfv b4 b3) ⟨ot, ot, trivial⟩ (perm_two (k := 1) (k' := 1) rfl rfl) ?_
 rintro _ _ ⟨rfl, rfl⟩
 refine OD.still (wants_plain rfl) rfl (still_extract rfl ot rfl) ?_
 refine OD.still (wants_plain rfl) rfl (still_extract rfl ot rfl) ?_
 refine OD.store (k := 2) (cs' := [_, _, _]) (wants_plain rfl) rfl rfl ot rfl rfl ot rfl rfl Tryd.sizeOf33 rfl rfl rfl ?_
 refine OD.still (wants_plain rfl) rfl (still_as rfl ot) ?_
 refine OD.wk (Wk.as_ (n := 13) (l' := [(6, _), (7, _)]) (S' := [⟨b4, 36, 1, [_]⟩, ⟨b3, 30, 1, [_]⟩, ⟨b6, 33, 3, [_, _, _]⟩]) rfl rfl ⟨lk, lk, trivial⟩) ?_
 refine OD.nil ?_
 refine CD.ret ?_
 refine ⟨.inr rfl, _, [], List.nil_sublist _, ret_two Tryd.results24 (res_cells (k := 2) (ds := [_, _, _]) (Nat.le_of_ble_eq_true rfl) lk rfl rfl Tryd.isAgg33 Tryd.sizeOf33 rfl rfl) (res_tmp (Nat.le_of_ble_eq_true rfl) lk), ?_⟩
 exact ⟨rfl, rfl⟩

theorem places33_Ex3 : ∀ w, ((#[{ name := "Kind", type := 3, offset := 0, embedded := false, tag := "", pkgPath := "", byteOffset := 0 }, { name := "Int", type := 3, offset := 1, embedded := false, tag := "", pkgPath := "", byteOffset := 8 }, { name := "Text", type := 9, offset := 2, embedded := false, tag := "", pkgPath := "", byteOffset := 16 }] : Array Field).mapM fun f => do pure (f.offset, ← sizeOf f.type) : Sem (Array (Nat × Nat))).run Tryd.prog w = .ok #[(0, 1), (1, 1), (2, 1)] w := fun w => by simp [Tryd.sizeOf3, Tryd.sizeOf9]

set_option maxHeartbeats 4000000 in
set_option maxRecDepth 100000 in
theorem Eval_vp (hm : (3, marksC) ∈ G) (hw : (0, wordsC) ∈ G) (ht : (2, typesC) ∈ G) (l : List ColL) (hl : l.length ≤ 1000) (hok : ∀ c ∈ l, c.n.size ≤ maxLen) (row : List Vl) (hrl : row.length ≤ 1000) (hrok : ∀ v ∈ row, v.Ok) (ops : List OpL) (ho : ∀ o ∈ ops, o.nm.size ≤ maxLen) (hvo : ∀ o ∈ ops, o.v.Ok) : VP Tryd.prog G 11 [.list 2 (l.flatMap cC) l.length, .list 3 (row.flatMap cV) row.length, .list 5 (ops.flatMap cO) ops.length] (vlD (evalR l row ops)) := by
 refine VC.body Tryd.func11 rfl Tryd.ntmps11 (Nat.le_of_ble_eq_true rfl) fun X0 w0 S00 => ?_
 have hmx : maxLen = 9223372036854775807 := rfl
 have hrv := Row_vp hm hw ht l (by omega) hok row (by omega)
 have hkv := kind_vp hm hw ht l hl hok ops ho
 unfold twoI at hkv
 unfold vlD
 refine CD.seq ?_
 refine CD.region ?_
 refine OD.alloc (ds := [_, _, _]) (wants_plain rfl) rfl rfl Tryd.zeroValue33 rfl (fun b6 => ?_)
 refine OD.still (wants_plain rfl) rfl (still_as rfl opd_const) ?_
 refine OD.wk (Wk.as_ (n := 34) (l' := [(0, _), (1, _), (2, _), (6, _)]) (S' := [⟨b6, 33, 3, [_, _, _]⟩]) rfl rfl ⟨lk, lk, lk, lk, trivial⟩) ?_
 refine OD.nil ?_
 refine CD.seq ?_
 refine CD.seq ?_
 refine CD.region ?_
 refine OD.still (wants_plain rfl) rfl (still_mv rfl ot) ?_
 refine OD.still (wants_plain rfl) rfl (still_mv rfl ot) ?_
 refine OD.callP (wants_plain rfl) rfl rfl rfl Tryd.call23 (hrv) ⟨ot, ot, trivial⟩ ?_
 refine OD.still (wants_plain rfl) rfl (still_as rfl ot) ?_
 refine OD.wk (Wk.as_ (n := 34) (l' := [(0, _), (1, _), (2, _), (6, _), (8, _)]) (S' := [⟨b6, 33, 3, [_, _, _]⟩]) rfl rfl ⟨lk, lk, lk, lk, lk, trivial⟩) ?_
 refine OD.nil ?_
 refine CD.seq ?_
 refine CD.region ?_
 refine OD.still (wants_plain rfl) rfl (still_mv rfl ot) ?_
 refine OD.still (wants_plain rfl) rfl (still_bin rfl ot opd_const bin_neq) ?_
 refine OD.wk (Wk.as_ (n := 34) (l' := [(0, _), (1, _), (2, _), (6, _), (8, _), (15, _)]) (S' := [⟨b6, 33, 3, [_, _, _]⟩]) rfl rfl ⟨lk, lk, lk, lk, lk, lk, trivial⟩) ?_
 refine OD.nil ?_
 refine CD.cond ot (fun hc0 => ?_) (fun hc0 => ?_)
 ·have hc0' := hc0
  (try simp only [V.cnd, ne_eq] at hc0')
  have h0 : rowF l row ≠ 0 := by simpa using hc0
  have hres : evalR l row ops = (noVl, rowF l row) := by unfold evalR; rw [if_pos h0]
  refine CD.seq ?_
  refine CD.region ?_
  refine OD.still (wants_plain rfl) rfl (still_bld (pl := []) (ds := [_, _, _]) rfl Tryd.zeroValue33 Tryd.runUnderlying33 places33_Ex3 trivial rfl rfl) ?_
  refine OD.still (wants_plain rfl) rfl (still_mv rfl ot) ?_
  refine OD.store (k := 0) (cs' := [_, _, _]) (wants_plain rfl) rfl rfl ot rfl rfl ot rfl rfl Tryd.sizeOf33 rfl rfl rfl ?_
  refine OD.still (wants_plain rfl) rfl (still_as rfl ot) ?_
  refine OD.wk (Wk.as_ (n := 34) (l' := [(6, _), (7, _)]) (S' := [⟨b6, 33, 3, [_, _, _]⟩]) rfl rfl ⟨lk, lk, trivial⟩) ?_
  refine OD.nil ?_
  refine CD.ret ?_
  refine ⟨.inr rfl, _, [], List.nil_sublist _, ret_two Tryd.results11 (res_cells (k := 0) (ds := [_, _, _]) (Nat.le_of_ble_eq_true rfl) lk rfl rfl Tryd.isAgg33 Tryd.sizeOf33 rfl rfl) (res_tmp (Nat.le_of_ble_eq_true rfl) lk), ?_⟩
  rw [hres]; exact ⟨rfl, rfl⟩
 ·have hc0' := hc0
  (try simp only [V.cnd, ne_eq] at hc0')
  have h0 : rowF l row = 0 := by simpa using hc0
  refine CD.skip ?_
  refine CD.seq ?_
  refine CD.seq ?_
  refine CD.region ?_
  refine OD.still (wants_plain rfl) rfl (still_mv rfl ot) ?_
  refine OD.still (wants_plain rfl) rfl (still_mv rfl ot) ?_
  refine OD.callP (wants_plain rfl) rfl rfl rfl Tryd.call9 (hkv) ⟨ot, ot, trivial⟩ ?_
  refine OD.still (wants_plain rfl) rfl (still_mv rfl ot) ?_
  refine OD.still (wants_plain rfl) rfl (still_extract rfl ot rfl) ?_
  refine OD.still (wants_plain rfl) rfl (still_extract rfl ot rfl) ?_
  refine OD.still (wants_plain rfl) rfl (still_as rfl ot) ?_
  refine OD.still (wants_plain rfl) rfl (still_as rfl ot) ?_
  refine OD.wk (Wk.as_ (n := 34) (l' := [(0, _), (1, _), (2, _), (6, _), (10, _)]) (S' := [⟨b6, 33, 3, [_, _, _]⟩]) rfl rfl ⟨lk, lk, lk, lk, lk, trivial⟩) ?_
  refine OD.nil ?_
  refine CD.seq ?_
  refine CD.region ?_
  refine OD.still (wants_plain rfl) rfl (still_mv rfl ot) ?_
  refine OD.still (wants_plain rfl) rfl (still_bin rfl ot opd_const bin_neq) ?_
  refine OD.wk (Wk.as_ (n := 34) (l' := [(0, _), (1, _), (2, _), (6, _), (10, _), (25, _)]) (S' := [⟨b6, 33, 3, [_, _, _]⟩]) rfl rfl ⟨lk, lk, lk, lk, lk, lk, trivial⟩) ?_
  refine OD.nil ?_
  refine CD.cond ot (fun hc1 => ?_) (fun hc1 => ?_)
  ·have hc1' := hc1
   (try simp only [V.cnd, ne_eq] at hc1')
   have h1 : (kindR l ops).2 ≠ 0 := by simpa using hc1
   have hres : evalR l row ops = (noVl, (kindR l ops).2) := by unfold evalR; rw [if_neg (by simp [h0]), if_pos h1]
   refine CD.seq ?_
   refine CD.region ?_
   refine OD.still (wants_plain rfl) rfl (still_bld (pl := []) (ds := [_, _, _]) rfl Tryd.zeroValue33 Tryd.runUnderlying33 places33_Ex3 trivial rfl rfl) ?_
   refine OD.still (wants_plain rfl) rfl (still_mv rfl ot) ?_
   refine OD.store (k := 0) (cs' := [_, _, _]) (wants_plain rfl) rfl rfl ot rfl rfl ot rfl rfl Tryd.sizeOf33 rfl rfl rfl ?_
   refine OD.still (wants_plain rfl) rfl (still_as rfl ot) ?_
   refine OD.wk (Wk.as_ (n := 34) (l' := [(6, _), (7, _)]) (S' := [⟨b6, 33, 3, [_, _, _]⟩]) rfl rfl ⟨lk, lk, trivial⟩) ?_
   refine OD.nil ?_
   refine CD.ret ?_
   refine ⟨.inr rfl, _, [], List.nil_sublist _, ret_two Tryd.results11 (res_cells (k := 0) (ds := [_, _, _]) (Nat.le_of_ble_eq_true rfl) lk rfl rfl Tryd.isAgg33 Tryd.sizeOf33 rfl rfl) (res_tmp (Nat.le_of_ble_eq_true rfl) lk), ?_⟩
   rw [hres]; exact ⟨rfl, rfl⟩
  ·have hc1' := hc1
   (try simp only [V.cnd, ne_eq] at hc1')
   have h1 : (kindR l ops).2 = 0 := by simpa using hc1
   obtain ⟨k1, k2, k3⟩ := kind_ok h1
   have hres : evalR l row ops = foldV l row ops := by unfold evalR; rw [if_neg (by simp [h0]), if_neg (by simp [h1])]
   have hev := eval_vp (G := G) l hl row (row_len h0) hrok ops hvo (kind_cols (by rw [← k3]; exact h1)) k2
   unfold vlD at hev
   refine CD.skip ?_
   refine CD.seq ?_
   refine CD.region ?_
   refine OD.still (wants_plain rfl) rfl (still_mv rfl ot) ?_
   refine OD.still (wants_plain rfl) rfl (still_mv rfl ot) ?_
   refine OD.still (wants_plain rfl) rfl (still_mv rfl ot) ?_
   refine OD.callP (wants_plain rfl) rfl rfl rfl Tryd.call24 (hev) ⟨ot, ot, ot, trivial⟩ ?_
   refine OD.still (wants_plain rfl) rfl (still_extract rfl ot rfl) ?_
   refine OD.still (wants_plain rfl) rfl (still_extract rfl ot rfl) ?_
   refine OD.store (k := 0) (cs' := [_, _, _]) (wants_plain rfl) rfl rfl ot rfl rfl ot rfl rfl Tryd.sizeOf33 rfl rfl rfl ?_
   refine OD.still (wants_plain rfl) rfl (still_as rfl ot) ?_
   refine OD.wk (Wk.as_ (n := 34) (l' := [(6, _), (7, _)]) (S' := [⟨b6, 33, 3, [_, _, _]⟩]) rfl rfl ⟨lk, lk, trivial⟩) ?_
   refine OD.nil ?_
   refine CD.ret ?_
   refine ⟨.inr rfl, _, [], List.nil_sublist _, ret_two Tryd.results11 (res_cells (k := 0) (ds := [_, _, _]) (Nat.le_of_ble_eq_true rfl) lk rfl rfl Tryd.isAgg33 Tryd.sizeOf33 rfl rfl) (res_tmp (Nat.le_of_ble_eq_true rfl) lk), ?_⟩
   rw [hres]; exact ⟨rfl, rfl⟩

end Go.Proofs.YtfooincnmobemaaDoor.Ex

namespace Go.Proofs.YtfooincnmobemaaDoor.Pc
open Go.RowKit V Pk Vl Go.Proofs.YtfooincnmobemaaDoor.Nm
set_option linter.unusedVariables false
set_option linter.unusedSimpArgs false

variable {G : List (Nat × List Value)}
def colsL : List ColL := [⟨⟨#[105, 100]⟩, 2⟩, ⟨⟨#[110]⟩, 2⟩, ⟨⟨#[115]⟩, 3⟩, ⟨⟨#[98]⟩, 1⟩]
def truthF (n : Int) : Vl := if pickedF n 3 = 2 then noVl else ⟨1, pickedF n 3, ⟨#[]⟩⟩
def numV (n : Int) : Vl := ⟨2, n, ⟨#[]⟩⟩
def txtV (s : ByteArray) : Vl := ⟨3, 0, s⟩
theorem nm_id : nameF ⟨#[105, 100]⟩ = 0 := small_name (l := [105, 100]) (by decide) (by decide) (by decide)
theorem nm_n : nameF ⟨#[110]⟩ = 0 := small_name (l := [110]) (by decide) (by decide) (by decide)
theorem nm_s : nameF ⟨#[115]⟩ = 0 := small_name (l := [115]) (by decide) (by decide) (by decide)
theorem nm_b : nameF ⟨#[98]⟩ = 0 := small_name (l := [98]) (by decide) (by decide) (by decide)
theorem cols_ok : colsF colsL = 0 := by
 simp [colsF, colsL, colsA, colF, nm_id, nm_n, nm_s, nm_b, str_list]
theorem cols_sz : ∀ c ∈ colsL, c.n.size ≤ maxLen := fun c hc => by
 have h : c.n.size ≤ 2 := by
  simp only [colsL, List.mem_cons, List.not_mem_nil, or_false] at hc
  rcases hc with rfl | rfl | rfl | rfl
  ·exact Nat.le_refl 2
  ·exact Nat.le_succ 1
  ·exact Nat.le_succ 1
  ·exact Nat.le_succ 1
 exact Nat.le_trans h (by decide)
theorem row_4 (a b c d : Vl) : rowF colsL [a, b, c, d] = rowA 0 colsL [a, b, c, d] := by unfold rowF; rw [if_neg (by rw [cols_ok]; simp), if_neg (by simp [colsL])]
theorem ck_num (n : Int) : checkV (numV n) = 0 := by
 unfold checkV
 rw [if_neg (show ¬ (numV n).k = 0 by show ¬ (2 : Int) = 0; decide), if_neg (show ¬ (numV n).k = 1 by show ¬ (2 : Int) = 1; decide), if_pos (show (numV n).k = 2 from rfl), if_neg (fun h => h rfl)]
theorem ck_txt {s : ByteArray} (h : s.size ≤ 20) : checkV (txtV s) = 0 := by
 unfold checkV
 rw [if_neg (show ¬ (txtV s).k = 0 by show ¬ (3 : Int) = 0; decide), if_neg (show ¬ (txtV s).k = 1 by show ¬ (3 : Int) = 1; decide), if_neg (show ¬ (txtV s).k = 2 by show ¬ (3 : Int) = 2; decide), if_pos (show (txtV s).k = 3 from rfl), if_neg (show ¬ (txtV s).n ≠ 0 from fun h => h rfl), if_neg (show ¬ (txtV s).s.size > 20 by show ¬ s.size > 20; omega)]
theorem ck_no : checkV noVl = 0 := by decide
theorem ck_truth (n : Int) : checkV (truthF n) = 0 := by
 have h := pickedF_bd n (show (1 : Int) ≤ 3 by decide)
 unfold truthF
 split
 ·exact ck_no
 ·unfold checkV
  rw [if_neg (show ¬ (1 : Int) = 0 by decide), if_pos (show (1 : Int) = 1 from rfl), if_neg]
  rintro (q | q | q)
  ·have q : pickedF n 3 < 0 := q
   omega
  ·have q : pickedF n 3 > 1 := q
   omega
  ·exact q rfl
theorem k_truth (n : Int) : (truthF n).k = 0 ∨ (truthF n).k = 1 := by
 unfold truthF
 split
 ·exact .inl rfl
 ·exact .inr rfl
theorem fit_ok {i : Nat} {c : ColL} {v : Vl} (h : checkV v = 0) (hk : v.k = c.k ∨ (v.k = 0 ∧ i ≠ 0)) : fitV i c v = 0 := by
 unfold fitV
 rw [if_neg (by simp [h]), if_neg]
 rintro ⟨h1, h2⟩
 rcases hk with hk | hk
 ·exact h1 hk
 ·rcases h2 with h2 | h2
  ·exact hk.2 h2
  ·exact h2 hk.1
theorem word_small (s : ByteArray) : (wordF s).size ≤ 20 := by have := wordF_size s; omega

theorem places58_Pc5 : ∀ w, ((#[{ name := "Name", type := 9, offset := 0, embedded := false, tag := "", pkgPath := "", byteOffset := 0 }, { name := "Kind", type := 3, offset := 1, embedded := false, tag := "", pkgPath := "", byteOffset := 16 }] : Array Field).mapM fun f => do pure (f.offset, ← sizeOf f.type) : Sem (Array (Nat × Nat))).run Tryd.prog w = .ok #[(0, 1), (1, 1)] w := fun w => by simp [Tryd.sizeOf3, Tryd.sizeOf9]

set_option maxHeartbeats 4000000 in
set_option maxRecDepth 100000 in
theorem colsOf_vp : VP Tryd.prog G 10 [] (.list 2 (colsL.flatMap cC) colsL.length) := by
 refine VC.body Tryd.func10 rfl Tryd.ntmps10 (Nat.le_of_ble_eq_true rfl) fun X0 w0 S00 => ?_
 refine CD.seq ?_
 refine CD.region ?_
 refine OD.still (wants_plain rfl) rfl (still_as rfl opd_const) ?_
 refine OD.wk (Wk.as_ (n := 6) (l' := []) (S' := []) rfl rfl trivial) ?_
 refine OD.nil ?_
 refine CD.seq ?_
 refine CD.region ?_
 refine OD.still (wants_plain rfl) rfl (still_bld (pl := [(0, _), (1, _)]) (ds := [_, _]) rfl Tryd.zeroValue58 Tryd.runUnderlying58 places58_Pc5 ⟨rfl, opd_const, rfl, opd_const, trivial⟩ rfl rfl) ?_
 refine OD.still (wants_plain rfl) rfl (still_bld (pl := [(0, _), (1, _)]) (ds := [_, _]) rfl Tryd.zeroValue58 Tryd.runUnderlying58 places58_Pc5 ⟨rfl, opd_const, rfl, opd_const, trivial⟩ rfl rfl) ?_
 refine OD.still (wants_plain rfl) rfl (still_bld (pl := [(0, _), (1, _)]) (ds := [_, _]) rfl Tryd.zeroValue58 Tryd.runUnderlying58 places58_Pc5 ⟨rfl, opd_const, rfl, opd_const, trivial⟩ rfl rfl) ?_
 refine OD.still (wants_plain rfl) rfl (still_bld (pl := [(0, _), (1, _)]) (ds := [_, _]) rfl Tryd.zeroValue58 Tryd.runUnderlying58 places58_Pc5 ⟨rfl, opd_const, rfl, opd_const, trivial⟩ rfl rfl) ?_
 refine OD.bldS (pl := numD 0 [_, _, _, _]) (zvs := [.string ⟨#[]⟩, .int .i64 0, .string ⟨#[]⟩, .int .i64 0, .string ⟨#[]⟩, .int .i64 0, .string ⟨#[]⟩, .int .i64 0]) (ds := [_, _, _, _, _, _, _, _]) (wants_plain rfl) rfl rfl Tryd.zeroValue58 Tryd.runUnderlying30 Tryd.sizeOf58 rfl rfl (by kernel_rfl) ⟨rfl, ot, rfl, ot, rfl, ot, rfl, ot, trivial⟩ (by exact rfl) (fill_full (by exact rfl) (by exact rfl) (by exact rfl)) (fun b5 => ?_)
 refine OD.perm (perm_q11 (S1 := [⟨b5, 58, 4 * 2, List.flatMap cC ([⟨⟨#[105, 100]⟩, 2⟩, ⟨⟨#[110]⟩, 2⟩, ⟨⟨#[115]⟩, 3⟩, ⟨⟨#[98]⟩, 1⟩])⟩]) (A := [])) ?_
 refine OD.still (wants_plain rfl) rfl (still_as rfl ot) ?_
 refine OD.wk (Wk.as_ (n := 6) (l' := [(0, _)]) (S' := ([⟨b5, 58, 4 * 2, List.flatMap cC ([⟨⟨#[105, 100]⟩, 2⟩, ⟨⟨#[110]⟩, 2⟩, ⟨⟨#[115]⟩, 3⟩, ⟨⟨#[98]⟩, 1⟩])⟩])) rfl rfl ⟨lk, trivial⟩) ?_
 refine OD.nil ?_
 refine CD.giveL (t := 0) (Sq := [⟨b5, 58, 4 * 2, List.flatMap cC ([⟨⟨#[105, 100]⟩, 2⟩, ⟨⟨#[110]⟩, 2⟩, ⟨⟨#[115]⟩, 3⟩, ⟨⟨#[98]⟩, 1⟩])⟩]) lk (ownL_row (g := cC) (sz := 2) (e := 58) (ls := [⟨⟨#[105, 100]⟩, 2⟩, ⟨⟨#[110]⟩, 2⟩, ⟨⟨#[115]⟩, 3⟩, ⟨⟨#[98]⟩, 1⟩]) (Nat.le_refl _) (show 4 ≤ maxLen by decide)) (fm_len cC_len _) (perm_r11 (A := [])) ?_
 refine CD.ret ?_
 refine ⟨.inr rfl, _, [], List.nil_sublist _, ret_one Tryd.results10 (res_tmp (Nat.le_of_ble_eq_true rfl) lk), ?_⟩
 exact ⟨rfl, rfl⟩

theorem places33_Pc5 : ∀ w, ((#[{ name := "Kind", type := 3, offset := 0, embedded := false, tag := "", pkgPath := "", byteOffset := 0 }, { name := "Int", type := 3, offset := 1, embedded := false, tag := "", pkgPath := "", byteOffset := 8 }, { name := "Text", type := 9, offset := 2, embedded := false, tag := "", pkgPath := "", byteOffset := 16 }] : Array Field).mapM fun f => do pure (f.offset, ← sizeOf f.type) : Sem (Array (Nat × Nat))).run Tryd.prog w = .ok #[(0, 1), (1, 1), (2, 1)] w := fun w => by simp [Tryd.sizeOf3, Tryd.sizeOf9]

set_option maxHeartbeats 4000000 in
set_option maxRecDepth 100000 in
theorem truth_vp (n : Int) (h1 : -9223372036854775808 ≤ n) (h2 : n ≤ 9223372036854775807) : VP Tryd.prog G 27 [.v (.int .i64 n)] (.agg (cV (truthF n))) := by
 refine VC.body Tryd.func27 rfl Tryd.ntmps27 (Nat.le_of_ble_eq_true rfl) fun X0 w0 S00 => ?_
 refine CD.seq ?_
 refine CD.region ?_
 refine OD.alloc (ds := [_, _, _]) (wants_plain rfl) rfl rfl Tryd.zeroValue33 rfl (fun b2 => ?_)
 refine OD.wk (Wk.as_ (n := 10) (l' := [(0, _), (2, _)]) (S' := [⟨b2, 33, 3, [_, _, _]⟩]) rfl rfl ⟨lk, lk, trivial⟩) ?_
 refine OD.nil ?_
 refine CD.seq ?_
 refine CD.seq ?_
 refine CD.region ?_
 refine OD.still (wants_plain rfl) rfl (still_mv rfl ot) ?_
 refine OD.callP (wants_plain rfl) rfl rfl rfl Tryd.call15 (picked_vp G n 3 h1 h2 (by decide)) ⟨ot, opd_const, trivial⟩ ?_
 refine OD.still (wants_plain rfl) rfl (still_bin rfl ot opd_const bin_eql) ?_
 refine OD.wk (Wk.as_ (n := 10) (l' := [(0, _), (2, _), (5, _)]) (S' := [⟨b2, 33, 3, [_, _, _]⟩]) rfl rfl ⟨lk, lk, lk, trivial⟩) ?_
 refine OD.nil ?_
 refine CD.cond ot (fun hc0 => ?_) (fun hc0 => ?_)
 ·have hc0' := hc0
  (try simp only [V.cnd, ne_eq] at hc0')
  refine CD.seq ?_
  refine CD.region ?_
  refine OD.still (wants_plain rfl) rfl (still_bld (pl := []) (ds := [_, _, _]) rfl Tryd.zeroValue33 Tryd.runUnderlying33 places33_Pc5 trivial rfl rfl) ?_
  refine OD.store (k := 0) (cs' := [_, _, _]) (wants_plain rfl) rfl rfl ot rfl rfl ot rfl rfl Tryd.sizeOf33 rfl rfl rfl ?_
  refine OD.wk (Wk.as_ (n := 10) (l' := [(2, _)]) (S' := [⟨b2, 33, 3, [_, _, _]⟩]) rfl rfl ⟨lk, trivial⟩) ?_
  refine OD.nil ?_
  refine CD.ret ?_
  refine ⟨.inr rfl, _, [], List.nil_sublist _, ret_one Tryd.results27 (res_cells (k := 0) (ds := [_, _, _]) (Nat.le_of_ble_eq_true rfl) lk rfl rfl Tryd.isAgg33 Tryd.sizeOf33 rfl rfl), ?_⟩
  refine ⟨?_, rfl⟩
  unfold truthF noVl
  simp_all [cV]
 ·have hc0' := hc0
  (try simp only [V.cnd, ne_eq] at hc0')
  refine CD.skip ?_
  refine CD.seq ?_
  refine CD.region ?_
  refine OD.still (wants_plain rfl) rfl (still_mv rfl ot) ?_
  refine OD.callP (wants_plain rfl) rfl rfl rfl Tryd.call15 (picked_vp G n 3 h1 h2 (by decide)) ⟨ot, opd_const, trivial⟩ ?_
  refine OD.still (wants_plain rfl) rfl (still_bld (pl := [(0, _), (1, _)]) (ds := [_, _, _]) rfl Tryd.zeroValue33 Tryd.runUnderlying33 places33_Pc5 ⟨rfl, opd_const, rfl, ot, trivial⟩ rfl rfl) ?_
  refine OD.store (k := 0) (cs' := [_, _, _]) (wants_plain rfl) rfl rfl ot rfl rfl ot rfl rfl Tryd.sizeOf33 rfl rfl rfl ?_
  refine OD.wk (Wk.as_ (n := 10) (l' := [(2, _)]) (S' := [⟨b2, 33, 3, [_, _, _]⟩]) rfl rfl ⟨lk, trivial⟩) ?_
  refine OD.nil ?_
  refine CD.ret ?_
  refine ⟨.inr rfl, _, [], List.nil_sublist _, ret_one Tryd.results27 (res_cells (k := 0) (ds := [_, _, _]) (Nat.le_of_ble_eq_true rfl) lk rfl rfl Tryd.isAgg33 Tryd.sizeOf33 rfl rfl), ?_⟩
  refine ⟨?_, rfl⟩
  unfold truthF noVl
  simp_all [cV]

end Go.Proofs.YtfooincnmobemaaDoor.Pc

namespace Go.Proofs.YtfooincnmobemaaDoor.Ex
open Go.RowKit V Pk Vl Go.Proofs.YtfooincnmobemaaDoor.Nm Go.Proofs.YtfooincnmobemaaDoor.Pc
set_option linter.unusedVariables false
set_option linter.unusedSimpArgs false

theorem check_truth (b : Bool) : checkV (truthV b) = 0 := by cases b <;> decide
theorem check_int (n : Int) : checkV ⟨2, n, ⟨#[]⟩⟩ = 0 := ck_num n
theorem out_one {k : Int} (h : ¬ (k = 8 ∨ k = 9 ∨ k = 10)) : outF k = 1 := if_neg h
theorem out_two {k : Int} (h : k = 8 ∨ k = 9 ∨ k = 10) : outF k = 2 := if_pos h
theorem k_truthV (b : Bool) : (truthV b).k = 1 := by cases b <;> rfl
theorem lit_check {v : Vl} (h : litF v = 0) : checkV v = 0 := by
 unfold litF at h
 split at h
 ·cases h
 ·exact h
/-- A value of a kind, or Null. -/
def RelKV (k : Int) (v : Vl) : Prop := checkV v = 0 ∧ (v.k = k ∨ v.k = 0)
theorem rel_no : RelKV 0 noVl := ⟨ck_no, .inl rfl⟩
/-- An op that is fit for columns. -/
structure GoodO (l : List ColL) (o : OpL) : Prop where
  nm : o.nm.size ≤ maxLen
  ok : o.v.Ok
  ck : checkV o.v = 0
  k1 : 1 ≤ o.k
  k2 : o.k ≤ 11
  col : o.k = 2 → 0 ≤ colAt l o.nm
/-- A row that is fit for columns. -/
def GoodR (l : List ColL) (row : List Vl) : Prop := ∀ i : Nat, RelKV (l.getD i ⟨⟨#[]⟩, 0⟩).k (row.getD i noVl)
theorem is_or {a b : Int} (h : isF a b = true) : a = b ∨ a = 0 := by
 unfold isF at h
 simpa using h
theorem logic_kind {a b : Vl} {d : Int} (ha : checkV a = 0) (hb : checkV b = 0) (h1 : a.k = 1 ∨ a.k = 0) (h2 : b.k = 1 ∨ b.k = 0) : (logicF a b d).2 = 0 ∧ RelKV 1 (logicF a b d).1 := by
 unfold logicF
 rw [if_neg (by omega)]
 split
 ·exact ⟨rfl, ha, h1⟩
 ·split
  ·exact ⟨rfl, hb, h2⟩
  ·split
   ·exact ⟨rfl, ck_no, .inr rfl⟩
   ·exact ⟨rfl, ha, h1⟩
theorem both_ok {a b : Vl} (ha : checkV a = 0) (hb : checkV b = 0) : Cd.bothV a b = 0 := by unfold Cd.bothV; rw [ha, hb]; rfl
theorem two_logic {k : Int} {a b : Vl} (h : Cd.bothV a b = 0) (hk : k = 3 ∨ k = 4) : ∃ d, twoF k a b = logicF a b d := by
 unfold twoF
 rw [if_neg (by simp [h])]
 rcases hk with rfl | rfl
 ·exact ⟨0, if_pos rfl⟩
 ·exact ⟨1, by rw [if_neg (by decide), if_pos rfl]⟩
theorem two_less {k : Int} {a b : Vl} (h : Cd.bothV a b = 0) (hk : k = 6 ∨ k = 7) : twoF k a b = if nullF a b = true then (noVl, 0) else if a.k ≠ b.k then (noVl, 4) else (truthV ((Cd.cmpV a b == 0 && k == 6) || (decide (Cd.cmpV a b < 0) && k == 7)), 0) := by
 unfold twoF
 rw [if_neg (by simp [h]), if_neg (by omega), if_neg (by omega), if_pos hk]
theorem made_eval {l : List ColL} {row : List Vl} (hr : GoodR l row) {o : OpL} (ho : GoodO l o) {a b : Int} {va vb : Vl} (ha : RelKV a va) (hb : RelKV b vb) (h : (madeF l o a b).2 = 0) :
  (evalF l row o va vb).2 = 5 ∨ ((evalF l row o va vb).2 = 0 ∧ RelKV (madeF l o a b).1 (evalF l row o va vb).1) := by
 have k1 := ho.k1
 have k2 := ho.k2
 obtain ⟨ca, ka⟩ := ha
 obtain ⟨cb, kb⟩ := hb
 have hbo := both_ok ca cb
 unfold madeF at h ⊢
 by_cases e1 : o.k = 1
 ·rw [if_pos e1]
  have : evalF l row o va vb = (o.v, 0) := by unfold evalF popsF; rw [if_neg (by omega), if_neg (by rw [if_pos (.inl e1)]; omega), if_neg (by omega)] <;> (try rw [if_pos (.inl e1)]; omega)
  rw [this]
  exact .inr ⟨rfl, ho.ck, .inl rfl⟩
 ·rw [if_neg e1] at h ⊢
  by_cases e2 : o.k = 2
  ·rw [if_pos e2] at h ⊢
   have hp : popsF o.k = 0 := by unfold popsF; rw [if_pos (.inr e2)]
   have hc := ho.col e2
   have : evalF l row o va vb = (row.getD (colAt l o.nm).toNat noVl, 0) := by unfold evalF; rw [if_neg (by omega), if_neg (by omega), if_pos e2]
   rw [this]
   unfold kindAt
   rw [if_neg (by omega)]
   exact .inr ⟨rfl, hr _⟩
  ·rw [if_neg e2] at h ⊢
   have hok : okF o.k a b = true := by
    by_cases hk : okF o.k a b = true
    ·exact hk
    ·rw [if_neg hk] at h; cases h
   rw [if_pos hok]
   unfold okF at hok
   by_cases e5 : o.k = 5 ∨ o.k = 11
   ·have hp : popsF o.k = 1 := by unfold popsF; rw [if_neg (by omega), if_pos e5]
    have he : evalF l row o va vb = oneF o.k va := by unfold evalF; rw [if_pos hp]
    rw [he]
    unfold oneF
    rw [if_neg (by simp [ca])]
    rcases e5 with e5 | e5
    ·have n34 : ¬ (o.k = 3 ∨ o.k = 4) := by omega
     have n11 : ¬ o.k = 11 := by omega
     rw [if_neg n34, if_pos e5] at hok
     have hi := is_or hok
     rw [if_neg n11, if_pos e5, out_one (by omega)]
     by_cases z : va.k = 0
     ·rw [if_pos z]; exact .inr ⟨rfl, ca, .inr z⟩
     ·rw [if_neg z, if_pos (by omega)]; exact .inr ⟨rfl, check_truth _, .inl (k_truthV _)⟩
    ·rw [if_pos e5, out_one (by omega)]; exact .inr ⟨rfl, check_truth _, .inl (k_truthV _)⟩
   ·have hp : popsF o.k = 2 := by unfold popsF; rw [if_neg (by omega), if_neg e5]
    have he : evalF l row o va vb = twoF o.k va vb := by unfold evalF; rw [if_neg (by omega), if_pos hp]
    rw [he]
    by_cases e3 : o.k = 3 ∨ o.k = 4
    ·rw [if_pos e3, Bool.and_eq_true] at hok
     have i1 := is_or hok.1
     have i2 := is_or hok.2
     obtain ⟨d, hd⟩ := two_logic hbo e3
     rw [hd, out_one (by omega)]
     exact .inr (logic_kind ca cb (by omega) (by omega))
    ·have n5 : ¬ o.k = 5 := by omega
     rw [if_neg e3, if_neg n5] at hok
     by_cases e6 : o.k = 6 ∨ o.k = 7
     ·rw [if_pos e6, Bool.or_eq_true] at hok
      rw [two_less hbo e6, out_one (by omega)]
      by_cases hn : nullF va vb = true
      ·rw [if_pos hn]; exact .inr ⟨rfl, ck_no, .inr rfl⟩
      ·rw [if_neg hn]
       unfold nullF at hn
       simp only [Bool.or_eq_true, beq_iff_eq, not_or] at hn
       have hkk : va.k = vb.k := by
        rcases hok with hok | hok
        ·have := is_or hok; omega
        ·have : b = 0 := by simpa using hok
         omega
       rw [if_neg (by simpa using hkk)]
       exact .inr ⟨rfl, check_truth _, .inl (k_truthV _)⟩
     ·have e8 : o.k = 8 ∨ o.k = 9 ∨ o.k = 10 := by omega
      rw [if_neg e6, if_pos e8, Bool.and_eq_true] at hok
      have i1 := is_or hok.1
      have i2 := is_or hok.2
      rw [two_arith hbo e8 (by omega), out_two e8]
      split
      ·exact .inr ⟨rfl, ck_no, .inr rfl⟩
      ·split
       ·exact .inr ⟨rfl, check_int _, .inl rfl⟩
       ·exact .inl rfl
theorem cons_ok {α : Type} {z : α} {f : OpL → α → α → α × Int} {o : OpL} {r : List OpL} {st : List α} (h : (f o (argA z o.k st) (argB z o.k st)).2 = 0) : foldG z f (o :: r) st = foldG z f r (st.take (st.length - (popsF o.k).toNat) ++ [(f o (argA z o.k st) (argB z o.k st)).1]) := by
 rw [foldG, if_neg (by rw [h]; simp)]
theorem cons_bad {α : Type} {z : α} {f : OpL → α → α → α × Int} {o : OpL} {r : List OpL} {st : List α} (h : (f o (argA z o.k st) (argB z o.k st)).2 ≠ 0) : foldG z f (o :: r) st = (z, (f o (argA z o.k st) (argB z o.k st)).2) := by
 rw [foldG, if_pos h]
def RelL (ks : List Int) (vs : List Vl) : Prop := ks.length = vs.length ∧ ∀ i : Nat, RelKV (ks.getD i 0) (vs.getD i noVl)
theorem getD_cut {α : Type} (z x : α) (l : List α) (n i : Nat) (hn : n ≤ l.length) : (l.take n ++ [x]).getD i z = if i < n then l.getD i z else if i = n then x else z := by
 have hl : (l.take n).length = n := by rw [List.length_take]; omega
 by_cases h1 : i < n
 ·rw [if_pos h1, List.getD_eq_getElem?_getD, List.getD_eq_getElem?_getD, List.getElem?_append_left (by omega), List.getElem?_take, if_pos h1]
 ·rw [if_neg h1, List.getD_eq_getElem?_getD, List.getElem?_append_right (by omega), hl]
  by_cases h2 : i = n
  ·rw [if_pos h2, h2, Nat.sub_self]; rfl
  ·rw [if_neg h2, List.getElem?_eq_none (by rw [List.length_singleton]; omega)]; rfl
theorem rel_cut {ks : List Int} {vs : List Vl} (h : RelL ks vs) {k : Int} {v : Vl} (hr : RelKV k v) {n : Nat} (hn : n ≤ ks.length) : RelL (ks.take n ++ [k]) (vs.take n ++ [v]) := by
 have hl := h.1
 refine ⟨by simp only [List.length_append, List.length_take, List.length_singleton]; omega, fun i => ?_⟩
 rw [getD_cut _ _ _ _ _ hn, getD_cut _ _ _ _ _ (by omega)]
 split
 ·exact h.2 i
 ·split
  ·exact hr
  ·exact rel_no
theorem rel_arg {ks : List Int} {vs : List Vl} (h : RelL ks vs) (k : Int) : RelKV (argA 0 k ks) (argA noVl k vs) ∧ RelKV (argB 0 k ks) (argB noVl k vs) := by
 have hl := h.1
 unfold argA argB
 rw [hl]
 refine ⟨?_, ?_⟩
 ·split
  ·exact h.2 _
  ·exact rel_no
 ·split
  ·exact h.2 _
  ·exact rel_no
theorem fold_told {l : List ColL} {row : List Vl} (hr : GoodR l row) : ∀ (ops : List OpL), (∀ o ∈ ops, GoodO l o) → ∀ (ks : List Int) (vs : List Vl), RelL ks vs → (foldG 0 (madeF l) ops ks).2 = 0 →
  (foldG noVl (evalF l row) ops vs).2 = 5 ∨ ((foldG noVl (evalF l row) ops vs).2 = 0 ∧ RelKV (foldG 0 (madeF l) ops ks).1 (foldG noVl (evalF l row) ops vs).1)
 | [], _, ks, vs, h, _ => .inr ⟨rfl, h.2 0⟩
 | o :: r, hg, ks, vs, h, h0 => by
  obtain ⟨hA, hB⟩ := rel_arg h o.k
  by_cases hm : (madeF l o (argA 0 o.k ks) (argB 0 o.k ks)).2 = 0
  ·rw [cons_ok hm] at h0 ⊢
   rcases made_eval hr (hg o List.mem_cons_self) hA hB hm with h5 | ⟨hz, hrel⟩
   ·rw [cons_bad (by rw [h5]; decide)]
    exact .inl h5
   ·rw [cons_ok hz]
    have := rel_cut h hrel (n := ks.length - (popsF o.k).toNat) (Nat.sub_le _ _)
    rw [show vs.length - (popsF o.k).toNat = ks.length - (popsF o.k).toNat by rw [h.1]]
    exact fold_told hr r (fun x hx => hg x (List.mem_cons_of_mem _ hx)) _ _ this h0
  ·rw [cons_bad hm] at h0; exact absurd h0 hm
theorem made_err {l : List ColL} {o : OpL} (ho : GoodO l o) (a b : Int) : (madeF l o a b).2 = 0 ∨ (madeF l o a b).2 = 4 := by
 unfold madeF
 split
 ·exact .inl rfl
 ·split
  ·rename_i h2
   have := ho.col h2
   unfold kindAt
   rw [if_neg (by omega)]
   exact .inl rfl
  ·split
   ·exact .inl rfl
   ·exact .inr rfl
theorem kind_err {l : List ColL} : ∀ (ops : List OpL), (∀ o ∈ ops, GoodO l o) → ∀ ks, (foldG 0 (madeF l) ops ks).2 = 0 ∨ (foldG 0 (madeF l) ops ks).2 = 4
 | [], _, ks => .inl rfl
 | o :: r, hg, ks => by
  rw [foldG]
  split
  ·rename_i hne
   rcases made_err (hg o List.mem_cons_self) (argA 0 o.k ks) (argB 0 o.k ks) with h | h
   ·exact absurd h hne
   ·exact .inr h
  ·exact kind_err r (fun x hx => hg x (List.mem_cons_of_mem _ hx)) _
theorem rel_nil : RelL [] [] := ⟨rfl, fun i => by rw [List.getD_nil, List.getD_nil]; exact rel_no⟩
/-- What Kind and Eval answer of ops that are fit. -/
theorem kind_eval {l : List ColL} {row : List Vl} {ops : List OpL} (hl : colsF l = 0) (hw : rowF l row = 0) (hr : GoodR l row) (hg : ∀ o ∈ ops, GoodO l o) (hx : exprF ops = 0) :
    kindR l ops = kindF l ops ∧ ((kindR l ops).2 = 0 ∨ (kindR l ops).2 = 4) ∧ ((kindR l ops).2 = 4 → evalR l row ops = (noVl, 4)) ∧
    ((kindR l ops).2 = 0 → evalR l row ops = foldV l row ops ∧ ((evalR l row ops).2 = 5 ∨ ((evalR l row ops).2 = 0 ∧ RelKV (kindR l ops).1 (evalR l row ops).1))) := by
  have hk : kindR l ops = kindF l ops := by unfold kindR; rw [if_neg (by simp [hl]), if_neg (by simp [hx])]
  refine ⟨hk, by rw [hk]; exact kind_err ops hg [], fun h4 => ?_, fun h0 => ?_⟩
  · unfold evalR; rw [if_neg (by simp [hw]), if_pos (by rw [h4]; decide), h4]
  · have he : evalR l row ops = foldV l row ops := by unfold evalR; rw [if_neg (by simp [hw]), if_neg (by simp [h0])]
    refine ⟨he, ?_⟩
    rw [he, hk]
    exact fold_told hr ops hg [] [] rel_nil (by rw [hk] at h0; exact h0)

/-! ### Ops of twigs, the columns and rows of the statements -/
theorem at_id : colAt colsL ⟨#[105, 100]⟩ = 0 := by decide +kernel
theorem at_n : colAt colsL ⟨#[110]⟩ = 1 := by decide +kernel
theorem at_s : colAt colsL ⟨#[115]⟩ = 2 := by decide +kernel
theorem at_b : colAt colsL ⟨#[98]⟩ = 3 := by decide +kernel
theorem at_name (j : Int) : 0 ≤ colAt colsL (nameC j) := by
 unfold nameC
 split
 ·rw [at_id]; decide
 ·split
  ·rw [at_n]; decide
  ·split
   ·rw [at_s]; decide
   ·rw [at_b]; decide
theorem name_small (j : Int) : (nameC j).size ≤ 2 := by
 unfold nameC
 split
 ·decide
 ·split
  ·decide
  ·split <;> decide
theorem lit_ok (n : Int) (s : ByteArray) : (litV n s).Ok := by
 have h1 := pickedF_bd n (by decide : (1 : Int) ≤ 40)
 have h2 := pickedF_bd (pickedF n 40 - 20) (by decide : (1 : Int) ≤ 2)
 have hc : ∀ x : ByteArray, (cutF x 4).size ≤ 4 := fun x => by rw [cutF_size]; omega
 have hm : 4 ≤ maxLen := by decide
 have hv : ∀ v : Vl, (0 ≤ v.k ∧ v.k ≤ 3) → (-20 ≤ v.n ∧ v.n ≤ 20) → ({ v with s := cutF v.s 4 } : Vl).Ok := fun v hk hn => ⟨by show _ ≤ v.k; omega, by show v.k ≤ _; omega, by show _ ≤ v.n; omega, by show v.n ≤ _; omega, Nat.le_trans (hc _) hm⟩
 unfold litV
 refine hv _ ?_ ?_
 ·unfold valueF noVl
  repeat' split
  all_goals (simp only []; omega)
 ·unfold valueF noVl
  repeat' split
  all_goals (simp only []; omega)
theorem good_lit (l : List ColL) (n : Int) (s : ByteArray) : GoodO l (litOp n s) := ⟨Nat.zero_le _, lit_ok n s, lit_check (lit_litV n s), by show (1 : Int) ≤ 1; decide, by show (1 : Int) ≤ 11; decide, fun h => absurd h (by show ¬ (1 : Int) = 2; decide)⟩
theorem good_col (n : Int) : GoodO colsL (colOp n) := ⟨Nat.le_trans (name_small _) (by decide), ok_no, ck_no, by show (1 : Int) ≤ 2; decide, by show (2 : Int) ≤ 11; decide, fun _ => at_name _⟩
theorem good_bare (l : List ColL) {k : Int} (h1 : 3 ≤ k) (h2 : k ≤ 11) : GoodO l (bareOp k) := ⟨Nat.zero_le _, ok_no, ck_no, by show 1 ≤ k; omega, h2, fun h => absurd h (by show ¬ k = 2; omega)⟩
theorem good_leaf (k n : Int) (s : ByteArray) : ∀ o ∈ leafOps k n s, GoodO colsL o := fun o ho => by
 unfold leafOps at ho
 split at ho <;> (rw [List.mem_singleton] at ho; subst ho)
 ·exact good_col n
 ·exact good_lit _ n s
theorem good_ops : ∀ (r : Nat) (t : Tw), ∀ o ∈ opsAt r t, GoodO colsL o
 | 0, .mk k n s ts => good_leaf k n s
 | r + 1, .mk k n s ts => by
  have hsub : ∀ i : Nat, ∀ o ∈ subO r ts n s i, GoodO colsL o := fun i => by
   unfold subO
   split
   ·exact good_ops r _
   ·exact good_leaf _ _ _
  have hk := pickedF_bd k (by decide : (1 : Int) ≤ 11)
  intro o ho
  rw [ops_step] at ho
  split at ho
  ·rw [List.mem_singleton] at ho; subst ho; exact good_lit _ n s
  ·split at ho
   ·rw [List.mem_singleton] at ho; subst ho; exact good_col n
   ·split at ho
    ·rcases List.mem_append.1 ho with ho | ho
     ·exact hsub 0 o ho
     ·rw [List.mem_singleton] at ho; subst ho; exact good_bare _ (by omega) (by omega)
    ·rcases List.mem_append.1 ho with ho | ho
     ·rcases List.mem_append.1 ho with ho | ho
      ·exact hsub 0 o ho
      ·exact hsub 1 o ho
     ·rw [List.mem_singleton] at ho; subst ho; exact good_bare _ (by omega) (by omega)
/-- The row of raw numbers. -/
def rowL (a b : Int) (s : ByteArray) (c : Int) : List Vl := [numV (pickedF a 12), numV (pickedF b 9), txtV (wordF (cutF s 2)), truthF c]
theorem row_good (a b : Int) (s : ByteArray) (c : Int) : rowF colsL (rowL a b s c) = 0 ∧ GoodR colsL (rowL a b s c) := by
 have f0 : fitV 0 ⟨⟨#[105, 100]⟩, 2⟩ (numV (pickedF a 12)) = 0 := fit_ok (ck_num _) (.inl rfl)
 have f1 : fitV 1 ⟨⟨#[110]⟩, 2⟩ (numV (pickedF b 9)) = 0 := fit_ok (ck_num _) (.inl rfl)
 have f2 : fitV 2 ⟨⟨#[115]⟩, 3⟩ (txtV (wordF (cutF s 2))) = 0 := fit_ok (ck_txt (word_small _)) (.inl rfl)
 have f3 : fitV 3 ⟨⟨#[98]⟩, 1⟩ (truthF c) = 0 := fit_ok (ck_truth _) ((k_truth c).elim (fun h => .inr ⟨h, by decide⟩) .inl)
 refine ⟨by unfold rowL; rw [row_4]; simp [rowA, colsL, f0, f1, f2, f3], fun i => ?_⟩
 match i with
 | 0 => exact ⟨ck_num _, .inl rfl⟩
 | 1 => exact ⟨ck_num _, .inl rfl⟩
 | 2 => exact ⟨ck_txt (word_small _), .inl rfl⟩
 | 3 => exact ⟨ck_truth _, (k_truth c).elim .inr .inl⟩
 | j + 4 => exact rel_no
theorem row_ok (a b : Int) (s : ByteArray) (c : Int) : ∀ v ∈ rowL a b s c, v.Ok := fun v hv => by
 have h1 := pickedF_bd a (by decide : (1 : Int) ≤ 12)
 have h2 := pickedF_bd b (by decide : (1 : Int) ≤ 9)
 have h3 := pickedF_bd c (by decide : (1 : Int) ≤ 3)
 simp only [rowL, List.mem_cons, List.not_mem_nil, or_false] at hv
 rcases hv with rfl | rfl | rfl | rfl
 ·exact ok_int (by omega)
 ·exact ok_int (by omega)
 ·exact ⟨by show _ ≤ (3 : Int); decide, by show (3 : Int) ≤ _; decide, by show _ ≤ (0 : Int); decide, by show (0 : Int) ≤ _; decide, Nat.le_trans (word_small _) (by decide)⟩
 ·unfold truthF
  split
  ·exact ok_no
  ·exact ⟨by show _ ≤ (1 : Int); decide, by show (1 : Int) ≤ _; decide, by show _ ≤ pickedF c 3; omega, by show pickedF c 3 ≤ _; omega, Nat.zero_le _⟩

end Go.Proofs.YtfooincnmobemaaDoor.Ex

namespace Go.Proofs.YtfooincnmobemaaDoor.Pc
open Go.RowKit V Pk Vl Go.Proofs.YtfooincnmobemaaDoor.Nm
set_option linter.unusedVariables false
set_option linter.unusedSimpArgs false


def typesB : List (List UInt8) := [[], [66, 79, 79, 76], [73, 78, 84], [84, 69, 88, 84]]
abbrev TypesTab (w : World) : Prop := Tab.TabAt w 2 typesC
abbrev TG : List (Nat × List Value) := [(3, marksC), (0, wordsC), (2, typesC)]
theorem tg1 : (3, marksC) ∈ TG := List.mem_cons_self
theorem tg2 : (0, wordsC) ∈ TG := List.mem_cons_of_mem _ List.mem_cons_self
theorem tg3 : (2, typesC) ∈ TG := List.mem_cons_of_mem _ (List.mem_cons_of_mem _ List.mem_cons_self)
end Go.Proofs.YtfooincnmobemaaDoor.Pc

namespace Go.Proofs.YtfooincnmobemaaDoor.Ex
open Go.RowKit V Pk Vl Go.Proofs.YtfooincnmobemaaDoor.Nm Go.Proofs.YtfooincnmobemaaDoor.Pc
set_option linter.unusedVariables false
set_option linter.unusedSimpArgs false

theorem rowL_len (a b : Int) (s : ByteArray) (c : Int) : (rowL a b s c).length = 4 := rfl
variable {G : List (Nat × List Value)}
/-- Expressions that are fit: what Kind and Eval answer of them, with the columns and the row of the statements. -/
structure FitE (ops : List OpL) (row : List Vl) : Prop where
  ke : (kindR colsL ops).2 = 0 ∨ (kindR colsL ops).2 = 4
  bad : (kindR colsL ops).2 = 4 → evalR colsL row ops = (noVl, 4)
  good : (kindR colsL ops).2 = 0 → evalR colsL row ops = foldV colsL row ops ∧ ((evalR colsL row ops).2 = 5 ∨ ((evalR colsL row ops).2 = 0 ∧ RelKV (kindR colsL ops).1 (evalR colsL row ops).1))
theorem fit_ops (a b : Int) (s : ByteArray) (c : Int) {ops : List OpL} (hg : ∀ o ∈ ops, GoodO colsL o) (hx : exprF ops = 0) : FitE ops (rowL a b s c) := by
 obtain ⟨h1, h2⟩ := row_good a b s c
 obtain ⟨q1, q2, q3, q4⟩ := kind_eval cols_ok h1 h2 hg hx
 exact ⟨q2, q3, q4⟩

theorem places33_Ex5 : ∀ w, ((#[{ name := "Kind", type := 3, offset := 0, embedded := false, tag := "", pkgPath := "", byteOffset := 0 }, { name := "Int", type := 3, offset := 1, embedded := false, tag := "", pkgPath := "", byteOffset := 8 }, { name := "Text", type := 9, offset := 2, embedded := false, tag := "", pkgPath := "", byteOffset := 16 }] : Array Field).mapM fun f => do pure (f.offset, ← sizeOf f.type) : Sem (Array (Nat × Nat))).run Tryd.prog w = .ok #[(0, 1), (1, 1), (2, 1)] w := fun w => by simp [Tryd.sizeOf3, Tryd.sizeOf9]

set_option maxHeartbeats 4000000 in
set_option maxRecDepth 100000 in
theorem rowOf_vp (a : Int) (a1 : -9223372036854775808 ≤ a) (a2 : a ≤ 9223372036854775807) (b : Int) (b1 : -9223372036854775808 ≤ b) (b2 : b ≤ 9223372036854775807) (s : ByteArray) (hs : s.size ≤ maxLen) (c : Int) (c1 : -9223372036854775808 ≤ c) (c2 : c ≤ 9223372036854775807) : VP Tryd.prog G 12 [.v (.int .i64 a), .v (.int .i64 b), .v (.string s), .v (.int .i64 c)] (.list 3 ((rowL a b s c).flatMap cV) (rowL a b s c).length) := by
 refine VC.body Tryd.func12 rfl Tryd.ntmps12 (Nat.le_of_ble_eq_true rfl) fun X0 w0 S00 => ?_
 refine CD.seq ?_
 refine CD.region ?_
 refine OD.still (wants_plain rfl) rfl (still_as rfl opd_const) ?_
 refine OD.wk (Wk.as_ (n := 22) (l' := [(0, _), (1, _), (2, _), (3, _)]) (S' := []) rfl rfl ⟨lk, lk, lk, lk, trivial⟩) ?_
 refine OD.nil ?_
 refine CD.seq ?_
 refine CD.region ?_
 refine OD.still (wants_plain rfl) rfl (still_mv rfl ot) ?_
 refine OD.callP (wants_plain rfl) rfl rfl rfl Tryd.call15 (picked_vp G a 12 a1 a2 (by decide)) ⟨ot, opd_const, trivial⟩ ?_
 refine OD.still (wants_plain rfl) rfl (still_bld (pl := [(0, _), (1, _)]) (ds := [_, _, _]) rfl Tryd.zeroValue33 Tryd.runUnderlying33 places33_Ex5 ⟨rfl, opd_const, rfl, ot, trivial⟩ rfl rfl) ?_
 refine OD.still (wants_plain rfl) rfl (still_mv rfl ot) ?_
 refine OD.callP (wants_plain rfl) rfl rfl rfl Tryd.call15 (picked_vp G b 9 b1 b2 (by decide)) ⟨ot, opd_const, trivial⟩ ?_
 refine OD.still (wants_plain rfl) rfl (still_bld (pl := [(0, _), (1, _)]) (ds := [_, _, _]) rfl Tryd.zeroValue33 Tryd.runUnderlying33 places33_Ex5 ⟨rfl, opd_const, rfl, ot, trivial⟩ rfl rfl) ?_
 refine OD.still (wants_plain rfl) rfl (still_mv rfl ot) ?_
 refine OD.callP (wants_plain rfl) rfl rfl rfl Tryd.call26 (cut_vp s 2 hs) ⟨ot, opd_const, trivial⟩ ?_
 refine OD.callP (wants_plain rfl) rfl rfl rfl Tryd.call25 (Nm.word_vp (cutF s 2) (by rw [cutF_size]; exact Nat.le_trans (Nat.min_le_left _ _) hs)) ⟨ot, trivial⟩ ?_
 refine OD.still (wants_plain rfl) rfl (still_bld (pl := [(0, _), (2, _)]) (ds := [_, _, _]) rfl Tryd.zeroValue33 Tryd.runUnderlying33 places33_Ex5 ⟨rfl, opd_const, rfl, ot, trivial⟩ rfl rfl) ?_
 refine OD.still (wants_plain rfl) rfl (still_mv rfl ot) ?_
 refine OD.callP (wants_plain rfl) rfl rfl rfl Tryd.call27 (Pc.truth_vp c c1 c2) ⟨ot, trivial⟩ ?_
 refine OD.bldS (pl := numD 0 [_, _, _, _]) (zvs := [.int .i64 0, .int .i64 0, .string ⟨#[]⟩, .int .i64 0, .int .i64 0, .string ⟨#[]⟩, .int .i64 0, .int .i64 0, .string ⟨#[]⟩, .int .i64 0, .int .i64 0, .string ⟨#[]⟩]) (ds := [_, _, _, _, _, _, _, _, _, _, _, _]) (wants_plain rfl) rfl rfl Tryd.zeroValue33 Tryd.runUnderlying36 Tryd.sizeOf33 rfl rfl (by kernel_rfl) ⟨rfl, ot, rfl, ot, rfl, ot, rfl, ot, trivial⟩ (by exact rfl) (fill_full (by exact rfl) (by exact rfl) (by exact rfl)) (fun b21 => ?_)
 refine OD.perm (perm_q11 (S1 := [⟨b21, 33, 4 * 3, List.flatMap cV ([numV (pickedF a 12), numV (pickedF b 9), txtV (wordF (cutF s 2)), truthF c])⟩]) (A := [])) ?_
 refine OD.still (wants_plain rfl) rfl (still_as rfl ot) ?_
 refine OD.wk (Wk.as_ (n := 22) (l' := [(8, _)]) (S' := ([⟨b21, 33, 4 * 3, List.flatMap cV ([numV (pickedF a 12), numV (pickedF b 9), txtV (wordF (cutF s 2)), truthF c])⟩])) rfl rfl ⟨lk, trivial⟩) ?_
 refine OD.nil ?_
 refine CD.giveL (t := 8) (Sq := [⟨b21, 33, 4 * 3, List.flatMap cV ([numV (pickedF a 12), numV (pickedF b 9), txtV (wordF (cutF s 2)), truthF c])⟩]) lk (ownL_row (g := cV) (sz := 3) (e := 33) (ls := [numV (pickedF a 12), numV (pickedF b 9), txtV (wordF (cutF s 2)), truthF c]) (Nat.le_refl _) (show 4 ≤ maxLen by decide)) (fm_len cV_len _) (perm_r11 (A := [])) ?_
 refine CD.ret ?_
 refine ⟨.inr rfl, _, [], List.nil_sublist _, ret_one Tryd.results12 (res_tmp (Nat.le_of_ble_eq_true rfl) lk), ?_⟩
 exact ⟨rfl, rfl⟩

theorem Eval_at (hm : (3, marksC) ∈ G) (hw : (0, wordsC) ∈ G) (ht : (2, typesC) ∈ G) (a b : Int) (s : ByteArray) (c : Int) (ops : List OpL) (hg : ∀ o ∈ ops, GoodO colsL o) : VP Tryd.prog G 11 [.list 2 (colsL.flatMap cC) colsL.length, .list 3 ((rowL a b s c).flatMap cV) (rowL a b s c).length, .list 5 (ops.flatMap cO) ops.length] (vlD (evalR colsL (rowL a b s c) ops)) :=
 Eval_vp hm hw ht colsL (by decide) cols_sz (rowL a b s c) (by rw [rowL_len]; decide) (row_ok a b s c) ops (fun o ho => (hg o ho).nm) (fun o ho => (hg o ho).ok)

theorem tgx {w : World} (h1 : MarksTab w) (h2 : WordsTab w) (h3 : TypesTab w) : ∀ g ∈ TG, g.2 ≠ [] ∧ TabX w g.1 g.2 := fun g hg => by
 simp only [TG, List.mem_cons, List.not_mem_nil, or_false] at hg
 rcases hg with rfl | rfl | rfl
 ·exact ⟨by decide, .of h1 rfl⟩
 ·exact ⟨by decide, .of h2 rfl⟩
 ·exact ⟨by decide, .of h3 rfl⟩
end Go.Proofs.YtfooincnmobemaaDoor.Ex

namespace Go.Proofs.YtfooincnmobemaaDoor.Ex
open Go.RowKit V Pk Vl Go.Proofs.YtfooincnmobemaaDoor.Nm Go.Proofs.YtfooincnmobemaaDoor.Pc
set_option linter.unusedVariables false
set_option linter.unusedSimpArgs false

/-! ### Ops over a stack, part by part -/
def stkG {α : Type} (z : α) (f : OpL → α → α → α × Int) : List OpL → List α → List α × Int
 | [], st => (st, 0)
 | o :: r, st =>
  if (f o (argA z o.k st) (argB z o.k st)).2 ≠ 0 then ([], (f o (argA z o.k st) (argB z o.k st)).2)
  else stkG z f r (st.take (st.length - (popsF o.k).toNat) ++ [(f o (argA z o.k st) (argB z o.k st)).1])
section
variable {α : Type} {z : α} {f : OpL → α → α → α × Int}
theorem stk_ok {o : OpL} {r : List OpL} {st : List α} (h : (f o (argA z o.k st) (argB z o.k st)).2 = 0) : stkG z f (o :: r) st = stkG z f r (st.take (st.length - (popsF o.k).toNat) ++ [(f o (argA z o.k st) (argB z o.k st)).1]) := by
 rw [stkG, if_neg (by rw [h]; simp)]
theorem stk_bad {o : OpL} {r : List OpL} {st : List α} (h : (f o (argA z o.k st) (argB z o.k st)).2 ≠ 0) : stkG z f (o :: r) st = ([], (f o (argA z o.k st) (argB z o.k st)).2) := by
 rw [stkG, if_pos h]
theorem fold_stk : ∀ (ops : List OpL) (st : List α), foldG z f ops st = if (stkG z f ops st).2 ≠ 0 then (z, (stkG z f ops st).2) else ((stkG z f ops st).1.getD 0 z, 0)
 | [], st => rfl
 | o :: r, st => by
  by_cases h : (f o (argA z o.k st) (argB z o.k st)).2 = 0
  ·rw [cons_ok h, stk_ok h]; exact fold_stk r _
  ·rw [cons_bad h, stk_bad h, if_pos h]
theorem stk_append : ∀ (a b : List OpL) (st : List α), (stkG z f a st).2 = 0 → stkG z f (a ++ b) st = stkG z f b (stkG z f a st).1
 | [], b, st, _ => rfl
 | o :: r, b, st, h => by
  by_cases he : (f o (argA z o.k st) (argB z o.k st)).2 = 0
  ·rw [stk_ok he] at h ⊢; rw [List.cons_append, stk_ok he]; exact stk_append r b _ h
  ·rw [stk_bad he] at h; exact absurd h he
theorem arg_frame (k : Int) (s0 st : List α) (h : popsF k ≤ st.length) : argA z k (s0 ++ st) = argA z k st ∧ argB z k (s0 ++ st) = argB z k st := by
 have hp := pops_bd k
 unfold argA argB
 refine ⟨?_, ?_⟩
 ·split
  ·rw [List.getD_eq_getElem?_getD, List.getD_eq_getElem?_getD, List.length_append, List.getElem?_append_right (by omega)]
   congr 2; omega
  ·rfl
 ·split
  ·rw [List.getD_eq_getElem?_getD, List.getD_eq_getElem?_getD, List.length_append, List.getElem?_append_right (by omega)]
   congr 2; omega
  ·rfl
theorem take_frame (k : Int) (s0 st : List α) (h : popsF k ≤ st.length) : (s0 ++ st).take ((s0 ++ st).length - (popsF k).toNat) = s0 ++ st.take (st.length - (popsF k).toNat) := by
 have hp := pops_bd k
 rw [List.length_append, show s0.length + st.length - (popsF k).toNat = s0.length + (st.length - (popsF k).toNat) by omega, List.take_length_add_append]
theorem next_len (k : Int) (st : List α) (x : α) (h : popsF k ≤ st.length) : (((st.take (st.length - (popsF k).toNat) ++ [x]).length : Nat) : Int) = st.length + (1 - popsF k) := by
 have hp := pops_bd k
 rw [List.length_append, List.length_take, List.length_singleton]; omega
theorem stk_frame : ∀ (ops : List OpL) (s0 st : List α) (h' : Int), runs st.length ops = some h' → (stkG z f ops st).2 = 0 → stkG z f ops (s0 ++ st) = (s0 ++ (stkG z f ops st).1, 0) ∧ (((stkG z f ops st).1.length : Nat) : Int) = h'
 | [], s0, st, h', hr, _ => by cases hr; exact ⟨rfl, rfl⟩
 | o :: r, s0, st, h', hr, h0 => by
  rw [runs] at hr
  split at hr
  ·rename_i he
   have hp := (err_pops he).1
   obtain ⟨a1, a2⟩ := arg_frame (z := z) o.k s0 st hp
   by_cases hz : (f o (argA z o.k st) (argB z o.k st)).2 = 0
   ·rw [stk_ok hz] at h0 ⊢
    rw [stk_ok (by rw [a1, a2]; exact hz), a1, a2, take_frame o.k s0 st hp, List.append_assoc]
    exact stk_frame r s0 _ h' (by rw [next_len o.k st _ hp]; exact hr) h0
   ·rw [stk_bad hz] at h0; exact absurd h0 hz
  ·cases hr
end
theorem two_err {k : Int} {a b : Vl} (h : (twoF k a b).2 ≠ 0) : (twoF k a b).1 = noVl := by
 have hl : ∀ d, (logicF a b d).2 ≠ 0 → (logicF a b d).1 = noVl := fun d h => by
  unfold logicF at h ⊢
  repeat' split at h
  all_goals first | exact absurd rfl h | skip
  rename_i hb
  rw [if_pos hb]
 unfold twoF at h ⊢
 split at h
 ·rename_i c; rw [if_pos c]
 ·rename_i c0; rw [if_neg c0]
  split at h
  ·rename_i c; rw [if_pos c]; exact hl 0 h
  ·rename_i c1; rw [if_neg c1]
   split at h
   ·rename_i c; rw [if_pos c]; exact hl 1 h
   ·rename_i c2; rw [if_neg c2]
    split at h
    ·rename_i c; rw [if_pos c]
     split at h
     ·exact absurd rfl h
     ·rename_i c3; rw [if_neg c3]
      split at h
      ·rename_i c4; rw [if_pos c4]
      ·exact absurd rfl h
    ·rename_i c3; rw [if_neg c3]
     split at h
     ·rename_i c; rw [if_pos c]
      split at h
      ·rename_i c4; rw [if_pos c4]
      ·rename_i c4; rw [if_neg c4]
       split at h
       ·exact absurd rfl h
       ·rename_i c5; rw [if_neg c5]
        split at h
        ·exact absurd rfl h
        ·rename_i c6; rw [if_neg c6]
     ·rename_i c; rw [if_neg c]
theorem one_err {k : Int} {a : Vl} (h : (oneF k a).2 ≠ 0) : (oneF k a).1 = noVl := by
 unfold oneF at h ⊢
 split at h
 ·rename_i c; rw [if_pos c]
 ·rename_i c0; rw [if_neg c0]
  split at h
  ·exact absurd rfl h
  ·rename_i c1; rw [if_neg c1]
   split at h
   ·rename_i c; rw [if_pos c]
    split at h
    ·exact absurd rfl h
    ·rename_i c2; rw [if_neg c2]
     split at h
     ·exact absurd rfl h
     ·rename_i c3; rw [if_neg c3]
   ·rename_i c; rw [if_neg c]
/-- An expression that leaves one thing. -/
theorem stk_one {l : List ColL} {row : List Vl} {x : List OpL} (hr : runs 0 x = some 1) (h : (foldV l row x).2 = 0) (s0 : List Vl) : stkG noVl (evalF l row) x s0 = (s0 ++ [(foldV l row x).1], 0) := by
  unfold foldV at h ⊢
  rw [fold_stk] at h ⊢
  have h0 : (stkG noVl (evalF l row) x []).2 = 0 := by
    by_cases hz : (stkG noVl (evalF l row) x []).2 = 0
    · exact hz
    · rw [if_pos hz] at h; exact absurd h hz
  obtain ⟨q1, q2⟩ := stk_frame x s0 [] 1 hr h0
  rw [List.append_nil] at q1
  rw [q1, if_neg (by simpa using h0)]
  have hl : (stkG noVl (evalF l row) x []).1.length = 1 := by omega
  obtain ⟨v, hv⟩ := List.length_eq_one_iff.1 hl
  rw [hv]; rfl
/-- An op behind two expressions works on what they make. -/
theorem fold_two {l : List ColL} {row : List Vl} {x y : List OpL} {k : Int} (hx : runs 0 x = some 1) (hy : runs 0 y = some 1) (h1 : (foldV l row x).2 = 0) (h2 : (foldV l row y).2 = 0) (hk : popsF k = 2) : foldV l row ((x ++ y) ++ [bareOp k]) = twoF k (foldV l row x).1 (foldV l row y).1 := by
  have e1 := stk_one hx h1 []
  have e2 := stk_one hy h2 [(foldV l row x).1]
  have e3 : stkG noVl (evalF l row) (x ++ y) [] = ([(foldV l row x).1, (foldV l row y).1], 0) := by rw [stk_append _ _ _ (by rw [e1]), e1]; exact e2
  show foldG noVl (evalF l row) ((x ++ y) ++ [bareOp k]) [] = _
  rw [fold_stk, stk_append _ _ _ (by rw [e3]), e3]
  generalize (foldV l row x).1 = v
  generalize (foldV l row y).1 = w
  have ha : argA noVl (bareOp k).k [v, w] = v := by unfold argA; rw [show (bareOp k).k = k from rfl, hk]; rfl
  have hb : argB noVl (bareOp k).k [v, w] = w := by unfold argB; rw [show (bareOp k).k = k from rfl, hk]; rfl
  have hev : evalF l row (bareOp k) v w = twoF k v w := by unfold evalF; rw [show (bareOp k).k = k from rfl, hk]; rfl
  by_cases hz : (twoF k v w).2 = 0
  · rw [stk_ok (by rw [ha, hb, hev]; exact hz), ha, hb, hev, show (bareOp k).k = k from rfl, hk]
    show (if (0 : Int) ≠ 0 then _ else ((twoF k v w).1, (0 : Int))) = _
    rw [if_neg (by simp), ← hz]
  · rw [stk_bad (by rw [ha, hb, hev]; exact hz), ha, hb, hev]
    show (if (twoF k v w).2 ≠ 0 then (noVl, (twoF k v w).2) else _) = _
    rw [if_pos hz, ← two_err hz]
theorem fold_one {l : List ColL} {row : List Vl} {x : List OpL} {k : Int} (hx : runs 0 x = some 1) (h1 : (foldV l row x).2 = 0) (hk : popsF k = 1) : foldV l row (x ++ [bareOp k]) = oneF k (foldV l row x).1 := by
 have e1 := stk_one hx h1 []
 show foldG noVl (evalF l row) (x ++ [bareOp k]) [] = _
 rw [fold_stk, stk_append _ _ _ (by rw [e1]), e1]
 generalize (foldV l row x).1 = v
 have ha : argA noVl (bareOp k).k [v] = v := by unfold argA; rw [show (bareOp k).k = k from rfl, hk]; rfl
 have hev : ∀ w, evalF l row (bareOp k) v w = oneF k v := fun w => by unfold evalF; rw [show (bareOp k).k = k from rfl, hk]; rfl
 rw [List.nil_append]
 by_cases hz : (oneF k v).2 = 0
 ·rw [stk_ok (by rw [ha, hev]; exact hz), ha, hev, show (bareOp k).k = k from rfl, hk]
  show (if (0 : Int) ≠ 0 then _ else ((oneF k v).1, (0 : Int))) = _
  rw [if_neg (by simp), ← hz]
 ·rw [stk_bad (by rw [ha, hev]; exact hz), ha, hev]
  show (if (oneF k v).2 ≠ 0 then (noVl, (oneF k v).2) else _) = _
  rw [if_pos hz, ← one_err hz]
/-- What Eval answers when it does not fail. -/
theorem eval_good {ops : List OpL} {row : List Vl} (hf : FitE ops row) (h : (evalR colsL row ops).2 = 0) : (kindR colsL ops).2 = 0 ∧ evalR colsL row ops = foldV colsL row ops := by
  rcases hf.ke with hk | hk
  · exact ⟨hk, (hf.good hk).1⟩
  · rw [hf.bad hk] at h; exact absurd h (by decide)
theorem expr_two {x y : List OpL} {k : Int} (hx : runs 0 x = some 1) (hy : runs 1 y = some 2) (hl : x.length + y.length ≤ 30) (h3 : 3 ≤ k) (h11 : k ≤ 11) (hk : popsF k = 2) : exprF ((x ++ y) ++ [bareOp k]) = 0 := by
 have hr : runs 0 ((x ++ y) ++ [bareOp k]) = some 1 := by
  rw [runs_append, runs_append, hx, Option.bind_some, hy, Option.bind_some, runs, if_pos (err_bare h3 h11 (by omega)), runs]
  rw [show (bareOp k).k = k from rfl, hk]; rfl
 unfold exprF
 rw [if_neg (by simp only [List.length_append, List.length_singleton]; omega)]
 have := exprL_runs [] hr
 rw [List.append_nil] at this
 rw [this]; rfl
theorem expr_not {x : List OpL} {k : Int} (hx : runs 0 x = some 1) (hl : x.length ≤ 30) (h3 : 3 ≤ k) (h11 : k ≤ 11) (hk : popsF k = 1) : exprF (x ++ [bareOp k]) = 0 := by
 have hr : runs 0 (x ++ [bareOp k]) = some 1 := by
  rw [runs_append, hx, Option.bind_some, runs, if_pos (err_bare h3 h11 (by omega)), runs]
  rw [show (bareOp k).k = k from rfl, hk]; rfl
 unfold exprF
 rw [if_neg (by simp only [List.length_append, List.length_singleton]; omega)]
 have := exprL_runs [] hr
 rw [List.append_nil] at this
 rw [this]; rfl
theorem good_two {x y : List OpL} {k : Int} (hx : ∀ o ∈ x, GoodO colsL o) (hy : ∀ o ∈ y, GoodO colsL o) (h3 : 3 ≤ k) (h11 : k ≤ 11) : ∀ o ∈ (x ++ y) ++ [bareOp k], GoodO colsL o := fun o ho => by
 rcases List.mem_append.1 ho with ho | ho
 ·rcases List.mem_append.1 ho with ho | ho
  ·exact hx o ho
  ·exact hy o ho
 ·rw [List.mem_singleton] at ho; subst ho; exact good_bare _ h3 h11
theorem good_not {x : List OpL} {k : Int} (hx : ∀ o ∈ x, GoodO colsL o) (h3 : 3 ≤ k) (h11 : k ≤ 11) : ∀ o ∈ x ++ [bareOp k], GoodO colsL o := fun o ho => by
 rcases List.mem_append.1 ho with ho | ho
 ·exact hx o ho
 ·rw [List.mem_singleton] at ho; subst ho; exact good_bare _ h3 h11
/-- AND, OR, = of two expressions that do not fail. -/
theorem eval_two (a b : Int) (s : ByteArray) (c : Int) (t u : Tw) {k : Int} (h3 : 3 ≤ k) (h11 : k ≤ 11) (hk : popsF k = 2) (h1 : (evalR colsL (rowL a b s c) (opsAt 3 t)).2 = 0) (h2 : (evalR colsL (rowL a b s c) (opsAt 3 u)).2 = 0) :
    (evalR colsL (rowL a b s c) ((opsAt 3 t ++ opsAt 3 u) ++ [bareOp k])).2 = 4 ∨ evalR colsL (rowL a b s c) ((opsAt 3 t ++ opsAt 3 u) ++ [bareOp k]) = twoF k (evalR colsL (rowL a b s c) (opsAt 3 t)).1 (evalR colsL (rowL a b s c) (opsAt 3 u)).1 := by
  have s1 := ops_short t
  have s2 := ops_short u
  have r1 := ops_runs 3 t 0 (Int.le_refl _)
  have r2 := ops_runs 3 u 0 (Int.le_refl _)
  have f1 := fit_ops a b s c (good_ops 3 t) (whole_ops t)
  have f2 := fit_ops a b s c (good_ops 3 u) (whole_ops u)
  have f3 := fit_ops a b s c (good_two (good_ops 3 t) (good_ops 3 u) h3 h11) (expr_two r1 (ops_runs 3 u 1 (by decide)) (by omega) h3 h11 hk)
  obtain ⟨_, e1⟩ := eval_good f1 h1
  obtain ⟨_, e2⟩ := eval_good f2 h2
  rcases f3.ke with hk3 | hk3
  · refine .inr ?_
    rw [(f3.good hk3).1, e1, e2]
    exact fold_two r1 r2 (by rw [← e1]; exact h1) (by rw [← e2]; exact h2) hk
  · rw [f3.bad hk3]; exact .inl rfl
/-- NOT of an expression that does not fail. -/
theorem eval_one (a b : Int) (s : ByteArray) (c : Int) (t : Tw) (h1 : (evalR colsL (rowL a b s c) (opsAt 3 t)).2 = 0) :
    (evalR colsL (rowL a b s c) (opsAt 3 t ++ [bareOp 5])).2 = 4 ∨ evalR colsL (rowL a b s c) (opsAt 3 t ++ [bareOp 5]) = oneF 5 (evalR colsL (rowL a b s c) (opsAt 3 t)).1 := by
  have s1 := ops_short t
  have r1 := ops_runs 3 t 0 (Int.le_refl _)
  have f1 := fit_ops a b s c (good_ops 3 t) (whole_ops t)
  have f3 := fit_ops a b s c (good_not (good_ops 3 t) (by decide : (3 : Int) ≤ 5) (by decide)) (expr_not r1 (by omega) (by decide) (by decide) (by decide))
  obtain ⟨_, e1⟩ := eval_good f1 h1
  rcases f3.ke with hk3 | hk3
  · refine .inr ?_
    rw [(f3.good hk3).1, e1]
    exact fold_one r1 (by rw [← e1]; exact h1) (by decide)
  · rw [f3.bad hk3]; exact .inl rfl
def yesV : Vl := ⟨1, 1, ⟨#[]⟩⟩
def yesO : OpL := ⟨1, yesV, ⟨#[]⟩⟩
def colN : OpL := ⟨2, noVl, ⟨#[110]⟩⟩
theorem good_yes : ∀ o ∈ [yesO], GoodO colsL o := fun o ho => by
 rw [List.mem_singleton] at ho; subst ho
 exact ⟨Nat.zero_le _, ok_truth true, check_truth true, by decide, by decide, fun h => absurd h (by decide)⟩
theorem good_coln : ∀ o ∈ [colN], GoodO colsL o := fun o ho => by
 rw [List.mem_singleton] at ho; subst ho
 exact ⟨Nat.le_trans (show (1 : Nat) ≤ 1 from Nat.le_refl _) (by decide), ok_no, ck_no, by decide, by decide, fun _ => by rw [show colN.nm = ⟨#[110]⟩ from rfl, at_n]; decide⟩
theorem expr_yes : exprF [yesO] = 0 := by decide +kernel
theorem expr_coln : exprF [colN] = 0 := by
 have : opErr 0 colN = 0 := by unfold opErr colN; simp [lit_noVl, zero_noVl, nm_n, popsF]
 unfold exprF
 rw [if_neg (by decide), exprL, if_pos this]; rfl
theorem eval_yes (a b : Int) (s : ByteArray) (c : Int) : evalR colsL (rowL a b s c) [yesO] = (yesV, 0) := by
 have f := fit_ops a b s c good_yes expr_yes
 have hk : (kindR colsL [yesO]).2 = 0 := by
  unfold kindR; rw [if_neg (by simp [cols_ok]), if_neg (by simp [expr_yes])]; rfl
 rw [(f.good hk).1]; rfl
theorem eval_coln (a b : Int) (s : ByteArray) (c : Int) : evalR colsL (rowL a b s c) [colN] = (numV (pickedF b 9), 0) := by
 have f := fit_ops a b s c good_coln expr_coln
 have hm : ∀ x y : Int, madeF colsL colN x y = (2, 0) := fun x y => by
  unfold madeF; rw [if_neg (by decide), if_pos (by rfl)]; unfold kindAt; rw [show colN.nm = ⟨#[110]⟩ from rfl, at_n]; rfl
 have hk : (kindR colsL [colN]).2 = 0 := by
  unfold kindR; rw [if_neg (by simp [cols_ok]), if_neg (by simp [expr_coln])]
  show (foldG 0 (madeF colsL) [colN] []).2 = 0
  rw [cons_ok (by rw [hm])]; rfl
 rw [(f.good hk).1]
 have he : ∀ x y : Vl, evalF colsL (rowL a b s c) colN x y = (numV (pickedF b 9), 0) := fun x y => by
  unfold evalF; rw [if_neg (by decide), if_neg (by decide), if_pos (by rfl), show colN.nm = ⟨#[110]⟩ from rfl, at_n]; rfl
 show foldG noVl (evalF colsL (rowL a b s c)) [colN] [] = _
 rw [cons_ok (by rw [he]), he]; rfl

end Go.Proofs.YtfooincnmobemaaDoor.Ex
