/-
  What the proof of VictimsEnd leans on, part 2 of 4: walks of the program's functions at the level of values, and plain facts of what they compute.
-/
import Derived.Test.YtcogdagfcndbfaaDoorPVictimsEnd1
namespace Go.Proofs.YtcogdagfcndbfaaDoor.Lk
open Go.RowKit V
set_option linter.unusedVariables false
set_option linter.unusedSimpArgs false

variable (G : List (Nat × List Value))

set_option maxHeartbeats 4000000 in
set_option maxRecDepth 100000 in
theorem first1_vc (q y : L) (b : Nat) : VC Tryd.prog G 47 [lockD y, .v (.pointer (some ⟨b, 0, none⟩))] [⟨b, 27, 3, cL q⟩] (fun r S => r = .v (.bool (onTh q y)) ∧ S = [⟨b, 27, 3, cL q⟩]) := by
  refine VC.body Tryd.func47 rfl Tryd.ntmps47 (Nat.le_of_ble_eq_true rfl) fun X0 w0 S00 => ?_
  unfold lockD cL
  refine CD.seq ?_
  refine CD.region ?_
  refine OD.box (ds := [_, _, _]) (wants_plain rfl) rfl rfl ot rfl rfl (fun b2 => ?_)
  refine OD.still (wants_plain rfl) rfl (still_as rfl opd_const) ?_
  refine OD.wk (Wk.as_ (n := 9) (l' := [(1, _), (2, _)]) (S' := [⟨b2, 27, 3, [_, _, _]⟩, ⟨_, _, _, [_, _, _]⟩]) rfl rfl ⟨lk, lk, trivial⟩) ?_
  refine OD.nil ?_
  refine CD.seq ?_
  refine CD.region ?_
  refine OD.still (wants_plain rfl) rfl (still_r1 (mk := fun y => Op.fieldAddr 27 y 1) rfl ot (by first | exact fa_ptr (off := 1) Tryd.runUnderlying27 rfl Tryd.sizeOf9 rfl | exact fa_iptr (off := 1) Tryd.runUnderlying27 rfl Tryd.sizeOf9 rfl)) ?_
  refine OD.still (wants_plain rfl) rfl (still_r1 (mk := Op.load 9) rfl ot (by first | exact ld_blk (k := 0) rfl rfl Tryd.isAgg9 rfl | exact ld_i Tryd.isAgg9 rfl)) ?_
  refine OD.still (wants_plain rfl) rfl (still_r1 (mk := fun y => Op.fieldAddr 27 y 1) rfl ot (by first | exact fa_ptr (off := 1) Tryd.runUnderlying27 rfl Tryd.sizeOf9 rfl | exact fa_iptr (off := 1) Tryd.runUnderlying27 rfl Tryd.sizeOf9 rfl)) ?_
  refine OD.still (wants_plain rfl) rfl (still_r1 (mk := Op.load 9) rfl ot (by first | exact ld_blk (k := 1) rfl rfl Tryd.isAgg9 rfl | exact ld_i Tryd.isAgg9 rfl)) ?_
  refine OD.still (wants_plain rfl) rfl (still_bin rfl ot ot bin_seql) ?_
  refine OD.still (wants_plain rfl) rfl (still_as rfl ot) ?_
  refine OD.wk (Wk.as_ (n := 9) (l' := [(3, _)]) (S' := [⟨b2, 27, 3, [_, _, _]⟩, ⟨_, _, _, [_, _, _]⟩]) rfl rfl ⟨lk, trivial⟩) ?_
  refine OD.nil ?_
  refine CD.ret ?_
  refine ⟨.inr rfl, _, [⟨b, 27, 3, cL q⟩], (by repeat (first | exact List.Sublist.refl _ | apply List.Sublist.cons)), ret_one Tryd.results47 (res_tmp (Nat.le_of_ble_eq_true rfl) lk), ?_⟩
  exact ⟨rfl, rfl⟩

set_option maxHeartbeats 4000000 in
set_option maxRecDepth 100000 in
theorem ask1_vc (q y : L) (b : Nat) : VC Tryd.prog G 27 [lockD y, .v (.pointer (some ⟨b, 0, none⟩))] [⟨b, 27, 3, cL q⟩] (fun r S => r = .v (.bool (y.t == q.t)) ∧ S = [⟨b, 27, 3, cL q⟩]) := by
  refine VC.body Tryd.func27 rfl Tryd.ntmps27 (Nat.le_of_ble_eq_true rfl) fun X0 w0 S00 => ?_
  unfold lockD cL
  refine CD.seq ?_
  refine CD.region ?_
  refine OD.box (ds := [_, _, _]) (wants_plain rfl) rfl rfl ot rfl rfl (fun b2 => ?_)
  refine OD.still (wants_plain rfl) rfl (still_as rfl opd_const) ?_
  refine OD.wk (Wk.as_ (n := 9) (l' := [(1, _), (2, _)]) (S' := [⟨b2, 27, 3, [_, _, _]⟩, ⟨_, _, _, [_, _, _]⟩]) rfl rfl ⟨lk, lk, trivial⟩) ?_
  refine OD.nil ?_
  refine CD.seq ?_
  refine CD.region ?_
  refine OD.still (wants_plain rfl) rfl (still_r1 (mk := fun y => Op.fieldAddr 27 y 0) rfl ot (by first | exact fa_ptr (off := 0) Tryd.runUnderlying27 rfl Tryd.sizeOf3 rfl | exact fa_iptr (off := 0) Tryd.runUnderlying27 rfl Tryd.sizeOf3 rfl)) ?_
  refine OD.still (wants_plain rfl) rfl (still_r1 (mk := Op.load 3) rfl ot (by first | exact ld_blk (k := 0) rfl rfl Tryd.isAgg3 rfl | exact ld_i Tryd.isAgg3 rfl)) ?_
  refine OD.still (wants_plain rfl) rfl (still_r1 (mk := fun y => Op.fieldAddr 27 y 0) rfl ot (by first | exact fa_ptr (off := 0) Tryd.runUnderlying27 rfl Tryd.sizeOf3 rfl | exact fa_iptr (off := 0) Tryd.runUnderlying27 rfl Tryd.sizeOf3 rfl)) ?_
  refine OD.still (wants_plain rfl) rfl (still_r1 (mk := Op.load 3) rfl ot (by first | exact ld_blk (k := 1) rfl rfl Tryd.isAgg3 rfl | exact ld_i Tryd.isAgg3 rfl)) ?_
  refine OD.still (wants_plain rfl) rfl (still_bin rfl ot ot bin_eql) ?_
  refine OD.still (wants_plain rfl) rfl (still_as rfl ot) ?_
  refine OD.wk (Wk.as_ (n := 9) (l' := [(3, _)]) (S' := [⟨b2, 27, 3, [_, _, _]⟩, ⟨_, _, _, [_, _, _]⟩]) rfl rfl ⟨lk, trivial⟩) ?_
  refine OD.nil ?_
  refine CD.ret ?_
  refine ⟨.inr rfl, _, [⟨b, 27, 3, cL q⟩], (by repeat (first | exact List.Sublist.refl _ | apply List.Sublist.cons)), ret_one Tryd.results27 (res_tmp (Nat.le_of_ble_eq_true rfl) lk), ?_⟩
  exact ⟨rfl, rfl⟩

set_option maxHeartbeats 4000000 in
set_option maxRecDepth 100000 in
theorem first_vp (held queue : List L) (i : Nat) (hi : i < queue.length) (hlen : held.length + queue.length ≤ 1000) (hm : ∀ h ∈ held, modeB h.m = true) (hq : modeB (queue[i]).m = true) : VP Tryd.prog TG 30 [locksS held queue, .v (.int .i64 (i : Nat))] (.v (.bool (firstQ held (queue.take i) queue[i]))) := by
  refine VC.body Tryd.func30 rfl Tryd.ntmps30 (Nat.le_of_ble_eq_true rfl) fun X0 w0 S00 => ?_
  unfold locksS locksD
  refine CD.seq ?_
  refine CD.region ?_
  refine OD.box (ds := [_, _]) (wants_plain rfl) rfl rfl ot rfl rfl (fun b2 => ?_)
  refine OD.still (wants_plain rfl) rfl (still_as rfl opd_const) ?_
  refine OD.wk (Wk.as_ (n := 33) (l' := [(1, _), (2, _)]) (S' := [⟨b2, 25, 2, [_, _]⟩]) rfl rfl ⟨lk, lk, trivial⟩) ?_
  refine OD.nil ?_
  refine CD.seq ?_
  refine CD.region ?_
  refine OD.still (wants_plain rfl) rfl (still_r1 (mk := fun y => Op.fieldAddr 25 y 1) rfl ot (by first | exact fa_ptr (off := 1) Tryd.runUnderlying25 rfl Tryd.sizeOf23 rfl | exact fa_iptr (off := 1) Tryd.runUnderlying25 rfl Tryd.sizeOf23 rfl)) ?_
  refine OD.still (wants_plain rfl) rfl (still_r1 (mk := Op.load 23) rfl ot (by first | exact ld_blk (k := 0) rfl rfl Tryd.isAgg23 rfl | exact ld_fm cL_len Tryd.isAgg23 (by first | assumption | omega) rfl | exact ld_fm0 cL_len Tryd.isAgg23 (by first | assumption | omega) rfl | exact ld_row (k := 0) cL_len rfl rfl rfl Tryd.isAgg23 (by first | assumption | omega) rfl | exact ld_row0 (k := 0) cL_len rfl rfl rfl Tryd.isAgg23 (by first | assumption | omega) rfl | exact ld_i Tryd.isAgg23 rfl)) ?_
  refine OD.still (wants_plain rfl) rfl (still_mv rfl ot) ?_
  refine OD.still (wants_plain rfl) rfl (still_r2 (mk := Op.indexAddr 23) rfl ot ot (by first | exact ix_list Tryd.runUnderlying23 Tryd.sizeOf27 rfl (by first | assumption | omega) | exact ix_list (j := Int.toNat _) Tryd.runUnderlying23 Tryd.sizeOf27 (Int.toNat_of_nonneg (by omega)).symm (by omega) | exact ix_row Tryd.runUnderlying23 Tryd.sizeOf27 rfl (by first | assumption | omega) | exact ix_row (j := Int.toNat _) Tryd.runUnderlying23 Tryd.sizeOf27 (Int.toNat_of_nonneg (by omega)).symm (by omega))) ?_
  refine OD.still (wants_plain rfl) rfl (still_r1 (mk := Op.load 27) rfl ot (by first | exact ld_blks (k := 0) (ds := [_, _, _]) rfl rfl Tryd.isAgg27 Tryd.sizeOf27 rfl rfl | exact ld_fms cL_len Tryd.isAgg27 Tryd.sizeOf27 (by first | assumption | omega) | exact ld_rows (k := 0) cL_len rfl rfl rfl Tryd.isAgg27 Tryd.sizeOf27 (by first | assumption | omega) | exact ld_is (ds := [_, _, _]) Tryd.isAgg27 Tryd.sizeOf27 rfl rfl)) ?_
  refine OD.alloc (ds := [_, _, _]) (wants_plain rfl) rfl rfl Tryd.zeroValue27 rfl (fun b5 => ?_)
  refine OD.store (k := 0) (cs' := [_, _, _]) (wants_plain rfl) rfl rfl ot rfl rfl ot rfl rfl Tryd.sizeOf27 rfl rfl rfl ?_
  refine OD.wk (Wk.as_ (n := 33) (l' := [(1, _), (2, _), (5, _)]) (S' := [⟨b5, 27, 3, [_, _, _]⟩, ⟨b2, 25, 2, [_, _]⟩]) rfl rfl ⟨lk, lk, lk, trivial⟩) ?_
  refine OD.nil ?_
  refine CD.seq ?_
  refine CD.seq ?_
  refine CD.region ?_
  refine OD.still (wants_plain rfl) rfl (still_r1 (mk := fun y => Op.fieldAddr 25 y 0) rfl ot (by first | exact fa_ptr (off := 0) Tryd.runUnderlying25 rfl Tryd.sizeOf23 rfl | exact fa_iptr (off := 0) Tryd.runUnderlying25 rfl Tryd.sizeOf23 rfl)) ?_
  refine OD.still (wants_plain rfl) rfl (still_r1 (mk := Op.load 23) rfl ot (by first | exact ld_blk (k := 1) rfl rfl Tryd.isAgg23 rfl | exact ld_fm cL_len Tryd.isAgg23 (by first | assumption | omega) rfl | exact ld_fm0 cL_len Tryd.isAgg23 (by first | assumption | omega) rfl | exact ld_row (k := 0) cL_len rfl rfl rfl Tryd.isAgg23 (by first | assumption | omega) rfl | exact ld_row0 (k := 0) cL_len rfl rfl rfl Tryd.isAgg23 (by first | assumption | omega) rfl | exact ld_row (k := 1) cL_len rfl rfl rfl Tryd.isAgg23 (by first | assumption | omega) rfl | exact ld_row0 (k := 1) cL_len rfl rfl rfl Tryd.isAgg23 (by first | assumption | omega) rfl | exact ld_i Tryd.isAgg23 rfl)) ?_
  refine OD.still (wants_plain rfl) rfl (still_r1 (mk := Op.load 27) rfl ot (by first | exact ld_blks (k := 0) (ds := [_, _, _]) rfl rfl Tryd.isAgg27 Tryd.sizeOf27 rfl rfl | exact ld_fms cL_len Tryd.isAgg27 Tryd.sizeOf27 (by first | assumption | omega) | exact ld_rows (k := 0) cL_len rfl rfl rfl Tryd.isAgg27 Tryd.sizeOf27 (by first | assumption | omega) | exact ld_rows (k := 1) cL_len rfl rfl rfl Tryd.isAgg27 Tryd.sizeOf27 (by first | assumption | omega) | exact ld_is (ds := [_, _, _]) Tryd.isAgg27 Tryd.sizeOf27 rfl rfl)) ?_
  refine OD.callP (wants_plain rfl) rfl rfl rfl Tryd.call36 (free_vp _ _ (by omega) hm hq) ⟨ot, ot, trivial⟩ ?_
  refine OD.still (wants_plain rfl) rfl (still_un rfl ot un_not) ?_
  refine OD.wk (Wk.as_ (n := 33) (l' := [(1, _), (2, _), (5, _), (15, _)]) (S' := [⟨b5, 27, 3, [_, _, _]⟩, ⟨b2, 25, 2, [_, _]⟩]) rfl rfl ⟨lk, lk, lk, lk, trivial⟩) ?_
  refine OD.nil ?_
  refine CD.cond ot (fun hc0 => ?_) (fun hc0 => ?_)
  · have hc0' := hc0
    (try simp only [decide_eq_true_eq, decide_eq_false_iff_not, beq_iff_eq, bne_iff_ne, Bool.not_eq_true', Bool.not_eq_false', Bool.not_eq_true, Bool.not_eq_false, beq_eq_false_iff_ne, ne_eq, bne_eq_false_iff_eq, Bool.and_eq_true, Bool.or_eq_true, Bool.not_not, Bool.and_eq_false_iff, Bool.or_eq_false_iff, Int.not_lt, Int.not_le] at hc0')
    refine CD.seq ?_
    refine CD.region ?_
    refine OD.still (wants_plain rfl) rfl (still_as rfl opd_const) ?_
    refine OD.wk (Wk.as_ (n := 33) (l' := [(4, _)]) (S' := [⟨b5, 27, 3, [_, _, _]⟩, ⟨b2, 25, 2, [_, _]⟩]) rfl rfl ⟨lk, trivial⟩) ?_
    refine OD.nil ?_
    refine CD.ret ?_
    refine ⟨.inr rfl, _, [], List.nil_sublist _, ret_one Tryd.results30 (res_tmp (Nat.le_of_ble_eq_true rfl) lk), ?_⟩
    refine ⟨?_, rfl⟩; unfold firstQ; simp_all; try (intro h; omega)
  · have hc0' := hc0
    (try simp only [decide_eq_true_eq, decide_eq_false_iff_not, beq_iff_eq, bne_iff_ne, Bool.not_eq_true', Bool.not_eq_false', Bool.not_eq_true, Bool.not_eq_false, beq_eq_false_iff_ne, ne_eq, bne_eq_false_iff_eq, Bool.and_eq_true, Bool.or_eq_true, Bool.not_not, Bool.and_eq_false_iff, Bool.or_eq_false_iff, Int.not_lt, Int.not_le] at hc0')
    refine CD.skip ?_
    refine CD.seq ?_
    refine CD.region ?_
    refine OD.still (wants_plain rfl) rfl (still_r1 (mk := fun y => Op.fieldAddr 25 y 0) rfl ot (by first | exact fa_ptr (off := 0) Tryd.runUnderlying25 rfl Tryd.sizeOf23 rfl | exact fa_iptr (off := 0) Tryd.runUnderlying25 rfl Tryd.sizeOf23 rfl)) ?_
    refine OD.still (wants_plain rfl) rfl (still_r1 (mk := Op.load 23) rfl ot (by first | exact ld_blk (k := 1) rfl rfl Tryd.isAgg23 rfl | exact ld_fm cL_len Tryd.isAgg23 (by first | assumption | omega) rfl | exact ld_fm0 cL_len Tryd.isAgg23 (by first | assumption | omega) rfl | exact ld_row (k := 0) cL_len rfl rfl rfl Tryd.isAgg23 (by first | assumption | omega) rfl | exact ld_row0 (k := 0) cL_len rfl rfl rfl Tryd.isAgg23 (by first | assumption | omega) rfl | exact ld_row (k := 1) cL_len rfl rfl rfl Tryd.isAgg23 (by first | assumption | omega) rfl | exact ld_row0 (k := 1) cL_len rfl rfl rfl Tryd.isAgg23 (by first | assumption | omega) rfl | exact ld_i Tryd.isAgg23 rfl)) ?_
    refine OD.still (wants_plain rfl) rfl (still_r1 (mk := fun y => Op.fieldAddr 27 y 0) rfl ot (by first | exact fa_ptr (off := 0) Tryd.runUnderlying27 rfl Tryd.sizeOf3 rfl | exact fa_iptr (off := 0) Tryd.runUnderlying27 rfl Tryd.sizeOf3 rfl)) ?_
    refine OD.still (wants_plain rfl) rfl (still_r1 (mk := Op.load 3) rfl ot (by first | exact ld_blk (k := 0) rfl rfl Tryd.isAgg3 rfl | exact ld_fm cL_len Tryd.isAgg3 (by first | assumption | omega) rfl | exact ld_fm0 cL_len Tryd.isAgg3 (by first | assumption | omega) rfl | exact ld_row (k := 0) cL_len rfl rfl rfl Tryd.isAgg3 (by first | assumption | omega) rfl | exact ld_row0 (k := 0) cL_len rfl rfl rfl Tryd.isAgg3 (by first | assumption | omega) rfl | exact ld_row (k := 1) cL_len rfl rfl rfl Tryd.isAgg3 (by first | assumption | omega) rfl | exact ld_row0 (k := 1) cL_len rfl rfl rfl Tryd.isAgg3 (by first | assumption | omega) rfl | exact ld_i Tryd.isAgg3 rfl)) ?_
    refine OD.still (wants_plain rfl) rfl (still_r1 (mk := fun y => Op.fieldAddr 27 y 1) rfl ot (by first | exact fa_ptr (off := 1) Tryd.runUnderlying27 rfl Tryd.sizeOf9 rfl | exact fa_iptr (off := 1) Tryd.runUnderlying27 rfl Tryd.sizeOf9 rfl)) ?_
    refine OD.still (wants_plain rfl) rfl (still_r1 (mk := Op.load 9) rfl ot (by first | exact ld_blk (k := 0) rfl rfl Tryd.isAgg9 rfl | exact ld_fm cL_len Tryd.isAgg9 (by first | assumption | omega) rfl | exact ld_fm0 cL_len Tryd.isAgg9 (by first | assumption | omega) rfl | exact ld_row (k := 0) cL_len rfl rfl rfl Tryd.isAgg9 (by first | assumption | omega) rfl | exact ld_row0 (k := 0) cL_len rfl rfl rfl Tryd.isAgg9 (by first | assumption | omega) rfl | exact ld_row (k := 1) cL_len rfl rfl rfl Tryd.isAgg9 (by first | assumption | omega) rfl | exact ld_row0 (k := 1) cL_len rfl rfl rfl Tryd.isAgg9 (by first | assumption | omega) rfl | exact ld_i Tryd.isAgg9 rfl)) ?_
    refine OD.callP (wants_plain rfl) rfl rfl rfl Tryd.call29 (find_vp _ held _ _ (by omega)) ⟨ot, ot, ot, trivial⟩ ?_
    refine OD.still (wants_plain rfl) rfl (still_bin rfl ot opd_const bin_geq) ?_
    refine OD.still (wants_plain rfl) rfl (still_mv rfl ot) ?_
    refine OD.split (t := 24) lk (fun hg24 => ?_) (fun hg24 => ?_)
    · have hg24' := hg24; (try simp only [decide_eq_true_eq, decide_eq_false_iff_not, beq_iff_eq, bne_iff_ne, Bool.not_eq_true', Bool.not_eq_false', Bool.not_eq_true, Bool.not_eq_false, beq_eq_false_iff_ne, ne_eq, bne_eq_false_iff_eq, Bool.and_eq_true, Bool.or_eq_true, Bool.not_not] at hg24')
      refine OD.skip (wants_F rfl rfl rfl lk (by first | rfl | assumption)) rfl ?_
      refine OD.skip (wants_F rfl rfl rfl lk (by first | rfl | assumption)) rfl ?_
      refine OD.skip (wants_F rfl rfl rfl lk (by first | rfl | assumption)) rfl ?_
      refine OD.skip (wants_F rfl rfl rfl lk (by first | rfl | assumption)) rfl ?_
      refine OD.skip (wants_F rfl rfl rfl lk (by first | rfl | assumption)) rfl ?_
      refine OD.skip (wants_F rfl rfl rfl lk (by first | rfl | assumption)) rfl ?_
      refine OD.skip (wants_F rfl rfl rfl lk (by first | rfl | assumption)) rfl ?_
      refine OD.still (wants_plain rfl) rfl (still_pickT rfl ot (by first | rfl | assumption) opd_const) ?_
      refine OD.still (wants_plain rfl) rfl (still_as rfl ot) ?_
      refine OD.wk (Wk.as_ (n := 33) (l' := [(4, _)]) (S' := [⟨b5, 27, 3, [_, _, _]⟩, ⟨b2, 25, 2, [_, _]⟩]) rfl rfl ⟨lk, trivial⟩) ?_
      refine OD.nil ?_
      refine CD.ret ?_
      refine ⟨.inr rfl, _, [], List.nil_sublist _, ret_one Tryd.results30 (res_tmp (Nat.le_of_ble_eq_true rfl) lk), ?_⟩
      refine ⟨?_, rfl⟩; unfold firstQ; simp_all; try (intro h; omega)
    · have hg24' := hg24; (try simp only [decide_eq_true_eq, decide_eq_false_iff_not, beq_iff_eq, bne_iff_ne, Bool.not_eq_true', Bool.not_eq_false', Bool.not_eq_true, Bool.not_eq_false, beq_eq_false_iff_ne, ne_eq, bne_eq_false_iff_eq, Bool.and_eq_true, Bool.or_eq_true, Bool.not_not] at hg24')
      refine OD.still (wants_T rfl rfl rfl lk (by first | rfl | assumption)) rfl (still_r1 (mk := fun y => Op.fieldAddr 25 y 1) rfl ot (by first | exact fa_ptr (off := 1) Tryd.runUnderlying25 rfl Tryd.sizeOf23 rfl | exact fa_iptr (off := 1) Tryd.runUnderlying25 rfl Tryd.sizeOf23 rfl)) ?_
      refine OD.still (wants_T rfl rfl rfl lk (by first | rfl | assumption)) rfl (still_r1 (mk := Op.load 23) rfl ot (by first | exact ld_blk (k := 1) rfl rfl Tryd.isAgg23 rfl | exact ld_fm cL_len Tryd.isAgg23 (by first | assumption | omega) rfl | exact ld_fm0 cL_len Tryd.isAgg23 (by first | assumption | omega) rfl | exact ld_row (k := 0) cL_len rfl rfl rfl Tryd.isAgg23 (by first | assumption | omega) rfl | exact ld_row0 (k := 0) cL_len rfl rfl rfl Tryd.isAgg23 (by first | assumption | omega) rfl | exact ld_row (k := 1) cL_len rfl rfl rfl Tryd.isAgg23 (by first | assumption | omega) rfl | exact ld_row0 (k := 1) cL_len rfl rfl rfl Tryd.isAgg23 (by first | assumption | omega) rfl | exact ld_i Tryd.isAgg23 rfl)) ?_
      refine OD.still (wants_T rfl rfl rfl lk (by first | rfl | assumption)) rfl (still_mv rfl ot) ?_
      refine OD.still (wants_T rfl rfl rfl lk (by first | rfl | assumption)) rfl (still_rs (l := 0) rfl ot trivial ⟨_, ot⟩ (by first | exact sl_head cL_len (fun h => by cases h) Tryd.runUnderlying23 Tryd.sizeOf27 (by omega) | exact sl_row (fun h => by cases h) Tryd.runUnderlying23 Tryd.sizeOf27 (by omega) | exact sl_list (fun _ => rfl) (fun h => by cases h) Tryd.runUnderlying23 Tryd.sizeOf27 (by omega) (by omega))) ?_
      refine OD.still (wants_T rfl rfl rfl lk (by first | rfl | assumption)) rfl (still_fn (ds := [_]) rfl ⟨ot, trivial⟩) ?_
      refine OD.call (wants_T rfl rfl rfl lk (by first | rfl | assumption)) rfl rfl rfl Tryd.call26 (contains_vc _ (queue.take i) 47 [.v (.pointer (some ⟨b5, 0, none⟩))] _ (onTh queue[i]) Tryd.call47 (fun y _ => first1_vc _ _ y b5) (by rw [List.length_take]; omega)) ⟨ot, ot, trivial⟩ (perm_one (k := 0) rfl) ?_; rintro _ S2 ⟨rfl, hS2⟩; rw [hS2]; clear hS2
      refine OD.still (wants_T rfl rfl rfl lk (by first | rfl | assumption)) rfl (still_un rfl ot un_not) ?_
      refine OD.still (wants_plain rfl) rfl (still_pickF rfl ot (by first | rfl | assumption) ot) ?_
      refine OD.still (wants_plain rfl) rfl (still_as rfl ot) ?_
      refine OD.wk (Wk.as_ (n := 33) (l' := [(4, _)]) (S' := [⟨b5, 27, 3, [_, _, _]⟩, ⟨b2, 25, 2, [_, _]⟩]) rfl rfl ⟨lk, trivial⟩) ?_
      refine OD.nil ?_
      refine CD.ret ?_
      refine ⟨.inr rfl, _, [], List.nil_sublist _, ret_one Tryd.results30 (res_tmp (Nat.le_of_ble_eq_true rfl) lk), ?_⟩
      refine ⟨?_, rfl⟩; unfold firstQ; simp_all; try (intro h; omega)

theorem fm_modify {k : Nat} (m : Int) : ∀ (ls : List L), k < ls.length → setAll (ls.flatMap cL) (k * 3 + 2) [.v (.int .i64 m)] = (ls.modify k fun h => { h with m := m }).flatMap cL
  | [], h => by simp at h
  | x :: r, h => by
    cases k with
    | zero => rfl
    | succ k =>
      have ih := fm_modify (k := k) m r (by simpa using h)
      rw [List.modify_succ_cons, List.flatMap_cons, List.flatMap_cons, ← ih]
      simp only [setAll]
      rw [show (k + 1) * 3 + 2 = (cL x).length + (k * 3 + 2) from by simp [cL]; omega, List.set_append_right _ _ (by omega)]
      congr 2
      omega

theorem idxI_nn {p : L → Bool} {ls : List L} (h : 0 ≤ idxI p ls) : ∃ k, ∃ hk : k < ls.length, idxI p ls = (k : Nat) ∧ ls.findIdx? p = some k ∧ p ls[k] = true := by
  unfold idxI at h ⊢
  cases hf : ls.findIdx? p with
  | none => rw [hf] at h; simp at h
  | some k =>
    obtain ⟨h1, h2, _⟩ := List.findIdx?_eq_some_iff_getElem.1 hf
    exact ⟨k, h1, rfl, rfl, h2⟩
theorem haveL_old {held : List L} {x : L} {k : Nat} (h : held.findIdx? (hasK x.t x.th) = some k) : haveL held x = held.modify k fun h => { h with m := x.m } := by simp [haveL, h]
theorem haveL_new {held : List L} {x : L} (h : ¬ 0 ≤ findI held x.t x.th) : haveL held x = held ++ [x] := by
  unfold haveL
  cases hf : held.findIdx? (hasK x.t x.th) with
  | none => rfl
  | some k => exact absurd (by unfold findI; rw [hf]; exact Int.natCast_nonneg k) h

set_option maxHeartbeats 4000000 in
set_option maxRecDepth 100000 in
theorem have_vc (bl ch : Nat) (ah : Option Addr) (vq : D) (held : List L) (x : L) (Sh : List Blk) (ho : OwnK held ah ch Sh) (hn : held.length ≤ 1000) : VC Tryd.prog G 31 [.v (.pointer (some ⟨bl, 0, none⟩)), lockD x] (⟨bl, 25, 2, [.v (.slice ah held.length ch), vq]⟩ :: Sh)
    (fun r S => r = .tup [] ∧ ∃ ah' ch' Sh', OwnK (haveL held x) ah' ch' Sh' ∧ S.Perm (⟨bl, 25, 2, [.v (.slice ah' (haveL held x).length ch'), vq]⟩ :: Sh')) := by
  refine VC.body Tryd.func31 rfl Tryd.ntmps31 (Nat.le_of_ble_eq_true rfl) fun X0 w0 S00 => ?_
  unfold lockD cL
  refine CD.seq ?_
  refine CD.region ?_
  refine OD.box (ds := [_, _, _]) (wants_plain rfl) rfl rfl ot rfl rfl (fun b3 => ?_)
  refine OD.wk (Wk.as_ (n := 35) (l' := [(0, _), (3, _)]) (S' := (⟨b3, 27, 3, [_, _, _]⟩ :: ⟨_, _, _, [_, _]⟩ :: Sh)) rfl rfl ⟨lk, lk, trivial⟩) ?_
  refine OD.nil ?_
  refine CD.seq ?_
  refine CD.seq ?_
  refine CD.draw (bks _) (by kernel_rfl) (fun _ h => h) ?_
  refine AD0.take (i := 0) rfl (by kernel_rfl) (by kernel_rfl) (by kernel_rfl) (by repeat (first | exact NP.body | apply NP.then | apply NP.cut | apply NP.inBlock | apply NP.round)) (wants_plain rfl) rfl (still_mv rfl ot) (by exact trivial) ?_
  refine AD0.take (i := 1) rfl (by kernel_rfl) (by kernel_rfl) (by kernel_rfl) (by repeat (first | exact NP.body | apply NP.then | apply NP.cut | apply NP.inBlock | apply NP.round)) (wants_plain rfl) rfl (still_r1 (mk := Op.nilCheck) rfl ot (by first | exact nc_ptr | exact nc_iptr)) (by exact trivial) ?_
  refine AD0.take (i := 2) rfl (by kernel_rfl) (by kernel_rfl) (by kernel_rfl) (by repeat (first | exact NP.body | apply NP.then | apply NP.cut | apply NP.inBlock | apply NP.round)) (wants_plain rfl) rfl (still_r1 (mk := fun y => Op.fieldAddr 25 y 0) rfl ot (by first | exact fa_ptr (off := 0) Tryd.runUnderlying25 rfl Tryd.sizeOf23 rfl | exact fa_iptr (off := 0) Tryd.runUnderlying25 rfl Tryd.sizeOf23 rfl)) (by exact trivial) ?_
  refine AD0.take (i := 3) rfl (by kernel_rfl) (by kernel_rfl) (by kernel_rfl) (by repeat (first | exact NP.body | apply NP.then | apply NP.cut | apply NP.inBlock | apply NP.round)) (wants_plain rfl) rfl (still_r1 (mk := Op.load 23) rfl ot (by first | exact ld_blk (k := 1) rfl rfl Tryd.isAgg23 rfl | exact ld_i Tryd.isAgg23 rfl)) (by first | exact trivial | exact safe_blk (k0 := 0) rfl rfl | exact safe_blk (k0 := 1) rfl rfl) ?_
  refine AD0.take (i := 4) rfl (by kernel_rfl) (by kernel_rfl) (by kernel_rfl) (by repeat (first | exact NP.body | apply NP.then | apply NP.cut | apply NP.inBlock | apply NP.round)) (wants_plain rfl) rfl (still_r1 (mk := fun y => Op.fieldAddr 27 y 0) rfl ot (by first | exact fa_ptr (off := 0) Tryd.runUnderlying27 rfl Tryd.sizeOf3 rfl | exact fa_iptr (off := 0) Tryd.runUnderlying27 rfl Tryd.sizeOf3 rfl)) (by exact trivial) ?_
  refine AD0.take (i := 5) rfl (by kernel_rfl) (by kernel_rfl) (by kernel_rfl) (by repeat (first | exact NP.body | apply NP.then | apply NP.cut | apply NP.inBlock | apply NP.round)) (wants_plain rfl) rfl (still_r1 (mk := Op.load 3) rfl ot (by first | exact ld_blk (k := 0) rfl rfl Tryd.isAgg3 rfl | exact ld_i Tryd.isAgg3 rfl)) (by first | exact trivial | exact safe_blk (k0 := 0) rfl rfl | exact safe_blk (k0 := 1) rfl rfl) ?_
  refine AD0.take (i := 6) rfl (by kernel_rfl) (by kernel_rfl) (by kernel_rfl) (by repeat (first | exact NP.body | apply NP.then | apply NP.cut | apply NP.inBlock | apply NP.round)) (wants_plain rfl) rfl (still_r1 (mk := fun y => Op.fieldAddr 27 y 1) rfl ot (by first | exact fa_ptr (off := 1) Tryd.runUnderlying27 rfl Tryd.sizeOf9 rfl | exact fa_iptr (off := 1) Tryd.runUnderlying27 rfl Tryd.sizeOf9 rfl)) (by exact trivial) ?_
  refine AD0.take (i := 7) rfl (by kernel_rfl) (by kernel_rfl) (by kernel_rfl) (by repeat (first | exact NP.body | apply NP.then | apply NP.cut | apply NP.inBlock | apply NP.round)) (wants_plain rfl) rfl (still_r1 (mk := Op.load 9) rfl ot (by first | exact ld_blk (k := 0) rfl rfl Tryd.isAgg9 rfl | exact ld_i Tryd.isAgg9 rfl)) (by first | exact trivial | exact safe_blk (k0 := 0) rfl rfl | exact safe_blk (k0 := 1) rfl rfl) ?_
  refine AD0.later rfl ?_
  refine AD.one (i := 8) (by kernel_rfl) ?_
  refine AStep.look rfl (wants_plain rfl) rfl rfl rfl Tryd.call29 (find_vp _ held _ _ (by omega)) rfl ⟨⟨_, ot, view_own ho (cells_len _) (fun B hB => by simp [hB, St.put])⟩, ⟨_, ot, view_same⟩, ⟨_, ot, view_same⟩, trivial⟩ ?_
  refine AD.take (i := 9) rfl (by kernel_rfl) (by kernel_rfl) (by kernel_rfl) (by repeat (first | exact NP.body | apply NP.then | apply NP.cut | apply NP.inBlock | apply NP.round)) (wants_plain rfl) rfl (still_as rfl ot) (by exact trivial) (by intro h; cases h) ?_
  refine AD.wk (y := ⟨35, [(0, _), (3, _), (4, _)], (⟨b3, 27, 3, [_, _, _]⟩ :: ⟨_, _, _, [_, _]⟩ :: Sh)⟩) (Wk.as_ rfl rfl ⟨lk, lk, lk, trivial⟩) rfl ?_
  refine AD.done (by kernel_rfl) ?_
  refine CD.seq ?_
  refine CD.region ?_
  refine OD.still (wants_plain rfl) rfl (still_mv rfl ot) ?_
  refine OD.still (wants_plain rfl) rfl (still_bin rfl ot opd_const bin_geq) ?_
  refine OD.wk (Wk.as_ (n := 35) (l' := [(0, _), (3, _), (4, _), (15, _)]) (S' := (⟨b3, 27, 3, [_, _, _]⟩ :: ⟨_, _, _, [_, _]⟩ :: Sh)) rfl rfl ⟨lk, lk, lk, lk, trivial⟩) ?_
  refine OD.nil ?_
  refine CD.cond ot (fun hc0 => ?_) (fun hc0 => ?_)
  · have hc0' := hc0
    (try simp only [decide_eq_true_eq, decide_eq_false_iff_not, beq_iff_eq, bne_iff_ne, Bool.not_eq_true', Bool.not_eq_false', Bool.not_eq_true, Bool.not_eq_false, beq_eq_false_iff_ne, ne_eq, bne_eq_false_iff_eq, Bool.and_eq_true, Bool.or_eq_true, Bool.not_not, Bool.and_eq_false_iff, Bool.or_eq_false_iff, Int.not_lt, Int.not_le] at hc0')
    obtain ⟨k, hk, hk1, hk2, _⟩ := idxI_nn hc0'
    rcases ho with ⟨h0, _⟩ | ⟨bh, rfl, h1, h2, rfl⟩
    · omega
    rw [show findI held x.t x.th = (k : Nat) from hk1]
    refine CD.seq ?_
    refine CD.draw (bks (List.eraseIdx _ 2)) (by kernel_rfl) (fun _ h => (List.Sublist.map _ (List.eraseIdx_sublist _ 2)).subset h) ?_
    refine AD0.take (i := 0) rfl (by kernel_rfl) (by kernel_rfl) (by kernel_rfl) (by repeat (first | exact NP.body | apply NP.then | apply NP.cut | apply NP.inBlock | apply NP.round)) (wants_plain rfl) rfl (still_mv rfl ot) (by exact trivial) ?_
    refine AD0.take (i := 1) rfl (by kernel_rfl) (by kernel_rfl) (by kernel_rfl) (by repeat (first | exact NP.body | apply NP.then | apply NP.cut | apply NP.inBlock | apply NP.round)) (wants_plain rfl) rfl (still_r1 (mk := Op.nilCheck) rfl ot (by first | exact nc_ptr | exact nc_iptr)) (by exact trivial) ?_
    refine AD0.take (i := 2) rfl (by kernel_rfl) (by kernel_rfl) (by kernel_rfl) (by repeat (first | exact NP.body | apply NP.then | apply NP.cut | apply NP.inBlock | apply NP.round)) (wants_plain rfl) rfl (still_r1 (mk := fun y => Op.fieldAddr 25 y 0) rfl ot (by first | exact fa_ptr (off := 0) Tryd.runUnderlying25 rfl Tryd.sizeOf23 rfl | exact fa_iptr (off := 0) Tryd.runUnderlying25 rfl Tryd.sizeOf23 rfl)) (by exact trivial) ?_
    refine AD0.take (i := 3) rfl (by kernel_rfl) (by kernel_rfl) (by kernel_rfl) (by repeat (first | exact NP.body | apply NP.then | apply NP.cut | apply NP.inBlock | apply NP.round)) (wants_plain rfl) rfl (still_r1 (mk := Op.load 23) rfl ot (by first | exact ld_blk (k := 1) rfl rfl Tryd.isAgg23 rfl | exact ld_i Tryd.isAgg23 rfl)) (by first | exact trivial | exact safe_blk (k0 := 0) rfl rfl | exact safe_blk (k0 := 1) rfl rfl) ?_
    refine AD0.take (i := 4) rfl (by kernel_rfl) (by kernel_rfl) (by kernel_rfl) (by repeat (first | exact NP.body | apply NP.then | apply NP.cut | apply NP.inBlock | apply NP.round)) (wants_plain rfl) rfl (still_mv rfl ot) (by exact trivial) ?_
    refine AD0.take (i := 5) rfl (by kernel_rfl) (by kernel_rfl) (by kernel_rfl) (by repeat (first | exact NP.body | apply NP.then | apply NP.cut | apply NP.inBlock | apply NP.round)) (wants_plain rfl) rfl (still_r1 (mk := fun y => Op.fieldAddr 27 y 2) rfl ot (by first | exact fa_ptr (off := 2) Tryd.runUnderlying27 rfl Tryd.sizeOf3 rfl | exact fa_iptr (off := 2) Tryd.runUnderlying27 rfl Tryd.sizeOf3 rfl)) (by exact trivial) ?_
    refine AD0.take (i := 6) rfl (by kernel_rfl) (by kernel_rfl) (by kernel_rfl) (by repeat (first | exact NP.body | apply NP.then | apply NP.cut | apply NP.inBlock | apply NP.round)) (wants_plain rfl) rfl (still_r1 (mk := Op.load 3) rfl ot (by first | exact ld_blk (k := 0) rfl rfl Tryd.isAgg3 rfl | exact ld_i Tryd.isAgg3 rfl)) (by first | exact trivial | exact safe_blk (k0 := 0) rfl rfl | exact safe_blk (k0 := 1) rfl rfl) ?_
    refine AD0.take (i := 7) rfl (by kernel_rfl) (by kernel_rfl) (by kernel_rfl) (by repeat (first | exact NP.body | apply NP.then | apply NP.cut | apply NP.inBlock | apply NP.round)) (wants_plain rfl) rfl (still_r2 (mk := Op.indexAddr 23) rfl ot ot (by first | exact ix_list Tryd.runUnderlying23 Tryd.sizeOf27 rfl (by first | assumption | omega) | exact ix_list (j := Int.toNat _) Tryd.runUnderlying23 Tryd.sizeOf27 (Int.toNat_of_nonneg (by omega)).symm (by omega) | exact ix_row Tryd.runUnderlying23 Tryd.sizeOf27 rfl (by first | assumption | omega) | exact ix_row (j := Int.toNat _) Tryd.runUnderlying23 Tryd.sizeOf27 (Int.toNat_of_nonneg (by omega)).symm (by omega))) (by exact trivial) ?_
    refine AD0.take (i := 8) rfl (by kernel_rfl) (by kernel_rfl) (by kernel_rfl) (by repeat (first | exact NP.body | apply NP.then | apply NP.cut | apply NP.inBlock | apply NP.round)) (wants_plain rfl) rfl (still_r1 (mk := fun y => Op.fieldAddr 27 y 2) rfl ot (by first | exact fa_ptr (off := 2) Tryd.runUnderlying27 rfl Tryd.sizeOf3 rfl | exact fa_iptr (off := 2) Tryd.runUnderlying27 rfl Tryd.sizeOf3 rfl)) (by exact trivial) ?_
    refine AD0.later rfl ?_
    refine AD.one (i := 9) (by kernel_rfl) ?_
    refine AStep.storeAt (k := 2) (cs' := (held.modify k fun h => { h with m := x.m }).flatMap cL) rfl (wants_plain rfl) rfl rfl ot rfl rfl ot rfl rfl Tryd.sizeOf3 rfl (by rw [cells_len]; omega) (by rw [Nat.zero_add]; exact fm_modify _ _ hk) (by intro b hb; simp [bks, St.put] at hb ⊢; try first | exact hb | simp [hb] | (rcases hb with hb | hb <;> simp [hb]) | (rcases hb with hb | hb | hb <;> simp [hb])) ?_
    refine AD.wk (y := ⟨35, [], [⟨b3, 27, 3, [_, _, _]⟩, ⟨_, _, _, [_, _]⟩, _]⟩) (Wk.as_ rfl rfl trivial) rfl ?_
    refine AD.done (by kernel_rfl) ?_
    refine CD.ret ?_
    refine ⟨.inr rfl, _, [_, _], (.cons _ (.refl _)), ret_none Tryd.results31 , ?_⟩
    first | exact ⟨rfl, _, _, _, by rw [haveL_old hk2]; exact .inr ⟨bh, rfl, by rw [List.length_modify]; exact h1, h2, rfl⟩, by rw [haveL_old hk2, List.length_modify]⟩ | exact ⟨rfl, _, _, _, by rw [haveL_new (by omega)]; exact .inr ⟨b32, rfl, by rw [List.length_append]; exact h1, h2, rfl⟩, by rw [haveL_new (by omega), List.length_append, List.flatMap_append]; exact List.Perm.swap _ _ _⟩
  · have hc0' := hc0
    (try simp only [decide_eq_true_eq, decide_eq_false_iff_not, beq_iff_eq, bne_iff_ne, Bool.not_eq_true', Bool.not_eq_false', Bool.not_eq_true, Bool.not_eq_false, beq_eq_false_iff_ne, ne_eq, bne_eq_false_iff_eq, Bool.and_eq_true, Bool.or_eq_true, Bool.not_not, Bool.and_eq_false_iff, Bool.or_eq_false_iff, Int.not_lt, Int.not_le] at hc0')
    refine CD.skip ?_
    refine CD.draw (bks (List.take 1 _)) (by kernel_rfl) (fun _ h => (List.Sublist.map _ (List.take_sublist _ _)).subset h) ?_
    refine AD0.take (i := 0) rfl (by kernel_rfl) (by kernel_rfl) (by kernel_rfl) (by repeat (first | exact NP.body | apply NP.then | apply NP.cut | apply NP.inBlock | apply NP.round)) (wants_plain rfl) rfl (still_mv rfl ot) (by exact trivial) ?_
    refine AD0.take (i := 1) rfl (by kernel_rfl) (by kernel_rfl) (by kernel_rfl) (by repeat (first | exact NP.body | apply NP.then | apply NP.cut | apply NP.inBlock | apply NP.round)) (wants_plain rfl) rfl (still_mv rfl ot) (by exact trivial) ?_
    refine AD0.take (i := 2) rfl (by kernel_rfl) (by kernel_rfl) (by kernel_rfl) (by repeat (first | exact NP.body | apply NP.then | apply NP.cut | apply NP.inBlock | apply NP.round)) (wants_plain rfl) rfl (still_r1 (mk := Op.nilCheck) rfl ot (by first | exact nc_ptr | exact nc_iptr)) (by exact trivial) ?_
    refine AD0.take (i := 3) rfl (by kernel_rfl) (by kernel_rfl) (by kernel_rfl) (by repeat (first | exact NP.body | apply NP.then | apply NP.cut | apply NP.inBlock | apply NP.round)) (wants_plain rfl) rfl (still_r1 (mk := fun y => Op.fieldAddr 25 y 0) rfl ot (by first | exact fa_ptr (off := 0) Tryd.runUnderlying25 rfl Tryd.sizeOf23 rfl | exact fa_iptr (off := 0) Tryd.runUnderlying25 rfl Tryd.sizeOf23 rfl)) (by exact trivial) ?_
    refine AD0.take (i := 5) rfl (by kernel_rfl) (by kernel_rfl) (by kernel_rfl) (by repeat (first | exact NP.body | apply NP.then | apply NP.cut | apply NP.inBlock | apply NP.round)) (wants_plain rfl) rfl (still_r1 (mk := Op.load 27) rfl ot (by first | exact ld_blks (k := 0) (ds := [_, _, _]) rfl rfl Tryd.isAgg27 Tryd.sizeOf27 rfl rfl | exact ld_is (ds := [_, _, _]) Tryd.isAgg27 Tryd.sizeOf27 rfl rfl)) (by first | exact trivial | exact safe_blk (k0 := 0) rfl rfl) ?_
    refine AD0.later rfl ?_
    refine AD.two (i := 4) (j := 6) (by kernel_rfl) ?_ ?_
    · skip
      refine AStep.still rfl (wants_plain rfl) rfl (still_r1 (mk := Op.load 23) rfl ot (by first | exact ld_blk (k := 1) rfl rfl Tryd.isAgg23 rfl | exact ld_i Tryd.isAgg23 rfl)) ?_
      refine AD.one (i := 6) (by kernel_rfl) ?_
      refine AStep.bldS (pl := [(0, _)]) (zvs := [.int .i64 0, .string ⟨#[]⟩, .int .i64 0]) (ds := [_, _, _]) rfl (wants_plain rfl) rfl rfl Tryd.zeroValue27 Tryd.runUnderlying23 Tryd.sizeOf27 rfl rfl (by kernel_rfl) ⟨rfl, ot, trivial⟩ rfl rfl (fun b31 => ?_)
      refine AD.give (k := 0) (t := 31) (sz := 3) (m := 1) rfl lk rfl rfl rfl (Nat.le_refl _) (by decide) ?_
      refine AD.one (i := 7) (by kernel_rfl) ?_
      refine AStep.appendOwn (Sq := Sh) (R := [_, _]) rfl (wants_plain rfl) rfl rfl Tryd.underlying23 infoL rfl (by decide) ot ho (List.perm_append_comm (l₁ := [_, _])) (cells_len _) ot (fm_one cL_one [x]) (by decide) (by unfold maxLen; omega) (by omega) (by intro b hb; simp [bks, St.put] at hb ⊢; try first | exact hb | simp [hb] | (rcases hb with hb | hb <;> simp [hb]) | (rcases hb with hb | hb | hb <;> simp [hb])) (fun b32 cap32 h1 h2 => ?_)
      refine AD.take (i := 8) rfl (by kernel_rfl) (by kernel_rfl) (by kernel_rfl) (by repeat (first | exact NP.body | apply NP.then | apply NP.cut | apply NP.inBlock | apply NP.round)) (wants_plain rfl) rfl (still_r1 (mk := Op.nilCheck) rfl ot (by first | exact nc_ptr | exact nc_iptr)) (by exact trivial) (by intro h; cases h) ?_
      refine AD.take (i := 9) rfl (by kernel_rfl) (by kernel_rfl) (by kernel_rfl) (by repeat (first | exact NP.body | apply NP.then | apply NP.cut | apply NP.inBlock | apply NP.round)) (wants_plain rfl) rfl (still_r1 (mk := fun y => Op.fieldAddr 25 y 0) rfl ot (by first | exact fa_ptr (off := 0) Tryd.runUnderlying25 rfl Tryd.sizeOf23 rfl | exact fa_iptr (off := 0) Tryd.runUnderlying25 rfl Tryd.sizeOf23 rfl)) (by exact trivial) (by intro h; cases h) ?_
      refine AD.one (i := 10) (by kernel_rfl) ?_
      refine AStep.store (k := 2) (cs' := [_, _]) rfl (wants_plain rfl) rfl rfl ot rfl rfl ot rfl rfl Tryd.sizeOf23 rfl rfl rfl (by intro b hb; simp [bks, St.put] at hb ⊢; try first | exact hb | simp [hb] | (rcases hb with hb | hb <;> simp [hb]) | (rcases hb with hb | hb | hb <;> simp [hb])) ?_
      refine AD.wk (y := ⟨35, [], [_, ⟨b3, 27, 3, [_, _, _]⟩, ⟨_, _, _, [_, _]⟩]⟩) (Wk.as_ rfl rfl trivial) rfl ?_
      refine AD.done (by kernel_rfl) ?_
      refine ⟨.inl rfl, _, [_, _], (.cons_cons _ (.cons _ (.refl _))), ret_none Tryd.results31 , ?_⟩
      first | exact ⟨rfl, _, _, _, by rw [haveL_old hk2]; exact .inr ⟨bh, rfl, by rw [List.length_modify]; exact h1, h2, rfl⟩, by rw [haveL_old hk2, List.length_modify]⟩ | exact ⟨rfl, _, _, _, by rw [haveL_new (by omega)]; exact .inr ⟨b32, rfl, by rw [List.length_append]; exact h1, h2, rfl⟩, by rw [haveL_new (by omega), List.length_append, List.flatMap_append]; exact List.Perm.swap _ _ _⟩
    · skip
      refine AStep.bldS (pl := [(0, _)]) (zvs := [.int .i64 0, .string ⟨#[]⟩, .int .i64 0]) (ds := [_, _, _]) rfl (wants_plain rfl) rfl rfl Tryd.zeroValue27 Tryd.runUnderlying23 Tryd.sizeOf27 rfl rfl (by kernel_rfl) ⟨rfl, ot, trivial⟩ rfl rfl (fun b31 => ?_)
      refine AD.give (k := 0) (t := 31) (sz := 3) (m := 1) rfl lk rfl rfl rfl (Nat.le_refl _) (by decide) ?_
      refine AD.one (i := 4) (by kernel_rfl) ?_
      refine AStep.still rfl (wants_plain rfl) rfl (still_r1 (mk := Op.load 23) rfl ot (by first | exact ld_blk (k := 1) rfl rfl Tryd.isAgg23 rfl | exact ld_i Tryd.isAgg23 rfl)) ?_
      refine AD.one (i := 7) (by kernel_rfl) ?_
      refine AStep.appendOwn (Sq := Sh) (R := [_, _]) rfl (wants_plain rfl) rfl rfl Tryd.underlying23 infoL rfl (by decide) ot ho (List.perm_append_comm (l₁ := [_, _])) (cells_len _) ot (fm_one cL_one [x]) (by decide) (by unfold maxLen; omega) (by omega) (by intro b hb; simp [bks, St.put] at hb ⊢; try first | exact hb | simp [hb] | (rcases hb with hb | hb <;> simp [hb]) | (rcases hb with hb | hb | hb <;> simp [hb])) (fun b32 cap32 h1 h2 => ?_)
      refine AD.take (i := 8) rfl (by kernel_rfl) (by kernel_rfl) (by kernel_rfl) (by repeat (first | exact NP.body | apply NP.then | apply NP.cut | apply NP.inBlock | apply NP.round)) (wants_plain rfl) rfl (still_r1 (mk := Op.nilCheck) rfl ot (by first | exact nc_ptr | exact nc_iptr)) (by exact trivial) (by intro h; cases h) ?_
      refine AD.take (i := 9) rfl (by kernel_rfl) (by kernel_rfl) (by kernel_rfl) (by repeat (first | exact NP.body | apply NP.then | apply NP.cut | apply NP.inBlock | apply NP.round)) (wants_plain rfl) rfl (still_r1 (mk := fun y => Op.fieldAddr 25 y 0) rfl ot (by first | exact fa_ptr (off := 0) Tryd.runUnderlying25 rfl Tryd.sizeOf23 rfl | exact fa_iptr (off := 0) Tryd.runUnderlying25 rfl Tryd.sizeOf23 rfl)) (by exact trivial) (by intro h; cases h) ?_
      refine AD.one (i := 10) (by kernel_rfl) ?_
      refine AStep.store (k := 2) (cs' := [_, _]) rfl (wants_plain rfl) rfl rfl ot rfl rfl ot rfl rfl Tryd.sizeOf23 rfl rfl rfl (by intro b hb; simp [bks, St.put] at hb ⊢; try first | exact hb | simp [hb] | (rcases hb with hb | hb <;> simp [hb]) | (rcases hb with hb | hb | hb <;> simp [hb])) ?_
      refine AD.wk (y := ⟨35, [], [_, ⟨b3, 27, 3, [_, _, _]⟩, ⟨_, _, _, [_, _]⟩]⟩) (Wk.as_ rfl rfl trivial) rfl ?_
      refine AD.done (by kernel_rfl) ?_
      refine ⟨.inl rfl, _, [_, _], (.cons_cons _ (.cons _ (.refl _))), ret_none Tryd.results31 , ?_⟩
      first | exact ⟨rfl, _, _, _, by rw [haveL_old hk2]; exact .inr ⟨bh, rfl, by rw [List.length_modify]; exact h1, h2, rfl⟩, by rw [haveL_old hk2, List.length_modify]⟩ | exact ⟨rfl, _, _, _, by rw [haveL_new (by omega)]; exact .inr ⟨b32, rfl, by rw [List.length_append]; exact h1, h2, rfl⟩, by rw [haveL_new (by omega), List.length_append, List.flatMap_append]; exact List.Perm.swap _ _ _⟩

end Go.Proofs.YtcogdagfcndbfaaDoor.Lk

namespace Go.Proofs.YtcogdagfcndbfaaDoor.Lk
open Go.RowKit V
set_option linter.unusedVariables false
set_option linter.unusedSimpArgs false

variable (G : List (Nat × List Value))

set_option maxHeartbeats 4000000 in
set_option maxRecDepth 100000 in
theorem check1_vc (y : L) : VC Tryd.prog G 35 [lockD y] [] (fun r S => r = .v (.bool (shapeF y != 0)) ∧ S = []) := by
  refine VC.body Tryd.func35 rfl Tryd.ntmps35 (Nat.le_of_ble_eq_true rfl) fun X0 w0 S00 => ?_
  unfold lockD cL
  refine CD.seq ?_
  refine CD.region ?_
  refine OD.box (ds := [_, _, _]) (wants_plain rfl) rfl rfl ot rfl rfl (fun b1 => ?_)
  refine OD.still (wants_plain rfl) rfl (still_as rfl opd_const) ?_
  refine OD.wk (Wk.as_ (n := 6) (l' := [(1, _)]) (S' := [⟨b1, 27, 3, [_, _, _]⟩]) rfl rfl ⟨lk, trivial⟩) ?_
  refine OD.nil ?_
  refine CD.seq ?_
  refine CD.region ?_
  refine OD.still (wants_plain rfl) rfl (still_r1 (mk := Op.load 27) rfl ot (by first | exact ld_blks (k := 0) (ds := [_, _, _]) rfl rfl Tryd.isAgg27 Tryd.sizeOf27 rfl rfl | exact ld_is (ds := [_, _, _]) Tryd.isAgg27 Tryd.sizeOf27 rfl rfl)) ?_
  refine OD.callP (wants_plain rfl) rfl rfl rfl Tryd.call25 (shape_vp _ y) ⟨ot, trivial⟩ ?_
  refine OD.still (wants_plain rfl) rfl (still_bin rfl ot opd_const bin_neq) ?_
  refine OD.still (wants_plain rfl) rfl (still_as rfl ot) ?_
  refine OD.wk (Wk.as_ (n := 6) (l' := [(2, _)]) (S' := [⟨b1, 27, 3, [_, _, _]⟩]) rfl rfl ⟨lk, trivial⟩) ?_
  refine OD.nil ?_
  refine CD.ret ?_
  refine ⟨.inr rfl, _, [], List.nil_sublist _, ret_one Tryd.results35 (res_tmp (Nat.le_of_ble_eq_true rfl) lk), ?_⟩
  exact ⟨rfl, rfl⟩

set_option maxHeartbeats 4000000 in
set_option maxRecDepth 100000 in
theorem check2_vc (q y : L) (b : Nat) : VC Tryd.prog G 37 [lockD y, .v (.pointer (some ⟨b, 0, none⟩))] [⟨b, 27, 3, cL q⟩] (fun r S => r = .v (.bool (y.t == q.t)) ∧ S = [⟨b, 27, 3, cL q⟩]) := by
  refine VC.body Tryd.func37 rfl Tryd.ntmps37 (Nat.le_of_ble_eq_true rfl) fun X0 w0 S00 => ?_
  unfold lockD cL
  refine CD.seq ?_
  refine CD.region ?_
  refine OD.box (ds := [_, _, _]) (wants_plain rfl) rfl rfl ot rfl rfl (fun b2 => ?_)
  refine OD.still (wants_plain rfl) rfl (still_as rfl opd_const) ?_
  refine OD.wk (Wk.as_ (n := 9) (l' := [(1, _), (2, _)]) (S' := [⟨b2, 27, 3, [_, _, _]⟩, ⟨_, _, _, [_, _, _]⟩]) rfl rfl ⟨lk, lk, trivial⟩) ?_
  refine OD.nil ?_
  refine CD.seq ?_
  refine CD.region ?_
  refine OD.still (wants_plain rfl) rfl (still_r1 (mk := fun y => Op.fieldAddr 27 y 0) rfl ot (by first | exact fa_ptr (off := 0) Tryd.runUnderlying27 rfl Tryd.sizeOf3 rfl | exact fa_iptr (off := 0) Tryd.runUnderlying27 rfl Tryd.sizeOf3 rfl)) ?_
  refine OD.still (wants_plain rfl) rfl (still_r1 (mk := Op.load 3) rfl ot (by first | exact ld_blk (k := 0) rfl rfl Tryd.isAgg3 rfl | exact ld_i Tryd.isAgg3 rfl)) ?_
  refine OD.still (wants_plain rfl) rfl (still_r1 (mk := fun y => Op.fieldAddr 27 y 0) rfl ot (by first | exact fa_ptr (off := 0) Tryd.runUnderlying27 rfl Tryd.sizeOf3 rfl | exact fa_iptr (off := 0) Tryd.runUnderlying27 rfl Tryd.sizeOf3 rfl)) ?_
  refine OD.still (wants_plain rfl) rfl (still_r1 (mk := Op.load 3) rfl ot (by first | exact ld_blk (k := 1) rfl rfl Tryd.isAgg3 rfl | exact ld_i Tryd.isAgg3 rfl)) ?_
  refine OD.still (wants_plain rfl) rfl (still_bin rfl ot ot bin_eql) ?_
  refine OD.still (wants_plain rfl) rfl (still_as rfl ot) ?_
  refine OD.wk (Wk.as_ (n := 9) (l' := [(3, _)]) (S' := [⟨b2, 27, 3, [_, _, _]⟩, ⟨_, _, _, [_, _, _]⟩]) rfl rfl ⟨lk, trivial⟩) ?_
  refine OD.nil ?_
  refine CD.ret ?_
  refine ⟨.inr rfl, _, [⟨b, 27, 3, cL q⟩], (by repeat (first | exact List.Sublist.refl _ | apply List.Sublist.cons)), ret_one Tryd.results37 (res_tmp (Nat.le_of_ble_eq_true rfl) lk), ?_⟩
  exact ⟨rfl, rfl⟩

theorem Good.mode {held queue : List L} (g : Good held queue) : ∀ h ∈ held, modeB h.m = true := fun h hh => (shape_iff.1 (g.shape h hh)).2.2
theorem Good.any {held queue : List L} (g : Good held queue) : held.any (fun x => shapeF x != 0) = false := by
  rw [List.any_eq_false]; intro x hx; simp [g.shape x hx]
theorem Good.at_ {held queue : List L} (g : Good held queue) {k : Nat} (hk : k < held.length) : decide (findI (held.take k) held[k].t held[k].th ≥ 0) = false ∧ freeB held held[k] = true := by
  have := g.heldOk k hk
  unfold badH at this
  simp only [Bool.or_eq_false_iff, Bool.not_eq_false'] at this
  exact this
theorem Good.atQ {held queue : List L} (g : Good held queue) {k : Nat} (hk : k < queue.length) : shapeF queue[k] = 0 ∧ modeB (queue[k]).m = true ∧ (queue.take k).any (fun x => x.t == queue[k].t) = false ∧ wrongQ held queue[k] = false ∧ firstQ held (queue.take k) queue[k] = false := by
  have := g.queueOk k hk
  unfold badQ at this
  simp only [Bool.or_eq_false_iff, bne_eq_false_iff_eq] at this
  obtain ⟨⟨⟨h1, h2⟩, h3⟩, h4⟩ := this
  exact ⟨h1, (shape_iff.1 h1).2.2, h2, h3, h4⟩
theorem find_idx {held : List L} {t : Int} {th : ByteArray} {k : Nat} (hk : k < held.length) (h : held.findIdx? (hasK t th) = some k) : held.find? (hasK t th) = some held[k] := by
  obtain ⟨h1, h2, h3⟩ := List.findIdx?_eq_some_iff_getElem.1 h
  rw [List.find?_eq_some_iff_getElem]
  exact ⟨h2, k, h1, rfl, fun j hj => by simpa using h3 j hj⟩

set_option maxHeartbeats 4000000 in
set_option maxRecDepth 100000 in
theorem check_vp (held queue : List L) (g : Good held queue) : VP Tryd.prog TG 18 [locksS held queue] (.v (.int .i64 0)) := by
  refine VC.body Tryd.func18 rfl Tryd.ntmps18 (Nat.le_of_ble_eq_true rfl) fun X0 w0 S00 => ?_
  unfold locksS locksD
  have few := g.few
  refine CD.seq ?_
  refine CD.region ?_
  refine OD.box (ds := [_, _]) (wants_plain rfl) rfl rfl ot rfl rfl (fun b1 => ?_)
  refine OD.still (wants_plain rfl) rfl (still_as rfl opd_const) ?_
  refine OD.wk (Wk.as_ (n := 104) (l' := [(1, _)]) (S' := [⟨b1, 25, 2, [_, _]⟩]) rfl rfl ⟨lk, trivial⟩) ?_
  refine OD.nil ?_
  refine CD.seq ?_
  refine CD.seq ?_
  refine CD.region ?_
  refine OD.still (wants_plain rfl) rfl (still_r1 (mk := fun y => Op.fieldAddr 25 y 0) rfl ot (by first | exact fa_ptr (off := 0) Tryd.runUnderlying25 rfl Tryd.sizeOf23 rfl | exact fa_iptr (off := 0) Tryd.runUnderlying25 rfl Tryd.sizeOf23 rfl)) ?_
  refine OD.still (wants_plain rfl) rfl (still_r1 (mk := Op.load 23) rfl ot (by first | exact ld_blk (k := 0) rfl rfl Tryd.isAgg23 rfl | exact ld_fm cL_len Tryd.isAgg23 (by first | assumption | omega) rfl | exact ld_fm0 cL_len Tryd.isAgg23 (by first | assumption | omega) rfl | exact ld_row (k := 0) cL_len rfl rfl rfl Tryd.isAgg23 (by first | assumption | omega) rfl | exact ld_row0 (k := 0) cL_len rfl rfl rfl Tryd.isAgg23 (by first | assumption | omega) rfl | exact ld_i Tryd.isAgg23 rfl | exact ld_tab (List.mem_cons_self) Tryd.isAgg23 (fitsC_off (by omega) (by omega) (by omega) (by omega)) | exact ld_tab (List.mem_cons_of_mem _ List.mem_cons_self) Tryd.isAgg23 (joinsC_off (by omega) (by omega) (by omega) (by omega)))) ?_
  refine OD.still (wants_plain rfl) rfl (still_r1 (mk := fun y => .call { callee := .builtin .len, args := #[y], argTypes := #[23] }) rfl ot (by first | exact len_list rfl Tryd.runUnderlying23 | exact len_row rfl Tryd.runUnderlying23)) ?_
  refine OD.still (wants_plain rfl) rfl (still_r1 (mk := fun y => Op.fieldAddr 25 y 1) rfl ot (by first | exact fa_ptr (off := 1) Tryd.runUnderlying25 rfl Tryd.sizeOf23 rfl | exact fa_iptr (off := 1) Tryd.runUnderlying25 rfl Tryd.sizeOf23 rfl)) ?_
  refine OD.still (wants_plain rfl) rfl (still_r1 (mk := Op.load 23) rfl ot (by first | exact ld_blk (k := 0) rfl rfl Tryd.isAgg23 rfl | exact ld_fm cL_len Tryd.isAgg23 (by first | assumption | omega) rfl | exact ld_fm0 cL_len Tryd.isAgg23 (by first | assumption | omega) rfl | exact ld_row (k := 0) cL_len rfl rfl rfl Tryd.isAgg23 (by first | assumption | omega) rfl | exact ld_row0 (k := 0) cL_len rfl rfl rfl Tryd.isAgg23 (by first | assumption | omega) rfl | exact ld_i Tryd.isAgg23 rfl | exact ld_tab (List.mem_cons_self) Tryd.isAgg23 (fitsC_off (by omega) (by omega) (by omega) (by omega)) | exact ld_tab (List.mem_cons_of_mem _ List.mem_cons_self) Tryd.isAgg23 (joinsC_off (by omega) (by omega) (by omega) (by omega)))) ?_
  refine OD.still (wants_plain rfl) rfl (still_r1 (mk := fun y => .call { callee := .builtin .len, args := #[y], argTypes := #[23] }) rfl ot (by first | exact len_list rfl Tryd.runUnderlying23 | exact len_row rfl Tryd.runUnderlying23)) ?_
  refine OD.still (wants_plain rfl) rfl (still_bin rfl ot ot (bin_add (wrap_i64 (by omega) (by omega)))) ?_
  refine OD.still (wants_plain rfl) rfl (still_bin rfl ot opd_const bin_gtr) ?_
  refine OD.wk (Wk.as_ (n := 104) (l' := [(1, _), (15, _)]) (S' := [⟨b1, 25, 2, [_, _]⟩]) rfl rfl ⟨lk, lk, trivial⟩) ?_
  refine OD.nil ?_
  refine CD.cond ot (fun hc0 => ?_) (fun hc0 => ?_)
  · exact absurd hc0 (by simp at hc0; omega)
  · have hc0' := hc0
    (try simp only [decide_eq_true_eq, decide_eq_false_iff_not, beq_iff_eq, bne_iff_ne, Bool.not_eq_true', Bool.not_eq_false', Bool.not_eq_true, Bool.not_eq_false, beq_eq_false_iff_ne, ne_eq, bne_eq_false_iff_eq, Bool.and_eq_true, Bool.or_eq_true, Bool.not_not, Bool.and_eq_false_iff, Bool.or_eq_false_iff, Int.not_lt, Int.not_le] at hc0')
    refine CD.skip ?_
    refine CD.seq ?_
    refine CD.seq ?_
    refine CD.region ?_
    refine OD.still (wants_plain rfl) rfl (still_r1 (mk := fun y => Op.fieldAddr 25 y 0) rfl ot (by first | exact fa_ptr (off := 0) Tryd.runUnderlying25 rfl Tryd.sizeOf23 rfl | exact fa_iptr (off := 0) Tryd.runUnderlying25 rfl Tryd.sizeOf23 rfl)) ?_
    refine OD.still (wants_plain rfl) rfl (still_r1 (mk := Op.load 23) rfl ot (by first | exact ld_blk (k := 0) rfl rfl Tryd.isAgg23 rfl | exact ld_fm cL_len Tryd.isAgg23 (by first | assumption | omega) rfl | exact ld_fm0 cL_len Tryd.isAgg23 (by first | assumption | omega) rfl | exact ld_row (k := 0) cL_len rfl rfl rfl Tryd.isAgg23 (by first | assumption | omega) rfl | exact ld_row0 (k := 0) cL_len rfl rfl rfl Tryd.isAgg23 (by first | assumption | omega) rfl | exact ld_i Tryd.isAgg23 rfl | exact ld_tab (List.mem_cons_self) Tryd.isAgg23 (fitsC_off (by omega) (by omega) (by omega) (by omega)) | exact ld_tab (List.mem_cons_of_mem _ List.mem_cons_self) Tryd.isAgg23 (joinsC_off (by omega) (by omega) (by omega) (by omega)))) ?_
    refine OD.call (wants_plain rfl) rfl rfl rfl Tryd.call26 (contains_vc _ held 35 [] [] (fun x => shapeF x != 0) Tryd.call35 (fun y _ => check1_vc _ y) (by omega)) ⟨ot, opd_func, trivial⟩ (perm_none _) ?_; rintro _ S2 ⟨rfl, hS2⟩; rw [hS2]; clear hS2
    refine OD.wk (Wk.as_ (n := 104) (l' := [(1, _), (18, _)]) (S' := [⟨b1, 25, 2, [_, _]⟩]) rfl rfl ⟨lk, lk, trivial⟩) ?_
    refine OD.nil ?_
    refine CD.cond ot (fun hc1 => ?_) (fun hc1 => ?_)
    · exact absurd hc1 (by rw [g.any] at hc1; cases hc1)
    · have hc1' := hc1
      (try simp only [decide_eq_true_eq, decide_eq_false_iff_not, beq_iff_eq, bne_iff_ne, Bool.not_eq_true', Bool.not_eq_false', Bool.not_eq_true, Bool.not_eq_false, beq_eq_false_iff_ne, ne_eq, bne_eq_false_iff_eq, Bool.and_eq_true, Bool.or_eq_true, Bool.not_not, Bool.and_eq_false_iff, Bool.or_eq_false_iff, Int.not_lt, Int.not_le] at hc1')
      refine CD.skip ?_
      refine CD.seq ?_
      refine CD.seq ?_
      refine CD.region ?_
      refine OD.still (wants_plain rfl) rfl (still_r1 (mk := fun y => Op.fieldAddr 25 y 0) rfl ot (by first | exact fa_ptr (off := 0) Tryd.runUnderlying25 rfl Tryd.sizeOf23 rfl | exact fa_iptr (off := 0) Tryd.runUnderlying25 rfl Tryd.sizeOf23 rfl)) ?_
      refine OD.still (wants_plain rfl) rfl (still_r1 (mk := Op.load 23) rfl ot (by first | exact ld_blk (k := 0) rfl rfl Tryd.isAgg23 rfl | exact ld_fm cL_len Tryd.isAgg23 (by first | assumption | omega) rfl | exact ld_fm0 cL_len Tryd.isAgg23 (by first | assumption | omega) rfl | exact ld_row (k := 0) cL_len rfl rfl rfl Tryd.isAgg23 (by first | assumption | omega) rfl | exact ld_row0 (k := 0) cL_len rfl rfl rfl Tryd.isAgg23 (by first | assumption | omega) rfl | exact ld_i Tryd.isAgg23 rfl | exact ld_tab (List.mem_cons_self) Tryd.isAgg23 (fitsC_off (by omega) (by omega) (by omega) (by omega)) | exact ld_tab (List.mem_cons_of_mem _ List.mem_cons_self) Tryd.isAgg23 (joinsC_off (by omega) (by omega) (by omega) (by omega)))) ?_
      refine OD.still (wants_plain rfl) rfl (still_r1 (mk := fun y => .call { callee := .builtin .len, args := #[y], argTypes := #[23] }) rfl ot (by first | exact len_list rfl Tryd.runUnderlying23 | exact len_row rfl Tryd.runUnderlying23)) ?_
      refine OD.still (wants_plain rfl) rfl (still_mv rfl opd_const) ?_
      refine OD.wk (Wk.as_ (n := 104) (l' := [(1, _), (20, _), (21, _), (22, _)]) (S' := [⟨b1, 25, 2, [_, _]⟩]) rfl rfl ⟨lk, lk, lk, lk, trivial⟩) ?_
      refine OD.nil ?_
      refine CD.block ?_
      refine CD.wk (Wk.asS (n := 104) (l' := [(1, .v (.pointer (some ⟨b1, 0, none⟩))), (20, .list 3 (held.flatMap cL) held.length), (21, .v (.int .i64 held.length)), (22, .v (.int .i64 ((0) : Nat)))]) (S' := [⟨b1, 25, 2, [.list 3 (held.flatMap cL) held.length, .list 3 (queue.flatMap cL) queue.length]⟩]) rfl (by repeat (first | exact List.Sublist.refl _ | apply List.Sublist.cons)) ⟨(by (repeat (first | exact look_hit | (apply look_at; focus (first | rfl | (simp; done) | (congr 2; omega))) | (apply look_miss; focus rfl))); done), (by (repeat (first | exact look_hit | (apply look_at; focus (first | rfl | (simp; done) | (congr 2; omega))) | (apply look_miss; focus rfl))); done), (by (repeat (first | exact look_hit | (apply look_at; focus (first | rfl | (simp; done) | (congr 2; omega))) | (apply look_miss; focus rfl))); done), (by (repeat (first | exact look_hit | (apply look_at; focus (first | rfl | (simp; done) | (congr 2; omega))) | (apply look_miss; focus rfl))); done), trivial⟩) (CD.loop (fun (k : Nat) y__ => (k ≤ held.length) ∧ y__ = (⟨104, [(1, .v (.pointer (some ⟨b1, 0, none⟩))), (20, .list 3 (held.flatMap cL) held.length), (21, .v (.int .i64 held.length)), (22, .v (.int .i64 (k : Nat)))], [⟨b1, 25, 2, [.list 3 (held.flatMap cL) held.length, .list 3 (queue.flatMap cL) queue.length]⟩]⟩ : St)) (fun (k : Nat) => held.length - k) 0 ⟨Nat.zero_le _, rfl⟩ ?_)
      rintro k _ ⟨hk, rfl⟩
      refine CD.seq ?_
      refine CD.region ?_
      refine OD.still (wants_plain rfl) rfl (still_bin rfl ot ot bin_lss) ?_
      refine OD.wk (Wk.as_ (n := 104) (l' := [(1, _), (20, _), (21, _), (22, _), (23, _)]) (S' := [⟨b1, 25, 2, [_, _]⟩]) rfl rfl ⟨lk, lk, lk, lk, lk, trivial⟩) ?_
      refine OD.nil ?_
      refine CD.seq ?_
      refine CD.cond ot (fun hc2 => ?_) (fun hc2 => ?_)
      · have hc2' := hc2
        (try simp only [decide_eq_true_eq, decide_eq_false_iff_not, beq_iff_eq, bne_iff_ne, Bool.not_eq_true', Bool.not_eq_false', Bool.not_eq_true, Bool.not_eq_false, beq_eq_false_iff_ne, ne_eq, bne_eq_false_iff_eq, Bool.and_eq_true, Bool.or_eq_true, Bool.not_not, Bool.and_eq_false_iff, Bool.or_eq_false_iff, Int.not_lt, Int.not_le] at hc2')
        have hkl : k < held.length := by omega
        obtain ⟨hf1, hf2⟩ := g.at_ hkl
        refine CD.skip ?_
        refine CD.seq ?_
        refine CD.block ?_
        refine CD.seq ?_
        refine CD.region ?_
        refine OD.still (wants_plain rfl) rfl (still_mv rfl ot) ?_
        refine OD.still (wants_plain rfl) rfl (still_r2 (mk := Op.indexAddr 23) rfl ot ot (by first | exact ix_list Tryd.runUnderlying23 Tryd.sizeOf27 rfl (by first | assumption | omega) | exact ix_list (j := Int.toNat _) Tryd.runUnderlying23 Tryd.sizeOf27 (Int.toNat_of_nonneg (by omega)).symm (by omega) | exact ix_row Tryd.runUnderlying23 Tryd.sizeOf27 rfl (by first | assumption | omega) | exact ix_row (j := Int.toNat _) Tryd.runUnderlying23 Tryd.sizeOf27 (Int.toNat_of_nonneg (by omega)).symm (by omega))) ?_
        refine OD.still (wants_plain rfl) rfl (still_r1 (mk := Op.load 27) rfl ot (by first | exact ld_blks (k := 0) (ds := [_, _, _]) rfl rfl Tryd.isAgg27 Tryd.sizeOf27 rfl rfl | exact ld_fms cL_len Tryd.isAgg27 Tryd.sizeOf27 (by first | assumption | omega) | exact ld_rows (k := 0) cL_len rfl rfl rfl Tryd.isAgg27 Tryd.sizeOf27 (by first | assumption | omega) | exact ld_is (ds := [_, _, _]) Tryd.isAgg27 Tryd.sizeOf27 rfl rfl)) ?_
        refine OD.alloc (ds := [_, _, _]) (wants_plain rfl) rfl rfl Tryd.zeroValue27 rfl (fun b4 => ?_)
        refine OD.still (wants_plain rfl) rfl (still_as rfl ot) ?_
        refine OD.store (k := 0) (cs' := [_, _, _]) (wants_plain rfl) rfl rfl ot rfl rfl ot rfl rfl Tryd.sizeOf27 rfl rfl rfl ?_
        refine OD.wk (Wk.as_ (n := 104) (l' := [(1, _), (3, _), (4, _), (20, _), (21, _), (22, _)]) (S' := [⟨b4, 27, 3, [_, _, _]⟩, ⟨b1, 25, 2, [_, _]⟩]) rfl rfl ⟨lk, lk, lk, lk, lk, lk, trivial⟩) ?_
        refine OD.nil ?_
        refine CD.seq ?_
        refine CD.draw (bks _) (by kernel_rfl) (fun _ h => h) ?_
        refine AD0.take (i := 0) rfl (by kernel_rfl) (by kernel_rfl) (by kernel_rfl) (by repeat (first | exact NP.body | apply NP.then | apply NP.cut | apply NP.inBlock | apply NP.round)) (wants_plain rfl) rfl (still_r1 (mk := fun y => Op.fieldAddr 25 y 0) rfl ot (by first | exact fa_ptr (off := 0) Tryd.runUnderlying25 rfl Tryd.sizeOf23 rfl | exact fa_iptr (off := 0) Tryd.runUnderlying25 rfl Tryd.sizeOf23 rfl)) (by exact trivial) ?_
        refine AD0.take (i := 1) rfl (by kernel_rfl) (by kernel_rfl) (by kernel_rfl) (by repeat (first | exact NP.body | apply NP.then | apply NP.cut | apply NP.inBlock | apply NP.round)) (wants_plain rfl) rfl (still_r1 (mk := Op.load 23) rfl ot (by first | exact ld_blk (k := 1) rfl rfl Tryd.isAgg23 rfl | exact ld_fm cL_len Tryd.isAgg23 (by first | assumption | omega) rfl | exact ld_fm0 cL_len Tryd.isAgg23 (by first | assumption | omega) rfl | exact ld_row (k := 0) cL_len rfl rfl rfl Tryd.isAgg23 (by first | assumption | omega) rfl | exact ld_row0 (k := 0) cL_len rfl rfl rfl Tryd.isAgg23 (by first | assumption | omega) rfl | exact ld_row (k := 1) cL_len rfl rfl rfl Tryd.isAgg23 (by first | assumption | omega) rfl | exact ld_row0 (k := 1) cL_len rfl rfl rfl Tryd.isAgg23 (by first | assumption | omega) rfl | exact ld_i Tryd.isAgg23 rfl | exact ld_tab (List.mem_cons_self) Tryd.isAgg23 (fitsC_off (by omega) (by omega) (by omega) (by omega)) | exact ld_tab (List.mem_cons_of_mem _ List.mem_cons_self) Tryd.isAgg23 (joinsC_off (by omega) (by omega) (by omega) (by omega)))) (by first | exact trivial | exact safe_blk (k0 := 0) rfl rfl | exact safe_blk (k0 := 1) rfl rfl) ?_
        refine AD0.take (i := 2) rfl (by kernel_rfl) (by kernel_rfl) (by kernel_rfl) (by repeat (first | exact NP.body | apply NP.then | apply NP.cut | apply NP.inBlock | apply NP.round)) (wants_plain rfl) rfl (still_mv rfl ot) (by exact trivial) ?_
        refine AD0.take (i := 3) rfl (by kernel_rfl) (by kernel_rfl) (by kernel_rfl) (by repeat (first | exact NP.body | apply NP.then | apply NP.cut | apply NP.inBlock | apply NP.round)) (wants_plain rfl) rfl (still_rs (l := 0) rfl ot trivial ⟨_, ot⟩ (by first | exact sl_head cL_len (fun h => by cases h) Tryd.runUnderlying23 Tryd.sizeOf27 (by omega) | exact sl_row (fun h => by cases h) Tryd.runUnderlying23 Tryd.sizeOf27 (by omega) | exact sl_list (fun _ => rfl) (fun h => by cases h) Tryd.runUnderlying23 Tryd.sizeOf27 (by omega) (by omega))) (by exact trivial) ?_
        refine AD0.take (i := 4) rfl (by kernel_rfl) (by kernel_rfl) (by kernel_rfl) (by repeat (first | exact NP.body | apply NP.then | apply NP.cut | apply NP.inBlock | apply NP.round)) (wants_plain rfl) rfl (still_r1 (mk := fun y => Op.fieldAddr 27 y 0) rfl ot (by first | exact fa_ptr (off := 0) Tryd.runUnderlying27 rfl Tryd.sizeOf3 rfl | exact fa_iptr (off := 0) Tryd.runUnderlying27 rfl Tryd.sizeOf3 rfl)) (by exact trivial) ?_
        refine AD0.take (i := 5) rfl (by kernel_rfl) (by kernel_rfl) (by kernel_rfl) (by repeat (first | exact NP.body | apply NP.then | apply NP.cut | apply NP.inBlock | apply NP.round)) (wants_plain rfl) rfl (still_r1 (mk := Op.load 3) rfl ot (by first | exact ld_blk (k := 0) rfl rfl Tryd.isAgg3 rfl | exact ld_fm cL_len Tryd.isAgg3 (by first | assumption | omega) rfl | exact ld_fm0 cL_len Tryd.isAgg3 (by first | assumption | omega) rfl | exact ld_row (k := 0) cL_len rfl rfl rfl Tryd.isAgg3 (by first | assumption | omega) rfl | exact ld_row0 (k := 0) cL_len rfl rfl rfl Tryd.isAgg3 (by first | assumption | omega) rfl | exact ld_row (k := 1) cL_len rfl rfl rfl Tryd.isAgg3 (by first | assumption | omega) rfl | exact ld_row0 (k := 1) cL_len rfl rfl rfl Tryd.isAgg3 (by first | assumption | omega) rfl | exact ld_i Tryd.isAgg3 rfl | exact ld_tab (List.mem_cons_self) Tryd.isAgg3 (fitsC_off (by omega) (by omega) (by omega) (by omega)) | exact ld_tab (List.mem_cons_of_mem _ List.mem_cons_self) Tryd.isAgg3 (joinsC_off (by omega) (by omega) (by omega) (by omega)))) (by first | exact trivial | exact safe_blk (k0 := 0) rfl rfl | exact safe_blk (k0 := 1) rfl rfl) ?_
        refine AD0.take (i := 6) rfl (by kernel_rfl) (by kernel_rfl) (by kernel_rfl) (by repeat (first | exact NP.body | apply NP.then | apply NP.cut | apply NP.inBlock | apply NP.round)) (wants_plain rfl) rfl (still_r1 (mk := fun y => Op.fieldAddr 27 y 1) rfl ot (by first | exact fa_ptr (off := 1) Tryd.runUnderlying27 rfl Tryd.sizeOf9 rfl | exact fa_iptr (off := 1) Tryd.runUnderlying27 rfl Tryd.sizeOf9 rfl)) (by exact trivial) ?_
        refine AD0.take (i := 7) rfl (by kernel_rfl) (by kernel_rfl) (by kernel_rfl) (by repeat (first | exact NP.body | apply NP.then | apply NP.cut | apply NP.inBlock | apply NP.round)) (wants_plain rfl) rfl (still_r1 (mk := Op.load 9) rfl ot (by first | exact ld_blk (k := 0) rfl rfl Tryd.isAgg9 rfl | exact ld_fm cL_len Tryd.isAgg9 (by first | assumption | omega) rfl | exact ld_fm0 cL_len Tryd.isAgg9 (by first | assumption | omega) rfl | exact ld_row (k := 0) cL_len rfl rfl rfl Tryd.isAgg9 (by first | assumption | omega) rfl | exact ld_row0 (k := 0) cL_len rfl rfl rfl Tryd.isAgg9 (by first | assumption | omega) rfl | exact ld_row (k := 1) cL_len rfl rfl rfl Tryd.isAgg9 (by first | assumption | omega) rfl | exact ld_row0 (k := 1) cL_len rfl rfl rfl Tryd.isAgg9 (by first | assumption | omega) rfl | exact ld_i Tryd.isAgg9 rfl | exact ld_tab (List.mem_cons_self) Tryd.isAgg9 (fitsC_off (by omega) (by omega) (by omega) (by omega)) | exact ld_tab (List.mem_cons_of_mem _ List.mem_cons_self) Tryd.isAgg9 (joinsC_off (by omega) (by omega) (by omega) (by omega)))) (by first | exact trivial | exact safe_blk (k0 := 0) rfl rfl | exact safe_blk (k0 := 1) rfl rfl) ?_
        refine AD0.later rfl ?_
        refine AD.one (i := 8) (by kernel_rfl) ?_
        refine AStep.callP rfl (wants_plain rfl) rfl rfl rfl Tryd.call29 (find_vp _ (held.take k) _ _ (by rw [List.length_take]; omega)) ⟨ot, ot, ot, trivial⟩ ?_
        refine AD.take (i := 9) rfl (by kernel_rfl) (by kernel_rfl) (by kernel_rfl) (by repeat (first | exact NP.body | apply NP.then | apply NP.cut | apply NP.inBlock | apply NP.round)) (wants_plain rfl) rfl (still_bin rfl ot opd_const bin_geq) (by exact trivial) (by intro h; cases h) ?_
        refine AD.take (i := 10) rfl (by kernel_rfl) (by kernel_rfl) (by kernel_rfl) (by repeat (first | exact NP.body | apply NP.then | apply NP.cut | apply NP.inBlock | apply NP.round)) (wants_plain rfl) rfl (still_mv rfl ot) (by exact trivial) (by intro h; cases h) ?_
        refine AD.split (t := 37) lk (fun hg37 => ?_) (fun hg37 => ?_)
        · exact absurd hg37 (by simp_all)
        · have hg37' := hg37; (try simp only [decide_eq_true_eq, decide_eq_false_iff_not, beq_iff_eq, bne_iff_ne, Bool.not_eq_true', Bool.not_eq_false', Bool.not_eq_true, Bool.not_eq_false, beq_eq_false_iff_ne, ne_eq, bne_eq_false_iff_eq, Bool.and_eq_true, Bool.or_eq_true, Bool.not_not, Bool.and_eq_false_iff, Bool.or_eq_false_iff, Int.not_lt, Int.not_le] at hg37')
          refine AD.take (i := 11) rfl (by kernel_rfl) (by kernel_rfl) (by kernel_rfl) (by repeat (first | exact NP.body | apply NP.then | apply NP.cut | apply NP.inBlock | apply NP.round)) (wants_T rfl rfl rfl lk (by first | rfl | assumption)) rfl (still_r1 (mk := fun y => Op.fieldAddr 25 y 0) rfl ot (by first | exact fa_ptr (off := 0) Tryd.runUnderlying25 rfl Tryd.sizeOf23 rfl | exact fa_iptr (off := 0) Tryd.runUnderlying25 rfl Tryd.sizeOf23 rfl)) (by exact trivial) (by intro h; cases h) ?_
          refine AD.two (i := 12) (j := 13) (by kernel_rfl) ?_ ?_
          · skip
            refine AStep.still rfl (wants_T rfl rfl rfl lk (by first | rfl | assumption)) rfl (still_r1 (mk := Op.load 23) rfl ot (by first | exact ld_blk (k := 1) rfl rfl Tryd.isAgg23 rfl | exact ld_fm cL_len Tryd.isAgg23 (by first | assumption | omega) rfl | exact ld_fm0 cL_len Tryd.isAgg23 (by first | assumption | omega) rfl | exact ld_row (k := 0) cL_len rfl rfl rfl Tryd.isAgg23 (by first | assumption | omega) rfl | exact ld_row0 (k := 0) cL_len rfl rfl rfl Tryd.isAgg23 (by first | assumption | omega) rfl | exact ld_row (k := 1) cL_len rfl rfl rfl Tryd.isAgg23 (by first | assumption | omega) rfl | exact ld_row0 (k := 1) cL_len rfl rfl rfl Tryd.isAgg23 (by first | assumption | omega) rfl | exact ld_i Tryd.isAgg23 rfl | exact ld_tab (List.mem_cons_self) Tryd.isAgg23 (fitsC_off (by omega) (by omega) (by omega) (by omega)) | exact ld_tab (List.mem_cons_of_mem _ List.mem_cons_self) Tryd.isAgg23 (joinsC_off (by omega) (by omega) (by omega) (by omega)))) ?_
            refine AD.one (i := 13) (by kernel_rfl) ?_
            refine AStep.still rfl (wants_T rfl rfl rfl lk (by first | rfl | assumption)) rfl (still_r1 (mk := Op.load 27) rfl ot (by first | exact ld_blks (k := 0) (ds := [_, _, _]) rfl rfl Tryd.isAgg27 Tryd.sizeOf27 rfl rfl | exact ld_fms cL_len Tryd.isAgg27 Tryd.sizeOf27 (by first | assumption | omega) | exact ld_rows (k := 0) cL_len rfl rfl rfl Tryd.isAgg27 Tryd.sizeOf27 (by first | assumption | omega) | exact ld_rows (k := 1) cL_len rfl rfl rfl Tryd.isAgg27 Tryd.sizeOf27 (by first | assumption | omega) | exact ld_is (ds := [_, _, _]) Tryd.isAgg27 Tryd.sizeOf27 rfl rfl)) ?_
            refine AD.one (i := 14) (by kernel_rfl) ?_
            refine AStep.callP rfl (wants_T rfl rfl rfl lk (by first | rfl | assumption)) rfl rfl rfl Tryd.call36 (free_vp held held[k] (by omega) g.mode (g.mode _ (List.getElem_mem _))) ⟨ot, ot, trivial⟩ ?_
            refine AD.take (i := 15) rfl (by kernel_rfl) (by kernel_rfl) (by kernel_rfl) (by repeat (first | exact NP.body | apply NP.then | apply NP.cut | apply NP.inBlock | apply NP.round)) (wants_T rfl rfl rfl lk (by first | rfl | assumption)) rfl (still_un rfl ot un_not) (by exact trivial) (by intro h; cases h) ?_
            refine AD.take (i := 16) rfl (by kernel_rfl) (by kernel_rfl) (by kernel_rfl) (by repeat (first | exact NP.body | apply NP.then | apply NP.cut | apply NP.inBlock | apply NP.round)) (wants_plain rfl) rfl (still_pickF rfl ot (by first | rfl | assumption) ot) (by exact trivial) (by intro h; cases h) ?_
            refine AD.wk (y := ⟨104, [(1, _), (20, _), (21, _), (22, _), (43, _)], [⟨b4, 27, 3, [_, _, _]⟩, ⟨b1, 25, 2, [_, _]⟩]⟩) (Wk.as_ rfl rfl ⟨lk, lk, lk, lk, lk, trivial⟩) rfl ?_
            refine AD.done (by kernel_rfl) ?_
            refine CD.cond ot (fun hc3 => ?_) (fun hc3 => ?_)
            · exact absurd hc3 (by simp_all)
            · have hc3' := hc3
              (try simp only [decide_eq_true_eq, decide_eq_false_iff_not, beq_iff_eq, bne_iff_ne, Bool.not_eq_true', Bool.not_eq_false', Bool.not_eq_true, Bool.not_eq_false, beq_eq_false_iff_ne, ne_eq, bne_eq_false_iff_eq, Bool.and_eq_true, Bool.or_eq_true, Bool.not_not, Bool.and_eq_false_iff, Bool.or_eq_false_iff, Int.not_lt, Int.not_le] at hc3')
              refine CD.skip ?_
              refine CD.region ?_
              refine OD.still (wants_plain rfl) rfl (still_bin rfl ot opd_const (bin_add (wrap_i64 (by omega) (by omega)))) ?_
              refine OD.still (wants_plain rfl) rfl (still_mv rfl ot) ?_
              refine OD.wk (Wk.as_ (n := 104) (l' := [(1, _), (20, _), (21, _), (22, _)]) (S' := [⟨b4, 27, 3, [_, _, _]⟩, ⟨b1, 25, 2, [_, _]⟩]) rfl rfl ⟨lk, lk, lk, lk, trivial⟩) ?_
              refine OD.nil ?_
              refine ⟨k + 1, ⟨104, [(1, .v (.pointer (some ⟨b1, 0, none⟩))), (20, .list 3 (held.flatMap cL) held.length), (21, .v (.int .i64 held.length)), (22, .v (.int .i64 ((k + 1) : Nat)))], [⟨b1, 25, 2, [.list 3 (held.flatMap cL) held.length, .list 3 (queue.flatMap cL) queue.length]⟩]⟩, ?_, Wk.asS (n := 104) rfl (by repeat (first | exact List.Sublist.refl _ | apply List.Sublist.cons)) ⟨(by (repeat (first | exact look_hit | (apply look_at; focus (first | rfl | (simp; done) | (congr 2; omega))) | (apply look_miss; focus rfl))); done), (by (repeat (first | exact look_hit | (apply look_at; focus (first | rfl | (simp; done) | (congr 2; omega))) | (apply look_miss; focus rfl))); done), (by (repeat (first | exact look_hit | (apply look_at; focus (first | rfl | (simp; done) | (congr 2; omega))) | (apply look_miss; focus rfl))); done), (by (repeat (first | exact look_hit | (apply look_at; focus (first | rfl | (simp; done) | (congr 2; omega))) | (apply look_miss; focus rfl))); done), trivial⟩, (by omega), rfl⟩
              first | omega | (simp only []; omega)
          · skip
            refine AStep.still rfl (wants_T rfl rfl rfl lk (by first | rfl | assumption)) rfl (still_r1 (mk := Op.load 27) rfl ot (by first | exact ld_blks (k := 0) (ds := [_, _, _]) rfl rfl Tryd.isAgg27 Tryd.sizeOf27 rfl rfl | exact ld_fms cL_len Tryd.isAgg27 Tryd.sizeOf27 (by first | assumption | omega) | exact ld_rows (k := 0) cL_len rfl rfl rfl Tryd.isAgg27 Tryd.sizeOf27 (by first | assumption | omega) | exact ld_rows (k := 1) cL_len rfl rfl rfl Tryd.isAgg27 Tryd.sizeOf27 (by first | assumption | omega) | exact ld_is (ds := [_, _, _]) Tryd.isAgg27 Tryd.sizeOf27 rfl rfl)) ?_
            refine AD.one (i := 12) (by kernel_rfl) ?_
            refine AStep.still rfl (wants_T rfl rfl rfl lk (by first | rfl | assumption)) rfl (still_r1 (mk := Op.load 23) rfl ot (by first | exact ld_blk (k := 1) rfl rfl Tryd.isAgg23 rfl | exact ld_fm cL_len Tryd.isAgg23 (by first | assumption | omega) rfl | exact ld_fm0 cL_len Tryd.isAgg23 (by first | assumption | omega) rfl | exact ld_row (k := 0) cL_len rfl rfl rfl Tryd.isAgg23 (by first | assumption | omega) rfl | exact ld_row0 (k := 0) cL_len rfl rfl rfl Tryd.isAgg23 (by first | assumption | omega) rfl | exact ld_row (k := 1) cL_len rfl rfl rfl Tryd.isAgg23 (by first | assumption | omega) rfl | exact ld_row0 (k := 1) cL_len rfl rfl rfl Tryd.isAgg23 (by first | assumption | omega) rfl | exact ld_i Tryd.isAgg23 rfl | exact ld_tab (List.mem_cons_self) Tryd.isAgg23 (fitsC_off (by omega) (by omega) (by omega) (by omega)) | exact ld_tab (List.mem_cons_of_mem _ List.mem_cons_self) Tryd.isAgg23 (joinsC_off (by omega) (by omega) (by omega) (by omega)))) ?_
            refine AD.one (i := 14) (by kernel_rfl) ?_
            refine AStep.callP rfl (wants_T rfl rfl rfl lk (by first | rfl | assumption)) rfl rfl rfl Tryd.call36 (free_vp held held[k] (by omega) g.mode (g.mode _ (List.getElem_mem _))) ⟨ot, ot, trivial⟩ ?_
            refine AD.take (i := 15) rfl (by kernel_rfl) (by kernel_rfl) (by kernel_rfl) (by repeat (first | exact NP.body | apply NP.then | apply NP.cut | apply NP.inBlock | apply NP.round)) (wants_T rfl rfl rfl lk (by first | rfl | assumption)) rfl (still_un rfl ot un_not) (by exact trivial) (by intro h; cases h) ?_
            refine AD.take (i := 16) rfl (by kernel_rfl) (by kernel_rfl) (by kernel_rfl) (by repeat (first | exact NP.body | apply NP.then | apply NP.cut | apply NP.inBlock | apply NP.round)) (wants_plain rfl) rfl (still_pickF rfl ot (by first | rfl | assumption) ot) (by exact trivial) (by intro h; cases h) ?_
            refine AD.wk (y := ⟨104, [(1, _), (20, _), (21, _), (22, _), (43, _)], [⟨b4, 27, 3, [_, _, _]⟩, ⟨b1, 25, 2, [_, _]⟩]⟩) (Wk.as_ rfl rfl ⟨lk, lk, lk, lk, lk, trivial⟩) rfl ?_
            refine AD.done (by kernel_rfl) ?_
            refine CD.cond ot (fun hc3 => ?_) (fun hc3 => ?_)
            · exact absurd hc3 (by simp_all)
            · have hc3' := hc3
              (try simp only [decide_eq_true_eq, decide_eq_false_iff_not, beq_iff_eq, bne_iff_ne, Bool.not_eq_true', Bool.not_eq_false', Bool.not_eq_true, Bool.not_eq_false, beq_eq_false_iff_ne, ne_eq, bne_eq_false_iff_eq, Bool.and_eq_true, Bool.or_eq_true, Bool.not_not, Bool.and_eq_false_iff, Bool.or_eq_false_iff, Int.not_lt, Int.not_le] at hc3')
              refine CD.skip ?_
              refine CD.region ?_
              refine OD.still (wants_plain rfl) rfl (still_bin rfl ot opd_const (bin_add (wrap_i64 (by omega) (by omega)))) ?_
              refine OD.still (wants_plain rfl) rfl (still_mv rfl ot) ?_
              refine OD.wk (Wk.as_ (n := 104) (l' := [(1, _), (20, _), (21, _), (22, _)]) (S' := [⟨b4, 27, 3, [_, _, _]⟩, ⟨b1, 25, 2, [_, _]⟩]) rfl rfl ⟨lk, lk, lk, lk, trivial⟩) ?_
              refine OD.nil ?_
              refine ⟨k + 1, ⟨104, [(1, .v (.pointer (some ⟨b1, 0, none⟩))), (20, .list 3 (held.flatMap cL) held.length), (21, .v (.int .i64 held.length)), (22, .v (.int .i64 ((k + 1) : Nat)))], [⟨b1, 25, 2, [.list 3 (held.flatMap cL) held.length, .list 3 (queue.flatMap cL) queue.length]⟩]⟩, ?_, Wk.asS (n := 104) rfl (by repeat (first | exact List.Sublist.refl _ | apply List.Sublist.cons)) ⟨(by (repeat (first | exact look_hit | (apply look_at; focus (first | rfl | (simp; done) | (congr 2; omega))) | (apply look_miss; focus rfl))); done), (by (repeat (first | exact look_hit | (apply look_at; focus (first | rfl | (simp; done) | (congr 2; omega))) | (apply look_miss; focus rfl))); done), (by (repeat (first | exact look_hit | (apply look_at; focus (first | rfl | (simp; done) | (congr 2; omega))) | (apply look_miss; focus rfl))); done), (by (repeat (first | exact look_hit | (apply look_at; focus (first | rfl | (simp; done) | (congr 2; omega))) | (apply look_miss; focus rfl))); done), trivial⟩, (by omega), rfl⟩
              first | omega | (simp only []; omega)
      · have hc2' := hc2
        (try simp only [decide_eq_true_eq, decide_eq_false_iff_not, beq_iff_eq, bne_iff_ne, Bool.not_eq_true', Bool.not_eq_false', Bool.not_eq_true, Bool.not_eq_false, beq_eq_false_iff_ne, ne_eq, bne_eq_false_iff_eq, Bool.and_eq_true, Bool.or_eq_true, Bool.not_not, Bool.and_eq_false_iff, Bool.or_eq_false_iff, Int.not_lt, Int.not_le] at hc2')
        refine CD.exit ?_
        refine CD.seq ?_
        refine CD.seq ?_
        refine CD.region ?_
        refine OD.still (wants_plain rfl) rfl (still_r1 (mk := fun y => Op.fieldAddr 25 y 1) rfl ot (by first | exact fa_ptr (off := 1) Tryd.runUnderlying25 rfl Tryd.sizeOf23 rfl | exact fa_iptr (off := 1) Tryd.runUnderlying25 rfl Tryd.sizeOf23 rfl)) ?_
        refine OD.still (wants_plain rfl) rfl (still_r1 (mk := Op.load 23) rfl ot (by first | exact ld_blk (k := 0) rfl rfl Tryd.isAgg23 rfl | exact ld_fm cL_len Tryd.isAgg23 (by first | assumption | omega) rfl | exact ld_fm0 cL_len Tryd.isAgg23 (by first | assumption | omega) rfl | exact ld_row (k := 0) cL_len rfl rfl rfl Tryd.isAgg23 (by first | assumption | omega) rfl | exact ld_row0 (k := 0) cL_len rfl rfl rfl Tryd.isAgg23 (by first | assumption | omega) rfl | exact ld_i Tryd.isAgg23 rfl | exact ld_tab (List.mem_cons_self) Tryd.isAgg23 (fitsC_off (by omega) (by omega) (by omega) (by omega)) | exact ld_tab (List.mem_cons_of_mem _ List.mem_cons_self) Tryd.isAgg23 (joinsC_off (by omega) (by omega) (by omega) (by omega)))) ?_
        refine OD.still (wants_plain rfl) rfl (still_r1 (mk := fun y => .call { callee := .builtin .len, args := #[y], argTypes := #[23] }) rfl ot (by first | exact len_list rfl Tryd.runUnderlying23 | exact len_row rfl Tryd.runUnderlying23)) ?_
        refine OD.still (wants_plain rfl) rfl (still_mv rfl opd_const) ?_
        refine OD.wk (Wk.as_ (n := 104) (l' := [(1, _), (46, _), (47, _), (48, _)]) (S' := [⟨b1, 25, 2, [_, _]⟩]) rfl rfl ⟨lk, lk, lk, lk, trivial⟩) ?_
        refine OD.nil ?_
        refine CD.block ?_
        refine CD.wk (Wk.asS (n := 104) (l' := [(1, .v (.pointer (some ⟨b1, 0, none⟩))), (46, .list 3 (queue.flatMap cL) queue.length), (47, .v (.int .i64 queue.length)), (48, .v (.int .i64 ((0) : Nat)))]) (S' := [⟨b1, 25, 2, [.list 3 (held.flatMap cL) held.length, .list 3 (queue.flatMap cL) queue.length]⟩]) rfl (by repeat (first | exact List.Sublist.refl _ | apply List.Sublist.cons)) ⟨(by (repeat (first | exact look_hit | (apply look_at; focus (first | rfl | (simp; done) | (congr 2; omega))) | (apply look_miss; focus rfl))); done), (by (repeat (first | exact look_hit | (apply look_at; focus (first | rfl | (simp; done) | (congr 2; omega))) | (apply look_miss; focus rfl))); done), (by (repeat (first | exact look_hit | (apply look_at; focus (first | rfl | (simp; done) | (congr 2; omega))) | (apply look_miss; focus rfl))); done), (by (repeat (first | exact look_hit | (apply look_at; focus (first | rfl | (simp; done) | (congr 2; omega))) | (apply look_miss; focus rfl))); done), trivial⟩) (CD.loop (fun (k : Nat) y__ => (k ≤ queue.length) ∧ y__ = (⟨104, [(1, .v (.pointer (some ⟨b1, 0, none⟩))), (46, .list 3 (queue.flatMap cL) queue.length), (47, .v (.int .i64 queue.length)), (48, .v (.int .i64 (k : Nat)))], [⟨b1, 25, 2, [.list 3 (held.flatMap cL) held.length, .list 3 (queue.flatMap cL) queue.length]⟩]⟩ : St)) (fun (k : Nat) => queue.length - k) 0 ⟨Nat.zero_le _, rfl⟩ ?_)
        rintro k _ ⟨hk, rfl⟩
        refine CD.seq ?_
        refine CD.region ?_
        refine OD.still (wants_plain rfl) rfl (still_bin rfl ot ot bin_lss) ?_
        refine OD.wk (Wk.as_ (n := 104) (l' := [(1, _), (46, _), (47, _), (48, _), (49, _)]) (S' := [⟨b1, 25, 2, [_, _]⟩]) rfl rfl ⟨lk, lk, lk, lk, lk, trivial⟩) ?_
        refine OD.nil ?_
        refine CD.seq ?_
        refine CD.cond ot (fun hc4 => ?_) (fun hc4 => ?_)
        · have hc4' := hc4
          (try simp only [decide_eq_true_eq, decide_eq_false_iff_not, beq_iff_eq, bne_iff_ne, Bool.not_eq_true', Bool.not_eq_false', Bool.not_eq_true, Bool.not_eq_false, beq_eq_false_iff_ne, ne_eq, bne_eq_false_iff_eq, Bool.and_eq_true, Bool.or_eq_true, Bool.not_not, Bool.and_eq_false_iff, Bool.or_eq_false_iff, Int.not_lt, Int.not_le] at hc4')
          have hkl : k < queue.length := by omega
          obtain ⟨q1, q2, q3, q4, q5⟩ := g.atQ hkl
          have q2b := modeB_bd q2
          refine CD.skip ?_
          refine CD.seq ?_
          refine CD.block ?_
          refine CD.seq ?_
          refine CD.region ?_
          refine OD.still (wants_plain rfl) rfl (still_mv rfl ot) ?_
          refine OD.still (wants_plain rfl) rfl (still_r2 (mk := Op.indexAddr 23) rfl ot ot (by first | exact ix_list Tryd.runUnderlying23 Tryd.sizeOf27 rfl (by first | assumption | omega) | exact ix_list (j := Int.toNat _) Tryd.runUnderlying23 Tryd.sizeOf27 (Int.toNat_of_nonneg (by omega)).symm (by omega) | exact ix_row Tryd.runUnderlying23 Tryd.sizeOf27 rfl (by first | assumption | omega) | exact ix_row (j := Int.toNat _) Tryd.runUnderlying23 Tryd.sizeOf27 (Int.toNat_of_nonneg (by omega)).symm (by omega))) ?_
          refine OD.still (wants_plain rfl) rfl (still_r1 (mk := Op.load 27) rfl ot (by first | exact ld_blks (k := 0) (ds := [_, _, _]) rfl rfl Tryd.isAgg27 Tryd.sizeOf27 rfl rfl | exact ld_fms cL_len Tryd.isAgg27 Tryd.sizeOf27 (by first | assumption | omega) | exact ld_rows (k := 0) cL_len rfl rfl rfl Tryd.isAgg27 Tryd.sizeOf27 (by first | assumption | omega) | exact ld_is (ds := [_, _, _]) Tryd.isAgg27 Tryd.sizeOf27 rfl rfl)) ?_
          refine OD.alloc (ds := [_, _, _]) (wants_plain rfl) rfl rfl Tryd.zeroValue27 rfl (fun b6 => ?_)
          refine OD.still (wants_plain rfl) rfl (still_as rfl ot) ?_
          refine OD.store (k := 0) (cs' := [_, _, _]) (wants_plain rfl) rfl rfl ot rfl rfl ot rfl rfl Tryd.sizeOf27 rfl rfl rfl ?_
          refine OD.wk (Wk.as_ (n := 104) (l' := [(1, _), (5, _), (6, _), (46, _), (47, _), (48, _)]) (S' := [⟨b6, 27, 3, [_, _, _]⟩, ⟨b1, 25, 2, [_, _]⟩]) rfl rfl ⟨lk, lk, lk, lk, lk, lk, trivial⟩) ?_
          refine OD.nil ?_
          refine CD.seq ?_
          refine CD.seq ?_
          refine CD.region ?_
          refine OD.still (wants_plain rfl) rfl (still_r1 (mk := Op.load 27) rfl ot (by first | exact ld_blks (k := 0) (ds := [_, _, _]) rfl rfl Tryd.isAgg27 Tryd.sizeOf27 rfl rfl | exact ld_fms cL_len Tryd.isAgg27 Tryd.sizeOf27 (by first | assumption | omega) | exact ld_rows (k := 0) cL_len rfl rfl rfl Tryd.isAgg27 Tryd.sizeOf27 (by first | assumption | omega) | exact ld_rows (k := 1) cL_len rfl rfl rfl Tryd.isAgg27 Tryd.sizeOf27 (by first | assumption | omega) | exact ld_is (ds := [_, _, _]) Tryd.isAgg27 Tryd.sizeOf27 rfl rfl)) ?_
          refine OD.callP (wants_plain rfl) rfl rfl rfl Tryd.call25 (shape_vp _ queue[k]) ⟨ot, trivial⟩ ?_
          refine OD.still (wants_plain rfl) rfl (still_bin rfl ot opd_const bin_neq) ?_
          refine OD.still (wants_plain rfl) rfl (still_mv rfl ot) ?_
          refine OD.split (t := 56) lk (fun hg56 => ?_) (fun hg56 => ?_)
          · exact absurd hg56 (by simp_all)
          · have hg56' := hg56; (try simp only [decide_eq_true_eq, decide_eq_false_iff_not, beq_iff_eq, bne_iff_ne, Bool.not_eq_true', Bool.not_eq_false', Bool.not_eq_true, Bool.not_eq_false, beq_eq_false_iff_ne, ne_eq, bne_eq_false_iff_eq, Bool.and_eq_true, Bool.or_eq_true, Bool.not_not] at hg56')
            refine OD.still (wants_T rfl rfl rfl lk (by first | rfl | assumption)) rfl (still_r1 (mk := fun y => Op.fieldAddr 25 y 1) rfl ot (by first | exact fa_ptr (off := 1) Tryd.runUnderlying25 rfl Tryd.sizeOf23 rfl | exact fa_iptr (off := 1) Tryd.runUnderlying25 rfl Tryd.sizeOf23 rfl)) ?_
            refine OD.still (wants_T rfl rfl rfl lk (by first | rfl | assumption)) rfl (still_r1 (mk := Op.load 23) rfl ot (by first | exact ld_blk (k := 1) rfl rfl Tryd.isAgg23 rfl | exact ld_fm cL_len Tryd.isAgg23 (by first | assumption | omega) rfl | exact ld_fm0 cL_len Tryd.isAgg23 (by first | assumption | omega) rfl | exact ld_row (k := 0) cL_len rfl rfl rfl Tryd.isAgg23 (by first | assumption | omega) rfl | exact ld_row0 (k := 0) cL_len rfl rfl rfl Tryd.isAgg23 (by first | assumption | omega) rfl | exact ld_row (k := 1) cL_len rfl rfl rfl Tryd.isAgg23 (by first | assumption | omega) rfl | exact ld_row0 (k := 1) cL_len rfl rfl rfl Tryd.isAgg23 (by first | assumption | omega) rfl | exact ld_i Tryd.isAgg23 rfl | exact ld_tab (List.mem_cons_self) Tryd.isAgg23 (fitsC_off (by omega) (by omega) (by omega) (by omega)) | exact ld_tab (List.mem_cons_of_mem _ List.mem_cons_self) Tryd.isAgg23 (joinsC_off (by omega) (by omega) (by omega) (by omega)))) ?_
            refine OD.still (wants_T rfl rfl rfl lk (by first | rfl | assumption)) rfl (still_mv rfl ot) ?_
            refine OD.still (wants_T rfl rfl rfl lk (by first | rfl | assumption)) rfl (still_rs (l := 0) rfl ot trivial ⟨_, ot⟩ (by first | exact sl_head cL_len (fun h => by cases h) Tryd.runUnderlying23 Tryd.sizeOf27 (by omega) | exact sl_row (fun h => by cases h) Tryd.runUnderlying23 Tryd.sizeOf27 (by omega) | exact sl_list (fun _ => rfl) (fun h => by cases h) Tryd.runUnderlying23 Tryd.sizeOf27 (by omega) (by omega))) ?_
            refine OD.still (wants_T rfl rfl rfl lk (by first | rfl | assumption)) rfl (still_fn (ds := [_]) rfl ⟨ot, trivial⟩) ?_
            refine OD.call (wants_T rfl rfl rfl lk (by first | rfl | assumption)) rfl rfl rfl Tryd.call26 (contains_vc _ (queue.take k) 37 [.v (.pointer (some ⟨b6, 0, none⟩))] _ (fun x => x.t == (queue[k]).t) Tryd.call37 (fun y _ => check2_vc _ _ y b6) (by rw [List.length_take]; omega)) ⟨ot, ot, trivial⟩ (perm_one (k := 0) rfl) ?_; rintro _ S2 ⟨rfl, hS2⟩; rw [hS2]; clear hS2
            refine OD.still (wants_plain rfl) rfl (still_pickF rfl ot (by first | rfl | assumption) ot) ?_
            refine OD.wk (Wk.as_ (n := 104) (l' := [(1, _), (5, _), (6, _), (46, _), (47, _), (48, _), (63, _)]) (S' := [⟨b6, 27, 3, [_, _, _]⟩, ⟨b1, 25, 2, [_, _]⟩]) rfl rfl ⟨lk, lk, lk, lk, lk, lk, lk, trivial⟩) ?_
            refine OD.nil ?_
            refine CD.cond ot (fun hc5 => ?_) (fun hc5 => ?_)
            · exact absurd hc5 (by simp_all)
            · have hc5' := hc5
              (try simp only [decide_eq_true_eq, decide_eq_false_iff_not, beq_iff_eq, bne_iff_ne, Bool.not_eq_true', Bool.not_eq_false', Bool.not_eq_true, Bool.not_eq_false, beq_eq_false_iff_ne, ne_eq, bne_eq_false_iff_eq, Bool.and_eq_true, Bool.or_eq_true, Bool.not_not, Bool.and_eq_false_iff, Bool.or_eq_false_iff, Int.not_lt, Int.not_le] at hc5')
              refine CD.skip ?_
              refine CD.seq ?_
              refine CD.seq ?_
              refine CD.region ?_
              refine OD.still (wants_plain rfl) rfl (still_r1 (mk := fun y => Op.fieldAddr 25 y 0) rfl ot (by first | exact fa_ptr (off := 0) Tryd.runUnderlying25 rfl Tryd.sizeOf23 rfl | exact fa_iptr (off := 0) Tryd.runUnderlying25 rfl Tryd.sizeOf23 rfl)) ?_
              refine OD.still (wants_plain rfl) rfl (still_r1 (mk := Op.load 23) rfl ot (by first | exact ld_blk (k := 1) rfl rfl Tryd.isAgg23 rfl | exact ld_fm cL_len Tryd.isAgg23 (by first | assumption | omega) rfl | exact ld_fm0 cL_len Tryd.isAgg23 (by first | assumption | omega) rfl | exact ld_row (k := 0) cL_len rfl rfl rfl Tryd.isAgg23 (by first | assumption | omega) rfl | exact ld_row0 (k := 0) cL_len rfl rfl rfl Tryd.isAgg23 (by first | assumption | omega) rfl | exact ld_row (k := 1) cL_len rfl rfl rfl Tryd.isAgg23 (by first | assumption | omega) rfl | exact ld_row0 (k := 1) cL_len rfl rfl rfl Tryd.isAgg23 (by first | assumption | omega) rfl | exact ld_i Tryd.isAgg23 rfl | exact ld_tab (List.mem_cons_self) Tryd.isAgg23 (fitsC_off (by omega) (by omega) (by omega) (by omega)) | exact ld_tab (List.mem_cons_of_mem _ List.mem_cons_self) Tryd.isAgg23 (joinsC_off (by omega) (by omega) (by omega) (by omega)))) ?_
              refine OD.still (wants_plain rfl) rfl (still_r1 (mk := fun y => Op.fieldAddr 27 y 0) rfl ot (by first | exact fa_ptr (off := 0) Tryd.runUnderlying27 rfl Tryd.sizeOf3 rfl | exact fa_iptr (off := 0) Tryd.runUnderlying27 rfl Tryd.sizeOf3 rfl)) ?_
              refine OD.still (wants_plain rfl) rfl (still_r1 (mk := Op.load 3) rfl ot (by first | exact ld_blk (k := 0) rfl rfl Tryd.isAgg3 rfl | exact ld_fm cL_len Tryd.isAgg3 (by first | assumption | omega) rfl | exact ld_fm0 cL_len Tryd.isAgg3 (by first | assumption | omega) rfl | exact ld_row (k := 0) cL_len rfl rfl rfl Tryd.isAgg3 (by first | assumption | omega) rfl | exact ld_row0 (k := 0) cL_len rfl rfl rfl Tryd.isAgg3 (by first | assumption | omega) rfl | exact ld_row (k := 1) cL_len rfl rfl rfl Tryd.isAgg3 (by first | assumption | omega) rfl | exact ld_row0 (k := 1) cL_len rfl rfl rfl Tryd.isAgg3 (by first | assumption | omega) rfl | exact ld_i Tryd.isAgg3 rfl | exact ld_tab (List.mem_cons_self) Tryd.isAgg3 (fitsC_off (by omega) (by omega) (by omega) (by omega)) | exact ld_tab (List.mem_cons_of_mem _ List.mem_cons_self) Tryd.isAgg3 (joinsC_off (by omega) (by omega) (by omega) (by omega)))) ?_
              refine OD.still (wants_plain rfl) rfl (still_r1 (mk := fun y => Op.fieldAddr 27 y 1) rfl ot (by first | exact fa_ptr (off := 1) Tryd.runUnderlying27 rfl Tryd.sizeOf9 rfl | exact fa_iptr (off := 1) Tryd.runUnderlying27 rfl Tryd.sizeOf9 rfl)) ?_
              refine OD.still (wants_plain rfl) rfl (still_r1 (mk := Op.load 9) rfl ot (by first | exact ld_blk (k := 0) rfl rfl Tryd.isAgg9 rfl | exact ld_fm cL_len Tryd.isAgg9 (by first | assumption | omega) rfl | exact ld_fm0 cL_len Tryd.isAgg9 (by first | assumption | omega) rfl | exact ld_row (k := 0) cL_len rfl rfl rfl Tryd.isAgg9 (by first | assumption | omega) rfl | exact ld_row0 (k := 0) cL_len rfl rfl rfl Tryd.isAgg9 (by first | assumption | omega) rfl | exact ld_row (k := 1) cL_len rfl rfl rfl Tryd.isAgg9 (by first | assumption | omega) rfl | exact ld_row0 (k := 1) cL_len rfl rfl rfl Tryd.isAgg9 (by first | assumption | omega) rfl | exact ld_i Tryd.isAgg9 rfl | exact ld_tab (List.mem_cons_self) Tryd.isAgg9 (fitsC_off (by omega) (by omega) (by omega) (by omega)) | exact ld_tab (List.mem_cons_of_mem _ List.mem_cons_self) Tryd.isAgg9 (joinsC_off (by omega) (by omega) (by omega) (by omega)))) ?_
              rcases Int.lt_or_le (findI held queue[k].t queue[k].th) 0 with hfi | hfi
              · skip
                refine OD.callP (wants_plain rfl) rfl rfl rfl Tryd.call29 (find_vp _ held _ _ (by omega)) ⟨ot, ot, ot, trivial⟩ ?_
                refine OD.still (wants_plain rfl) rfl (still_as rfl ot) ?_
                refine OD.wk (Wk.as_ (n := 104) (l' := [(1, _), (5, _), (6, _), (7, _), (46, _), (47, _), (48, _)]) (S' := [⟨b6, 27, 3, [_, _, _]⟩, ⟨b1, 25, 2, [_, _]⟩]) rfl rfl ⟨lk, lk, lk, lk, lk, lk, lk, trivial⟩) ?_
                refine OD.nil ?_
                refine CD.seq ?_
                refine CD.draw (bks _) (by kernel_rfl) (fun _ h => h) ?_
                refine AD0.take (i := 0) rfl (by kernel_rfl) (by kernel_rfl) (by kernel_rfl) (by repeat (first | exact NP.body | apply NP.then | apply NP.cut | apply NP.inBlock | apply NP.round)) (wants_plain rfl) rfl (still_mv rfl ot) (by exact trivial) ?_
                refine AD0.take (i := 1) rfl (by kernel_rfl) (by kernel_rfl) (by kernel_rfl) (by repeat (first | exact NP.body | apply NP.then | apply NP.cut | apply NP.inBlock | apply NP.round)) (wants_plain rfl) rfl (still_bin rfl ot opd_const bin_geq) (by exact trivial) ?_
                refine AD0.take (i := 2) rfl (by kernel_rfl) (by kernel_rfl) (by kernel_rfl) (by repeat (first | exact NP.body | apply NP.then | apply NP.cut | apply NP.inBlock | apply NP.round)) (wants_plain rfl) rfl (still_mv rfl ot) (by exact trivial) ?_
                refine AD0.split (t := 73) lk (fun hg73 => ?_) (fun hg73 => ?_)
                · exact absurd hg73 (by first | (simp_all; done) | (simp_all; omega))
                · have hg73' := hg73; (try simp only [decide_eq_true_eq, decide_eq_false_iff_not, beq_iff_eq, bne_iff_ne, Bool.not_eq_true', Bool.not_eq_false', Bool.not_eq_true, Bool.not_eq_false, beq_eq_false_iff_ne, ne_eq, bne_eq_false_iff_eq, Bool.and_eq_true, Bool.or_eq_true, Bool.not_not, Bool.and_eq_false_iff, Bool.or_eq_false_iff, Int.not_lt, Int.not_le] at hg73')
                  refine AD0.takeSkip (i := 3) rfl (by kernel_rfl) (by kernel_rfl) (by kernel_rfl) (by repeat (first | exact NP.body | apply NP.then | apply NP.cut | apply NP.inBlock | apply NP.round)) (wants_F rfl rfl rfl lk (by first | rfl | assumption)) rfl ?_
                  refine AD0.takeSkip (i := 4) rfl (by kernel_rfl) (by kernel_rfl) (by kernel_rfl) (by repeat (first | exact NP.body | apply NP.then | apply NP.cut | apply NP.inBlock | apply NP.round)) (wants_F rfl rfl rfl lk (by first | rfl | assumption)) rfl ?_
                  refine AD0.takeSkip (i := 5) rfl (by kernel_rfl) (by kernel_rfl) (by kernel_rfl) (by repeat (first | exact NP.body | apply NP.then | apply NP.cut | apply NP.inBlock | apply NP.round)) (wants_F rfl rfl rfl lk (by first | rfl | assumption)) rfl ?_
                  refine AD0.takeSkip (i := 6) rfl (by kernel_rfl) (by kernel_rfl) (by kernel_rfl) (by repeat (first | exact NP.body | apply NP.then | apply NP.cut | apply NP.inBlock | apply NP.round)) (wants_F rfl rfl rfl lk (by first | rfl | assumption)) rfl ?_
                  refine AD0.takeSkip (i := 7) rfl (by kernel_rfl) (by kernel_rfl) (by kernel_rfl) (by repeat (first | exact NP.body | apply NP.then | apply NP.cut | apply NP.inBlock | apply NP.round)) (wants_F rfl rfl rfl lk (by first | rfl | assumption)) rfl ?_
                  refine AD0.takeSkip (i := 8) rfl (by kernel_rfl) (by kernel_rfl) (by kernel_rfl) (by repeat (first | exact NP.body | apply NP.then | apply NP.cut | apply NP.inBlock | apply NP.round)) (wants_F rfl rfl rfl lk (by first | rfl | assumption)) rfl ?_
                  refine AD0.takeSkip (i := 9) rfl (by kernel_rfl) (by kernel_rfl) (by kernel_rfl) (by repeat (first | exact NP.body | apply NP.then | apply NP.cut | apply NP.inBlock | apply NP.round)) (wants_F rfl rfl rfl lk (by first | rfl | assumption)) rfl ?_
                  refine AD0.takeSkip (i := 10) rfl (by kernel_rfl) (by kernel_rfl) (by kernel_rfl) (by repeat (first | exact NP.body | apply NP.then | apply NP.cut | apply NP.inBlock | apply NP.round)) (wants_F rfl rfl rfl lk (by first | rfl | assumption)) rfl ?_
                  refine AD0.takeSkip (i := 11) rfl (by kernel_rfl) (by kernel_rfl) (by kernel_rfl) (by repeat (first | exact NP.body | apply NP.then | apply NP.cut | apply NP.inBlock | apply NP.round)) (wants_F rfl rfl rfl lk (by first | rfl | assumption)) rfl ?_
                  refine AD0.takeSkip (i := 12) rfl (by kernel_rfl) (by kernel_rfl) (by kernel_rfl) (by repeat (first | exact NP.body | apply NP.then | apply NP.cut | apply NP.inBlock | apply NP.round)) (wants_F rfl rfl rfl lk (by first | rfl | assumption)) rfl ?_
                  refine AD0.takeSkip (i := 13) rfl (by kernel_rfl) (by kernel_rfl) (by kernel_rfl) (by repeat (first | exact NP.body | apply NP.then | apply NP.cut | apply NP.inBlock | apply NP.round)) (wants_F rfl rfl rfl lk (by first | rfl | assumption)) rfl ?_
                  refine AD0.takeSkip (i := 14) rfl (by kernel_rfl) (by kernel_rfl) (by kernel_rfl) (by repeat (first | exact NP.body | apply NP.then | apply NP.cut | apply NP.inBlock | apply NP.round)) (wants_F rfl rfl rfl lk (by first | rfl | assumption)) rfl ?_
                  refine AD0.takeSkip (i := 15) rfl (by kernel_rfl) (by kernel_rfl) (by kernel_rfl) (by repeat (first | exact NP.body | apply NP.then | apply NP.cut | apply NP.inBlock | apply NP.round)) (wants_F rfl rfl rfl lk (by first | rfl | assumption)) rfl ?_
                  refine AD0.takeSkip (i := 16) rfl (by kernel_rfl) (by kernel_rfl) (by kernel_rfl) (by repeat (first | exact NP.body | apply NP.then | apply NP.cut | apply NP.inBlock | apply NP.round)) (wants_F rfl rfl rfl lk (by first | rfl | assumption)) rfl ?_
                  refine AD0.takeSkip (i := 17) rfl (by kernel_rfl) (by kernel_rfl) (by kernel_rfl) (by repeat (first | exact NP.body | apply NP.then | apply NP.cut | apply NP.inBlock | apply NP.round)) (wants_F rfl rfl rfl lk (by first | rfl | assumption)) rfl ?_
                  refine AD0.takeSkip (i := 18) rfl (by kernel_rfl) (by kernel_rfl) (by kernel_rfl) (by repeat (first | exact NP.body | apply NP.then | apply NP.cut | apply NP.inBlock | apply NP.round)) (wants_J (b := false) rfl rfl rfl lk) rfl ?_
                  refine AD0.takeSkip (i := 19) rfl (by kernel_rfl) (by kernel_rfl) (by kernel_rfl) (by repeat (first | exact NP.body | apply NP.then | apply NP.cut | apply NP.inBlock | apply NP.round)) (wants_J (b := false) rfl rfl rfl lk) rfl ?_
                  refine AD0.takeSkip (i := 20) rfl (by kernel_rfl) (by kernel_rfl) (by kernel_rfl) (by repeat (first | exact NP.body | apply NP.then | apply NP.cut | apply NP.inBlock | apply NP.round)) (wants_J (b := false) rfl rfl rfl lk) rfl ?_
                  refine AD0.takeSkip (i := 21) rfl (by kernel_rfl) (by kernel_rfl) (by kernel_rfl) (by repeat (first | exact NP.body | apply NP.then | apply NP.cut | apply NP.inBlock | apply NP.round)) (wants_J (b := false) rfl rfl rfl lk) rfl ?_
                  refine AD0.takeSkip (i := 22) rfl (by kernel_rfl) (by kernel_rfl) (by kernel_rfl) (by repeat (first | exact NP.body | apply NP.then | apply NP.cut | apply NP.inBlock | apply NP.round)) (wants_J (b := false) rfl rfl rfl lk) rfl ?_
                  refine AD0.takeSkip (i := 23) rfl (by kernel_rfl) (by kernel_rfl) (by kernel_rfl) (by repeat (first | exact NP.body | apply NP.then | apply NP.cut | apply NP.inBlock | apply NP.round)) (wants_J (b := false) rfl rfl rfl lk) rfl ?_
                  refine AD0.takeSkip (i := 24) rfl (by kernel_rfl) (by kernel_rfl) (by kernel_rfl) (by repeat (first | exact NP.body | apply NP.then | apply NP.cut | apply NP.inBlock | apply NP.round)) (wants_J (b := false) rfl rfl rfl lk) rfl ?_
                  refine AD0.takeSkip (i := 25) rfl (by kernel_rfl) (by kernel_rfl) (by kernel_rfl) (by repeat (first | exact NP.body | apply NP.then | apply NP.cut | apply NP.inBlock | apply NP.round)) (wants_J (b := false) rfl rfl rfl lk) rfl ?_
                  refine AD0.takeSkip (i := 26) rfl (by kernel_rfl) (by kernel_rfl) (by kernel_rfl) (by repeat (first | exact NP.body | apply NP.then | apply NP.cut | apply NP.inBlock | apply NP.round)) (wants_J (b := false) rfl rfl rfl lk) rfl ?_
                  refine AD0.takeSkip (i := 27) rfl (by kernel_rfl) (by kernel_rfl) (by kernel_rfl) (by repeat (first | exact NP.body | apply NP.then | apply NP.cut | apply NP.inBlock | apply NP.round)) (wants_F rfl rfl rfl lk (by first | rfl | assumption)) rfl ?_
                  refine AD0.take (i := 28) rfl (by kernel_rfl) (by kernel_rfl) (by kernel_rfl) (by repeat (first | exact NP.body | apply NP.then | apply NP.cut | apply NP.inBlock | apply NP.round)) (wants_plain rfl) rfl (still_pickF rfl ot (by first | rfl | assumption) opd_const) (by exact trivial) ?_
                  refine AD0.later rfl ?_
                  refine AD.wk (y := ⟨104, [(1, _), (5, _), (46, _), (47, _), (48, _), (99, _)], [⟨b6, 27, 3, [_, _, _]⟩, ⟨b1, 25, 2, [_, _]⟩]⟩) (Wk.as_ rfl rfl ⟨lk, lk, lk, lk, lk, lk, trivial⟩) rfl ?_
                  refine AD.done (by kernel_rfl) ?_
                  refine CD.condF ot (by first | rfl | assumption) ?_
                  refine CD.skip ?_
                  refine CD.seq ?_
                  refine CD.region ?_
                  refine OD.still (wants_plain rfl) rfl (still_r1 (mk := Op.load 25) rfl ot (by first | exact ld_blks (k := 1) (ds := [_, _]) rfl rfl Tryd.isAgg25 Tryd.sizeOf25 rfl rfl | exact ld_fms cL_len Tryd.isAgg25 Tryd.sizeOf25 (by first | assumption | omega) | exact ld_rows (k := 0) cL_len rfl rfl rfl Tryd.isAgg25 Tryd.sizeOf25 (by first | assumption | omega) | exact ld_rows (k := 1) cL_len rfl rfl rfl Tryd.isAgg25 Tryd.sizeOf25 (by first | assumption | omega) | exact ld_is (ds := [_, _]) Tryd.isAgg25 Tryd.sizeOf25 rfl rfl)) ?_
                  refine OD.still (wants_plain rfl) rfl (still_mv rfl ot) ?_
                  refine OD.callP (wants_plain rfl) rfl rfl rfl Tryd.call30 (first_vp held queue k hkl (by omega) g.mode q2) ⟨ot, ot, trivial⟩ ?_
                  refine OD.wk (Wk.as_ (n := 104) (l' := [(1, _), (46, _), (47, _), (48, _), (102, _)]) (S' := [⟨b6, 27, 3, [_, _, _]⟩, ⟨b1, 25, 2, [_, _]⟩]) rfl rfl ⟨lk, lk, lk, lk, lk, trivial⟩) ?_
                  refine OD.nil ?_
                  refine CD.cond ot (fun hc7 => ?_) (fun hc7 => ?_)
                  · exact absurd hc7 (by simp_all)
                  · have hc7' := hc7
                    (try simp only [decide_eq_true_eq, decide_eq_false_iff_not, beq_iff_eq, bne_iff_ne, Bool.not_eq_true', Bool.not_eq_false', Bool.not_eq_true, Bool.not_eq_false, beq_eq_false_iff_ne, ne_eq, bne_eq_false_iff_eq, Bool.and_eq_true, Bool.or_eq_true, Bool.not_not, Bool.and_eq_false_iff, Bool.or_eq_false_iff, Int.not_lt, Int.not_le] at hc7')
                    refine CD.skip ?_
                    refine CD.region ?_
                    refine OD.still (wants_plain rfl) rfl (still_bin rfl ot opd_const (bin_add (wrap_i64 (by omega) (by omega)))) ?_
                    refine OD.still (wants_plain rfl) rfl (still_mv rfl ot) ?_
                    refine OD.wk (Wk.as_ (n := 104) (l' := [(1, _), (46, _), (47, _), (48, _)]) (S' := [⟨b6, 27, 3, [_, _, _]⟩, ⟨b1, 25, 2, [_, _]⟩]) rfl rfl ⟨lk, lk, lk, lk, trivial⟩) ?_
                    refine OD.nil ?_
                    refine ⟨k + 1, ⟨104, [(1, .v (.pointer (some ⟨b1, 0, none⟩))), (46, .list 3 (queue.flatMap cL) queue.length), (47, .v (.int .i64 queue.length)), (48, .v (.int .i64 ((k + 1) : Nat)))], [⟨b1, 25, 2, [.list 3 (held.flatMap cL) held.length, .list 3 (queue.flatMap cL) queue.length]⟩]⟩, ?_, Wk.asS (n := 104) rfl (by repeat (first | exact List.Sublist.refl _ | apply List.Sublist.cons)) ⟨(by (repeat (first | exact look_hit | (apply look_at; focus (first | rfl | (simp; done) | (congr 2; omega))) | (apply look_miss; focus rfl))); done), (by (repeat (first | exact look_hit | (apply look_at; focus (first | rfl | (simp; done) | (congr 2; omega))) | (apply look_miss; focus rfl))); done), (by (repeat (first | exact look_hit | (apply look_at; focus (first | rfl | (simp; done) | (congr 2; omega))) | (apply look_miss; focus rfl))); done), (by (repeat (first | exact look_hit | (apply look_at; focus (first | rfl | (simp; done) | (congr 2; omega))) | (apply look_miss; focus rfl))); done), trivial⟩, (by omega), rfl⟩
                    first | omega | (simp only []; omega)
              · skip
                obtain ⟨j, hj, hj1, hj2, hj3⟩ := idxI_nn hfi
                have hw := q4; unfold wrongQ ownM at hw; rw [find_idx hj hj2] at hw; simp only [Option.map_some, Bool.or_eq_false_iff] at hw; obtain ⟨hw1, hw2⟩ := hw
                have hjm := modeB_bd (g.mode _ (List.getElem_mem hj))
                refine OD.callP (wants_plain rfl) rfl rfl rfl Tryd.call29 (find_vp _ held _ _ (by omega)) ⟨ot, ot, ot, trivial⟩ ?_
                rw [show findI held queue[k].t queue[k].th = (j : Nat) from hj1]
                refine OD.still (wants_plain rfl) rfl (still_as rfl ot) ?_
                refine OD.wk (Wk.as_ (n := 104) (l' := [(1, _), (5, _), (6, _), (7, _), (46, _), (47, _), (48, _)]) (S' := [⟨b6, 27, 3, [_, _, _]⟩, ⟨b1, 25, 2, [_, _]⟩]) rfl rfl ⟨lk, lk, lk, lk, lk, lk, lk, trivial⟩) ?_
                refine OD.nil ?_
                refine CD.seq ?_
                refine CD.draw (bks _) (by kernel_rfl) (fun _ h => h) ?_
                refine AD0.take (i := 0) rfl (by kernel_rfl) (by kernel_rfl) (by kernel_rfl) (by repeat (first | exact NP.body | apply NP.then | apply NP.cut | apply NP.inBlock | apply NP.round)) (wants_plain rfl) rfl (still_mv rfl ot) (by exact trivial) ?_
                refine AD0.take (i := 1) rfl (by kernel_rfl) (by kernel_rfl) (by kernel_rfl) (by repeat (first | exact NP.body | apply NP.then | apply NP.cut | apply NP.inBlock | apply NP.round)) (wants_plain rfl) rfl (still_bin rfl ot opd_const bin_geq) (by exact trivial) ?_
                refine AD0.take (i := 2) rfl (by kernel_rfl) (by kernel_rfl) (by kernel_rfl) (by repeat (first | exact NP.body | apply NP.then | apply NP.cut | apply NP.inBlock | apply NP.round)) (wants_plain rfl) rfl (still_mv rfl ot) (by exact trivial) ?_
                refine AD0.split (t := 73) lk (fun hg73 => ?_) (fun hg73 => ?_)
                · have hg73' := hg73; (try simp only [decide_eq_true_eq, decide_eq_false_iff_not, beq_iff_eq, bne_iff_ne, Bool.not_eq_true', Bool.not_eq_false', Bool.not_eq_true, Bool.not_eq_false, beq_eq_false_iff_ne, ne_eq, bne_eq_false_iff_eq, Bool.and_eq_true, Bool.or_eq_true, Bool.not_not, Bool.and_eq_false_iff, Bool.or_eq_false_iff, Int.not_lt, Int.not_le] at hg73')
                  refine AD0.take (i := 3) rfl (by kernel_rfl) (by kernel_rfl) (by kernel_rfl) (by repeat (first | exact NP.body | apply NP.then | apply NP.cut | apply NP.inBlock | apply NP.round)) (wants_T rfl rfl rfl lk (by first | rfl | assumption)) rfl (still_r1 (mk := fun y => Op.fieldAddr 25 y 0) rfl ot (by first | exact fa_ptr (off := 0) Tryd.runUnderlying25 rfl Tryd.sizeOf23 rfl | exact fa_iptr (off := 0) Tryd.runUnderlying25 rfl Tryd.sizeOf23 rfl)) (by exact trivial) ?_
                  refine AD0.take (i := 4) rfl (by kernel_rfl) (by kernel_rfl) (by kernel_rfl) (by repeat (first | exact NP.body | apply NP.then | apply NP.cut | apply NP.inBlock | apply NP.round)) (wants_T rfl rfl rfl lk (by first | rfl | assumption)) rfl (still_r1 (mk := Op.load 23) rfl ot (by first | exact ld_blk (k := 1) rfl rfl Tryd.isAgg23 rfl | exact ld_fm cL_len Tryd.isAgg23 (by first | assumption | omega) rfl | exact ld_fm0 cL_len Tryd.isAgg23 (by first | assumption | omega) rfl | exact ld_row (k := 0) cL_len rfl rfl rfl Tryd.isAgg23 (by first | assumption | omega) rfl | exact ld_row0 (k := 0) cL_len rfl rfl rfl Tryd.isAgg23 (by first | assumption | omega) rfl | exact ld_row (k := 1) cL_len rfl rfl rfl Tryd.isAgg23 (by first | assumption | omega) rfl | exact ld_row0 (k := 1) cL_len rfl rfl rfl Tryd.isAgg23 (by first | assumption | omega) rfl | exact ld_i Tryd.isAgg23 rfl | exact ld_tab (List.mem_cons_self) Tryd.isAgg23 (fitsC_off (by omega) (by omega) (by omega) (by omega)) | exact ld_tab (List.mem_cons_of_mem _ List.mem_cons_self) Tryd.isAgg23 (joinsC_off (by omega) (by omega) (by omega) (by omega)))) (by first | exact trivial | exact safe_blk (k0 := 0) rfl rfl | exact safe_blk (k0 := 1) rfl rfl) ?_
                  refine AD0.take (i := 5) rfl (by kernel_rfl) (by kernel_rfl) (by kernel_rfl) (by repeat (first | exact NP.body | apply NP.then | apply NP.cut | apply NP.inBlock | apply NP.round)) (wants_T rfl rfl rfl lk (by first | rfl | assumption)) rfl (still_mv rfl ot) (by exact trivial) ?_
                  refine AD0.take (i := 6) rfl (by kernel_rfl) (by kernel_rfl) (by kernel_rfl) (by repeat (first | exact NP.body | apply NP.then | apply NP.cut | apply NP.inBlock | apply NP.round)) (wants_T rfl rfl rfl lk (by first | rfl | assumption)) rfl (still_r2 (mk := Op.indexAddr 23) rfl ot ot (by first | exact ix_list Tryd.runUnderlying23 Tryd.sizeOf27 rfl (by first | assumption | omega) | exact ix_list (j := Int.toNat _) Tryd.runUnderlying23 Tryd.sizeOf27 (Int.toNat_of_nonneg (by omega)).symm (by omega) | exact ix_row Tryd.runUnderlying23 Tryd.sizeOf27 rfl (by first | assumption | omega) | exact ix_row (j := Int.toNat _) Tryd.runUnderlying23 Tryd.sizeOf27 (Int.toNat_of_nonneg (by omega)).symm (by omega))) (by exact trivial) ?_
                  refine AD0.take (i := 7) rfl (by kernel_rfl) (by kernel_rfl) (by kernel_rfl) (by repeat (first | exact NP.body | apply NP.then | apply NP.cut | apply NP.inBlock | apply NP.round)) (wants_T rfl rfl rfl lk (by first | rfl | assumption)) rfl (still_r1 (mk := fun y => Op.fieldAddr 27 y 2) rfl ot (by first | exact fa_ptr (off := 2) Tryd.runUnderlying27 rfl Tryd.sizeOf3 rfl | exact fa_iptr (off := 2) Tryd.runUnderlying27 rfl Tryd.sizeOf3 rfl)) (by exact trivial) ?_
                  refine AD0.take (i := 8) rfl (by kernel_rfl) (by kernel_rfl) (by kernel_rfl) (by repeat (first | exact NP.body | apply NP.then | apply NP.cut | apply NP.inBlock | apply NP.round)) (wants_T rfl rfl rfl lk (by first | rfl | assumption)) rfl (still_r1 (mk := Op.load 3) rfl ot (by first | exact ld_blk (k := 0) rfl rfl Tryd.isAgg3 rfl | exact ld_blk (k := 1) rfl rfl Tryd.isAgg3 rfl | exact ld_fm cL_len Tryd.isAgg3 (by first | assumption | omega) rfl | exact ld_fm0 cL_len Tryd.isAgg3 (by first | assumption | omega) rfl | exact ld_row (k := 0) cL_len rfl rfl rfl Tryd.isAgg3 (by first | assumption | omega) rfl | exact ld_row0 (k := 0) cL_len rfl rfl rfl Tryd.isAgg3 (by first | assumption | omega) rfl | exact ld_row (k := 1) cL_len rfl rfl rfl Tryd.isAgg3 (by first | assumption | omega) rfl | exact ld_row0 (k := 1) cL_len rfl rfl rfl Tryd.isAgg3 (by first | assumption | omega) rfl | exact ld_i Tryd.isAgg3 rfl | exact ld_tab (List.mem_cons_self) Tryd.isAgg3 (fitsC_off (by omega) (by omega) (by omega) (by omega)) | exact ld_tab (List.mem_cons_of_mem _ List.mem_cons_self) Tryd.isAgg3 (joinsC_off (by omega) (by omega) (by omega) (by omega)))) (by first | exact trivial | exact safe_blk (k0 := 0) rfl rfl | exact safe_blk (k0 := 1) rfl rfl) ?_
                  refine AD0.take (i := 9) rfl (by kernel_rfl) (by kernel_rfl) (by kernel_rfl) (by repeat (first | exact NP.body | apply NP.then | apply NP.cut | apply NP.inBlock | apply NP.round)) (wants_T rfl rfl rfl lk (by first | rfl | assumption)) rfl (still_r1 (mk := fun y => Op.fieldAddr 27 y 2) rfl ot (by first | exact fa_ptr (off := 2) Tryd.runUnderlying27 rfl Tryd.sizeOf3 rfl | exact fa_iptr (off := 2) Tryd.runUnderlying27 rfl Tryd.sizeOf3 rfl)) (by exact trivial) ?_
                  refine AD0.take (i := 10) rfl (by kernel_rfl) (by kernel_rfl) (by kernel_rfl) (by repeat (first | exact NP.body | apply NP.then | apply NP.cut | apply NP.inBlock | apply NP.round)) (wants_T rfl rfl rfl lk (by first | rfl | assumption)) rfl (still_r1 (mk := Op.load 3) rfl ot (by first | exact ld_blk (k := 0) rfl rfl Tryd.isAgg3 rfl | exact ld_fm cL_len Tryd.isAgg3 (by first | assumption | omega) rfl | exact ld_fm0 cL_len Tryd.isAgg3 (by first | assumption | omega) rfl | exact ld_row (k := 0) cL_len rfl rfl rfl Tryd.isAgg3 (by first | assumption | omega) rfl | exact ld_row0 (k := 0) cL_len rfl rfl rfl Tryd.isAgg3 (by first | assumption | omega) rfl | exact ld_row (k := 1) cL_len rfl rfl rfl Tryd.isAgg3 (by first | assumption | omega) rfl | exact ld_row0 (k := 1) cL_len rfl rfl rfl Tryd.isAgg3 (by first | assumption | omega) rfl | exact ld_i Tryd.isAgg3 rfl | exact ld_tab (List.mem_cons_self) Tryd.isAgg3 (fitsC_off (by omega) (by omega) (by omega) (by omega)) | exact ld_tab (List.mem_cons_of_mem _ List.mem_cons_self) Tryd.isAgg3 (joinsC_off (by omega) (by omega) (by omega) (by omega)))) (by first | exact trivial | exact safe_blk (k0 := 0) rfl rfl | exact safe_blk (k0 := 1) rfl rfl) ?_
                  refine AD0.take (i := 11) rfl (by kernel_rfl) (by kernel_rfl) (by kernel_rfl) (by repeat (first | exact NP.body | apply NP.then | apply NP.cut | apply NP.inBlock | apply NP.round)) (wants_T rfl rfl rfl lk (by first | rfl | assumption)) rfl (still_r2 (mk := Op.indexAddr 60) rfl opd_glob ot (by first | exact ix_arr Tryd.runUnderlying60 Tryd.sizeOf59 rfl (by first | assumption | omega) | exact ix_arr (j := Int.toNat _) Tryd.runUnderlying60 Tryd.sizeOf59 (Int.toNat_of_nonneg (by omega)).symm (by omega))) (by exact trivial) ?_
                  refine AD0.take (i := 12) rfl (by kernel_rfl) (by kernel_rfl) (by kernel_rfl) (by repeat (first | exact NP.body | apply NP.then | apply NP.cut | apply NP.inBlock | apply NP.round)) (wants_T rfl rfl rfl lk (by first | rfl | assumption)) rfl (still_r2 (mk := Op.indexAddr 59) rfl ot ot (by first | exact ix_arr Tryd.runUnderlying59 Tryd.sizeOf3 rfl (by first | assumption | omega) | exact ix_arr (j := Int.toNat _) Tryd.runUnderlying59 Tryd.sizeOf3 (Int.toNat_of_nonneg (by omega)).symm (by omega))) (by exact trivial) ?_
                  refine AD0.take (i := 13) rfl (by kernel_rfl) (by kernel_rfl) (by kernel_rfl) (by repeat (first | exact NP.body | apply NP.then | apply NP.cut | apply NP.inBlock | apply NP.round)) (wants_T rfl rfl rfl lk (by first | rfl | assumption)) rfl (still_r1 (mk := Op.load 3) rfl ot (by first | exact ld_blk (k := 0) rfl rfl Tryd.isAgg3 rfl | exact ld_blk (k := 1) rfl rfl Tryd.isAgg3 rfl | exact ld_fm cL_len Tryd.isAgg3 (by first | assumption | omega) rfl | exact ld_fm0 cL_len Tryd.isAgg3 (by first | assumption | omega) rfl | exact ld_row (k := 0) cL_len rfl rfl rfl Tryd.isAgg3 (by first | assumption | omega) rfl | exact ld_row0 (k := 0) cL_len rfl rfl rfl Tryd.isAgg3 (by first | assumption | omega) rfl | exact ld_row (k := 1) cL_len rfl rfl rfl Tryd.isAgg3 (by first | assumption | omega) rfl | exact ld_row0 (k := 1) cL_len rfl rfl rfl Tryd.isAgg3 (by first | assumption | omega) rfl | exact ld_i Tryd.isAgg3 rfl | exact ld_tab (List.mem_cons_self) Tryd.isAgg3 (fitsC_off (by omega) (by omega) (by omega) (by omega)) | exact ld_tab (List.mem_cons_of_mem _ List.mem_cons_self) Tryd.isAgg3 (joinsC_off (by omega) (by omega) (by omega) (by omega)))) (by first | exact trivial | exact safe_blk (k0 := 0) rfl rfl | exact safe_blk (k0 := 1) rfl rfl) ?_
                  refine AD0.take (i := 14) rfl (by kernel_rfl) (by kernel_rfl) (by kernel_rfl) (by repeat (first | exact NP.body | apply NP.then | apply NP.cut | apply NP.inBlock | apply NP.round)) (wants_T rfl rfl rfl lk (by first | rfl | assumption)) rfl (still_r1 (mk := fun y => Op.fieldAddr 27 y 2) rfl ot (by first | exact fa_ptr (off := 2) Tryd.runUnderlying27 rfl Tryd.sizeOf3 rfl | exact fa_iptr (off := 2) Tryd.runUnderlying27 rfl Tryd.sizeOf3 rfl)) (by exact trivial) ?_
                  refine AD0.take (i := 15) rfl (by kernel_rfl) (by kernel_rfl) (by kernel_rfl) (by repeat (first | exact NP.body | apply NP.then | apply NP.cut | apply NP.inBlock | apply NP.round)) (wants_T rfl rfl rfl lk (by first | rfl | assumption)) rfl (still_r1 (mk := Op.load 3) rfl ot (by first | exact ld_blk (k := 0) rfl rfl Tryd.isAgg3 rfl | exact ld_fm cL_len Tryd.isAgg3 (by first | assumption | omega) rfl | exact ld_fm0 cL_len Tryd.isAgg3 (by first | assumption | omega) rfl | exact ld_row (k := 0) cL_len rfl rfl rfl Tryd.isAgg3 (by first | assumption | omega) rfl | exact ld_row0 (k := 0) cL_len rfl rfl rfl Tryd.isAgg3 (by first | assumption | omega) rfl | exact ld_row (k := 1) cL_len rfl rfl rfl Tryd.isAgg3 (by first | assumption | omega) rfl | exact ld_row0 (k := 1) cL_len rfl rfl rfl Tryd.isAgg3 (by first | assumption | omega) rfl | exact ld_i Tryd.isAgg3 rfl | exact ld_tab (List.mem_cons_self) Tryd.isAgg3 (fitsC_off (by omega) (by omega) (by omega) (by omega)) | exact ld_tab (List.mem_cons_of_mem _ List.mem_cons_self) Tryd.isAgg3 (joinsC_off (by omega) (by omega) (by omega) (by omega)))) (by first | exact trivial | exact safe_blk (k0 := 0) rfl rfl | exact safe_blk (k0 := 1) rfl rfl) ?_
                  refine AD0.take (i := 16) rfl (by kernel_rfl) (by kernel_rfl) (by kernel_rfl) (by repeat (first | exact NP.body | apply NP.then | apply NP.cut | apply NP.inBlock | apply NP.round)) (wants_T rfl rfl rfl lk (by first | rfl | assumption)) rfl (still_bin rfl ot ot bin_neq) (by exact trivial) ?_
                  refine AD0.take (i := 17) rfl (by kernel_rfl) (by kernel_rfl) (by kernel_rfl) (by repeat (first | exact NP.body | apply NP.then | apply NP.cut | apply NP.inBlock | apply NP.round)) (wants_T rfl rfl rfl lk (by first | rfl | assumption)) rfl (still_mv rfl ot) (by exact trivial) ?_
                  refine AD0.split (t := 88) lk (fun hg88 => ?_) (fun hg88 => ?_)
                  · exact absurd hg88 (by simp_all)
                  · have hg88' := hg88; (try simp only [decide_eq_true_eq, decide_eq_false_iff_not, beq_iff_eq, bne_iff_ne, Bool.not_eq_true', Bool.not_eq_false', Bool.not_eq_true, Bool.not_eq_false, beq_eq_false_iff_ne, ne_eq, bne_eq_false_iff_eq, Bool.and_eq_true, Bool.or_eq_true, Bool.not_not, Bool.and_eq_false_iff, Bool.or_eq_false_iff, Int.not_lt, Int.not_le] at hg88')
                    refine AD0.take (i := 18) rfl (by kernel_rfl) (by kernel_rfl) (by kernel_rfl) (by repeat (first | exact NP.body | apply NP.then | apply NP.cut | apply NP.inBlock | apply NP.round)) (wants_T rfl rfl rfl lk (by first | rfl | assumption)) rfl (still_r1 (mk := fun y => Op.fieldAddr 25 y 0) rfl ot (by first | exact fa_ptr (off := 0) Tryd.runUnderlying25 rfl Tryd.sizeOf23 rfl | exact fa_iptr (off := 0) Tryd.runUnderlying25 rfl Tryd.sizeOf23 rfl)) (by exact trivial) ?_
                    refine AD0.take (i := 19) rfl (by kernel_rfl) (by kernel_rfl) (by kernel_rfl) (by repeat (first | exact NP.body | apply NP.then | apply NP.cut | apply NP.inBlock | apply NP.round)) (wants_T rfl rfl rfl lk (by first | rfl | assumption)) rfl (still_r1 (mk := Op.load 23) rfl ot (by first | exact ld_blk (k := 1) rfl rfl Tryd.isAgg23 rfl | exact ld_fm cL_len Tryd.isAgg23 (by first | assumption | omega) rfl | exact ld_fm0 cL_len Tryd.isAgg23 (by first | assumption | omega) rfl | exact ld_row (k := 0) cL_len rfl rfl rfl Tryd.isAgg23 (by first | assumption | omega) rfl | exact ld_row0 (k := 0) cL_len rfl rfl rfl Tryd.isAgg23 (by first | assumption | omega) rfl | exact ld_row (k := 1) cL_len rfl rfl rfl Tryd.isAgg23 (by first | assumption | omega) rfl | exact ld_row0 (k := 1) cL_len rfl rfl rfl Tryd.isAgg23 (by first | assumption | omega) rfl | exact ld_i Tryd.isAgg23 rfl | exact ld_tab (List.mem_cons_self) Tryd.isAgg23 (fitsC_off (by omega) (by omega) (by omega) (by omega)) | exact ld_tab (List.mem_cons_of_mem _ List.mem_cons_self) Tryd.isAgg23 (joinsC_off (by omega) (by omega) (by omega) (by omega)))) (by first | exact trivial | exact safe_blk (k0 := 0) rfl rfl | exact safe_blk (k0 := 1) rfl rfl) ?_
                    refine AD0.take (i := 20) rfl (by kernel_rfl) (by kernel_rfl) (by kernel_rfl) (by repeat (first | exact NP.body | apply NP.then | apply NP.cut | apply NP.inBlock | apply NP.round)) (wants_T rfl rfl rfl lk (by first | rfl | assumption)) rfl (still_mv rfl ot) (by exact trivial) ?_
                    refine AD0.take (i := 21) rfl (by kernel_rfl) (by kernel_rfl) (by kernel_rfl) (by repeat (first | exact NP.body | apply NP.then | apply NP.cut | apply NP.inBlock | apply NP.round)) (wants_T rfl rfl rfl lk (by first | rfl | assumption)) rfl (still_r2 (mk := Op.indexAddr 23) rfl ot ot (by first | exact ix_list Tryd.runUnderlying23 Tryd.sizeOf27 rfl (by first | assumption | omega) | exact ix_list (j := Int.toNat _) Tryd.runUnderlying23 Tryd.sizeOf27 (Int.toNat_of_nonneg (by omega)).symm (by omega) | exact ix_row Tryd.runUnderlying23 Tryd.sizeOf27 rfl (by first | assumption | omega) | exact ix_row (j := Int.toNat _) Tryd.runUnderlying23 Tryd.sizeOf27 (Int.toNat_of_nonneg (by omega)).symm (by omega))) (by exact trivial) ?_
                    refine AD0.take (i := 22) rfl (by kernel_rfl) (by kernel_rfl) (by kernel_rfl) (by repeat (first | exact NP.body | apply NP.then | apply NP.cut | apply NP.inBlock | apply NP.round)) (wants_T rfl rfl rfl lk (by first | rfl | assumption)) rfl (still_r1 (mk := fun y => Op.fieldAddr 27 y 2) rfl ot (by first | exact fa_ptr (off := 2) Tryd.runUnderlying27 rfl Tryd.sizeOf3 rfl | exact fa_iptr (off := 2) Tryd.runUnderlying27 rfl Tryd.sizeOf3 rfl)) (by exact trivial) ?_
                    refine AD0.take (i := 23) rfl (by kernel_rfl) (by kernel_rfl) (by kernel_rfl) (by repeat (first | exact NP.body | apply NP.then | apply NP.cut | apply NP.inBlock | apply NP.round)) (wants_T rfl rfl rfl lk (by first | rfl | assumption)) rfl (still_r1 (mk := Op.load 3) rfl ot (by first | exact ld_blk (k := 0) rfl rfl Tryd.isAgg3 rfl | exact ld_blk (k := 1) rfl rfl Tryd.isAgg3 rfl | exact ld_fm cL_len Tryd.isAgg3 (by first | assumption | omega) rfl | exact ld_fm0 cL_len Tryd.isAgg3 (by first | assumption | omega) rfl | exact ld_row (k := 0) cL_len rfl rfl rfl Tryd.isAgg3 (by first | assumption | omega) rfl | exact ld_row0 (k := 0) cL_len rfl rfl rfl Tryd.isAgg3 (by first | assumption | omega) rfl | exact ld_row (k := 1) cL_len rfl rfl rfl Tryd.isAgg3 (by first | assumption | omega) rfl | exact ld_row0 (k := 1) cL_len rfl rfl rfl Tryd.isAgg3 (by first | assumption | omega) rfl | exact ld_i Tryd.isAgg3 rfl | exact ld_tab (List.mem_cons_self) Tryd.isAgg3 (fitsC_off (by omega) (by omega) (by omega) (by omega)) | exact ld_tab (List.mem_cons_of_mem _ List.mem_cons_self) Tryd.isAgg3 (joinsC_off (by omega) (by omega) (by omega) (by omega)))) (by first | exact trivial | exact safe_blk (k0 := 0) rfl rfl | exact safe_blk (k0 := 1) rfl rfl) ?_
                    refine AD0.take (i := 24) rfl (by kernel_rfl) (by kernel_rfl) (by kernel_rfl) (by repeat (first | exact NP.body | apply NP.then | apply NP.cut | apply NP.inBlock | apply NP.round)) (wants_T rfl rfl rfl lk (by first | rfl | assumption)) rfl (still_r1 (mk := fun y => Op.fieldAddr 27 y 2) rfl ot (by first | exact fa_ptr (off := 2) Tryd.runUnderlying27 rfl Tryd.sizeOf3 rfl | exact fa_iptr (off := 2) Tryd.runUnderlying27 rfl Tryd.sizeOf3 rfl)) (by exact trivial) ?_
                    refine AD0.take (i := 25) rfl (by kernel_rfl) (by kernel_rfl) (by kernel_rfl) (by repeat (first | exact NP.body | apply NP.then | apply NP.cut | apply NP.inBlock | apply NP.round)) (wants_T rfl rfl rfl lk (by first | rfl | assumption)) rfl (still_r1 (mk := Op.load 3) rfl ot (by first | exact ld_blk (k := 0) rfl rfl Tryd.isAgg3 rfl | exact ld_fm cL_len Tryd.isAgg3 (by first | assumption | omega) rfl | exact ld_fm0 cL_len Tryd.isAgg3 (by first | assumption | omega) rfl | exact ld_row (k := 0) cL_len rfl rfl rfl Tryd.isAgg3 (by first | assumption | omega) rfl | exact ld_row0 (k := 0) cL_len rfl rfl rfl Tryd.isAgg3 (by first | assumption | omega) rfl | exact ld_row (k := 1) cL_len rfl rfl rfl Tryd.isAgg3 (by first | assumption | omega) rfl | exact ld_row0 (k := 1) cL_len rfl rfl rfl Tryd.isAgg3 (by first | assumption | omega) rfl | exact ld_i Tryd.isAgg3 rfl | exact ld_tab (List.mem_cons_self) Tryd.isAgg3 (fitsC_off (by omega) (by omega) (by omega) (by omega)) | exact ld_tab (List.mem_cons_of_mem _ List.mem_cons_self) Tryd.isAgg3 (joinsC_off (by omega) (by omega) (by omega) (by omega)))) (by first | exact trivial | exact safe_blk (k0 := 0) rfl rfl | exact safe_blk (k0 := 1) rfl rfl) ?_
                    refine AD0.take (i := 26) rfl (by kernel_rfl) (by kernel_rfl) (by kernel_rfl) (by repeat (first | exact NP.body | apply NP.then | apply NP.cut | apply NP.inBlock | apply NP.round)) (wants_T rfl rfl rfl lk (by first | rfl | assumption)) rfl (still_bin rfl ot ot bin_eql) (by exact trivial) ?_
                    refine AD0.take (i := 27) rfl (by kernel_rfl) (by kernel_rfl) (by kernel_rfl) (by repeat (first | exact NP.body | apply NP.then | apply NP.cut | apply NP.inBlock | apply NP.round)) (wants_T rfl rfl rfl lk (by first | rfl | assumption)) rfl (still_pickF rfl ot (by first | rfl | assumption) ot) (by exact trivial) ?_
                    refine AD0.take (i := 28) rfl (by kernel_rfl) (by kernel_rfl) (by kernel_rfl) (by repeat (first | exact NP.body | apply NP.then | apply NP.cut | apply NP.inBlock | apply NP.round)) (wants_plain rfl) rfl (still_pickT rfl ot (by first | rfl | assumption) ot) (by exact trivial) ?_
                    refine AD0.later rfl ?_
                    refine AD.wk (y := ⟨104, [(1, _), (5, _), (46, _), (47, _), (48, _), (99, _)], [⟨b6, 27, 3, [_, _, _]⟩, ⟨b1, 25, 2, [_, _]⟩]⟩) (Wk.as_ rfl rfl ⟨lk, lk, lk, lk, lk, lk, trivial⟩) rfl ?_
                    refine AD.done (by kernel_rfl) ?_
                    refine CD.cond ot (fun hc6 => ?_) (fun hc6 => ?_)
                    · exact absurd hc6 (by simp_all)
                    · have hc6' := hc6
                      (try simp only [decide_eq_true_eq, decide_eq_false_iff_not, beq_iff_eq, bne_iff_ne, Bool.not_eq_true', Bool.not_eq_false', Bool.not_eq_true, Bool.not_eq_false, beq_eq_false_iff_ne, ne_eq, bne_eq_false_iff_eq, Bool.and_eq_true, Bool.or_eq_true, Bool.not_not, Bool.and_eq_false_iff, Bool.or_eq_false_iff, Int.not_lt, Int.not_le] at hc6')
                      refine CD.skip ?_
                      refine CD.seq ?_
                      refine CD.region ?_
                      refine OD.still (wants_plain rfl) rfl (still_r1 (mk := Op.load 25) rfl ot (by first | exact ld_blks (k := 1) (ds := [_, _]) rfl rfl Tryd.isAgg25 Tryd.sizeOf25 rfl rfl | exact ld_fms cL_len Tryd.isAgg25 Tryd.sizeOf25 (by first | assumption | omega) | exact ld_rows (k := 0) cL_len rfl rfl rfl Tryd.isAgg25 Tryd.sizeOf25 (by first | assumption | omega) | exact ld_rows (k := 1) cL_len rfl rfl rfl Tryd.isAgg25 Tryd.sizeOf25 (by first | assumption | omega) | exact ld_is (ds := [_, _]) Tryd.isAgg25 Tryd.sizeOf25 rfl rfl)) ?_
                      refine OD.still (wants_plain rfl) rfl (still_mv rfl ot) ?_
                      refine OD.callP (wants_plain rfl) rfl rfl rfl Tryd.call30 (first_vp held queue k hkl (by omega) g.mode q2) ⟨ot, ot, trivial⟩ ?_
                      refine OD.wk (Wk.as_ (n := 104) (l' := [(1, _), (46, _), (47, _), (48, _), (102, _)]) (S' := [⟨b6, 27, 3, [_, _, _]⟩, ⟨b1, 25, 2, [_, _]⟩]) rfl rfl ⟨lk, lk, lk, lk, lk, trivial⟩) ?_
                      refine OD.nil ?_
                      refine CD.cond ot (fun hc7 => ?_) (fun hc7 => ?_)
                      · exact absurd hc7 (by simp_all)
                      · have hc7' := hc7
                        (try simp only [decide_eq_true_eq, decide_eq_false_iff_not, beq_iff_eq, bne_iff_ne, Bool.not_eq_true', Bool.not_eq_false', Bool.not_eq_true, Bool.not_eq_false, beq_eq_false_iff_ne, ne_eq, bne_eq_false_iff_eq, Bool.and_eq_true, Bool.or_eq_true, Bool.not_not, Bool.and_eq_false_iff, Bool.or_eq_false_iff, Int.not_lt, Int.not_le] at hc7')
                        refine CD.skip ?_
                        refine CD.region ?_
                        refine OD.still (wants_plain rfl) rfl (still_bin rfl ot opd_const (bin_add (wrap_i64 (by omega) (by omega)))) ?_
                        refine OD.still (wants_plain rfl) rfl (still_mv rfl ot) ?_
                        refine OD.wk (Wk.as_ (n := 104) (l' := [(1, _), (46, _), (47, _), (48, _)]) (S' := [⟨b6, 27, 3, [_, _, _]⟩, ⟨b1, 25, 2, [_, _]⟩]) rfl rfl ⟨lk, lk, lk, lk, trivial⟩) ?_
                        refine OD.nil ?_
                        refine ⟨k + 1, ⟨104, [(1, .v (.pointer (some ⟨b1, 0, none⟩))), (46, .list 3 (queue.flatMap cL) queue.length), (47, .v (.int .i64 queue.length)), (48, .v (.int .i64 ((k + 1) : Nat)))], [⟨b1, 25, 2, [.list 3 (held.flatMap cL) held.length, .list 3 (queue.flatMap cL) queue.length]⟩]⟩, ?_, Wk.asS (n := 104) rfl (by repeat (first | exact List.Sublist.refl _ | apply List.Sublist.cons)) ⟨(by (repeat (first | exact look_hit | (apply look_at; focus (first | rfl | (simp; done) | (congr 2; omega))) | (apply look_miss; focus rfl))); done), (by (repeat (first | exact look_hit | (apply look_at; focus (first | rfl | (simp; done) | (congr 2; omega))) | (apply look_miss; focus rfl))); done), (by (repeat (first | exact look_hit | (apply look_at; focus (first | rfl | (simp; done) | (congr 2; omega))) | (apply look_miss; focus rfl))); done), (by (repeat (first | exact look_hit | (apply look_at; focus (first | rfl | (simp; done) | (congr 2; omega))) | (apply look_miss; focus rfl))); done), trivial⟩, (by omega), rfl⟩
                        first | omega | (simp only []; omega)
                · exact absurd hg73 (by first | (simp_all; done) | (simp_all; omega))
        · have hc4' := hc4
          (try simp only [decide_eq_true_eq, decide_eq_false_iff_not, beq_iff_eq, bne_iff_ne, Bool.not_eq_true', Bool.not_eq_false', Bool.not_eq_true, Bool.not_eq_false, beq_eq_false_iff_ne, ne_eq, bne_eq_false_iff_eq, Bool.and_eq_true, Bool.or_eq_true, Bool.not_not, Bool.and_eq_false_iff, Bool.or_eq_false_iff, Int.not_lt, Int.not_le] at hc4')
          refine CD.exit ?_
          refine CD.seq ?_
          refine CD.region ?_
          refine OD.still (wants_plain rfl) rfl (still_as rfl opd_const) ?_
          refine OD.wk (Wk.as_ (n := 104) (l' := [(2, _)]) (S' := [⟨b1, 25, 2, [_, _]⟩]) rfl rfl ⟨lk, trivial⟩) ?_
          refine OD.nil ?_
          refine CD.ret ?_
          refine ⟨.inr rfl, _, [], List.nil_sublist _, ret_one Tryd.results18 (res_tmp (Nat.le_of_ble_eq_true rfl) lk), ?_⟩
          exact ⟨rfl, rfl⟩

end Go.Proofs.YtcogdagfcndbfaaDoor.Lk

namespace Go.Proofs.YtcogdagfcndbfaaDoor.Lk
open Go.RowKit V
set_option linter.unusedVariables false
set_option linter.unusedSimpArgs false

/-- What Ask answers at locks that may be. -/
def askF (held queue : List L) (x : L) : List L × List L × Bool × Int :=
  if shapeF x ≠ 0 then ([], [], false, shapeF x) else if queue.any (fun y => y.t == x.t) then ([], [], false, 9) else askG held queue x

theorem first_last (held queue : List L) (x : L) (hlen : held.length + queue.length ≤ 999) (hm : ∀ h ∈ held, modeB h.m = true) (hq : modeB x.m = true) :
    VP Tryd.prog TG 30 [locksS held (queue ++ [x]), .v (.int .i64 (queue.length : Nat))] (.v (.bool (firstQ held queue x))) := by
  have h := first_vp held (queue ++ [x]) queue.length (by simp) (by simp; omega) hm (by simpa using hq)
  simpa using h

theorem own_none {held : List L} {x : L} (h : findI held x.t x.th < 0) : ownM held x = none := by
  unfold ownM
  rw [List.find?_eq_none.2 (fun y hy => by simpa using findI_neg.1 h y hy)]
  rfl
theorem own_some {held : List L} {x : L} {j : Nat} (hj : j < held.length) (h : held.findIdx? (hasK x.t x.th) = some j) : ownM held x = some held[j].m := by
  unfold ownM
  rw [find_idx hj h]; rfl
abbrev AskPost (held queue : List L) (x : L) (r : D) (S : List Blk) : Prop := ∃ h' q' b e ah ch aq cq Sh Sq, askF held queue x = (h', q', b, e) ∧ r = .tup [.agg [.v (.slice ah h'.length ch), .v (.slice aq q'.length cq)], .v (.bool b), .v (.int .i64 e)] ∧ OwnK h' ah ch Sh ∧ OwnK q' aq cq Sq ∧ S.Perm (Sq ++ Sh)
theorem haveL_le (held : List L) (x : L) : (haveL held x).length ≤ held.length + 1 := by
  unfold haveL; split <;> simp
theorem ask_shape {held queue : List L} {x : L} (h : shapeF x ≠ 0) : askF held queue x = ([], [], false, shapeF x) := by unfold askF; rw [if_pos h]
theorem ask_twice {held queue : List L} {x : L} (h : shapeF x = 0) (h2 : (queue.any fun y => y.t == x.t) = true) : askF held queue x = ([], [], false, 9) := by unfold askF; rw [if_neg (fun a => a h), if_pos h2]
theorem ask_on {held queue : List L} {x : L} (h : shapeF x = 0) (h2 : (queue.any fun y => y.t == x.t) = false) : askF held queue x = askG held queue x := by unfold askF; rw [if_neg (fun a => a h), if_neg (by rw [h2]; exact Bool.false_ne_true)]
theorem askG_none {held queue : List L} {x : L} (h : ownM held x = none) : askG held queue x = if firstQ held queue x = true then (if (haveL held x).length + queue.length > 200 then ([], [], false, 10) else (haveL held x, queue, true, 0)) else if held.length + (queue.length + 1) > 200 then ([], [], false, 10) else (held, queue ++ [x], false, 0) := by
  unfold askG; simp only [h]; rw [if_neg (by simp)]
theorem askG_some {held queue : List L} {x : L} {m : Int} (h : ownM held x = some m) : askG held queue x = if joinsF m x.m = m then (held, queue, true, 0) else if firstQ held queue { x with m := joinsF m x.m } = true then (if (haveL held { x with m := joinsF m x.m }).length + queue.length > 200 then ([], [], false, 10) else (haveL held { x with m := joinsF m x.m }, queue, true, 0)) else if held.length + (queue.length + 1) > 200 then ([], [], false, 10) else (held, queue ++ [{ x with m := joinsF m x.m }], false, 0) := by
  unfold askG; simp only [h, Option.some.injEq]
  by_cases hm : m = joinsF m x.m
  · rw [if_pos hm, if_pos hm.symm]
  · rw [if_neg hm, if_neg (show ¬ joinsF m x.m = m from fun a => hm a.symm)]
theorem own_nil : OwnK [] none 0 [] := .inl ⟨rfl, rfl, rfl, rfl, rfl⟩
theorem places25_Lk5 : ∀ w, ((#[{ name := "Held", type := 23, offset := 0, embedded := false, tag := "", pkgPath := "", byteOffset := 0 }, { name := "Queue", type := 23, offset := 1, embedded := false, tag := "", pkgPath := "", byteOffset := 24 }] : Array Field).mapM fun f => do pure (f.offset, ← sizeOf f.type) : Sem (Array (Nat × Nat))).run Tryd.prog w = .ok #[(0, 1), (1, 1)] w := fun w => by simp [Tryd.sizeOf23]

set_option maxHeartbeats 4000000 in
set_option maxRecDepth 100000 in
theorem ask_vc (held queue : List L) (x : L) (g : Good held queue) : VC Tryd.prog TG 15 [locksS held queue, lockD x] [] (AskPost held queue x) := by
  refine VC.body Tryd.func15 rfl Tryd.ntmps15 (Nat.le_of_ble_eq_true rfl) fun X0 w0 S00 => ?_
  unfold locksS lockD
  have few := g.few
  refine CD.seq ?_
  refine CD.region ?_
  refine OD.box (ds := [_, _]) (wants_plain rfl) rfl rfl ot rfl rfl (fun b2 => ?_)
  refine OD.box (ds := [_, _, _]) (wants_plain rfl) rfl rfl ot rfl rfl (fun b3 => ?_)
  refine OD.alloc (ds := [_, _]) (wants_plain rfl) rfl rfl Tryd.zeroValue25 rfl (fun b4 => ?_)
  refine OD.still (wants_plain rfl) rfl (still_as rfl opd_const) ?_
  refine OD.still (wants_plain rfl) rfl (still_as rfl opd_const) ?_
  refine OD.wk (Wk.as_ (n := 104) (l' := [(2, _), (3, _), (4, _)]) (S' := [⟨b4, 25, 2, [_, _]⟩, ⟨b3, 27, 3, [_, _, _]⟩, ⟨b2, 25, 2, [_, _]⟩]) rfl rfl ⟨lk, lk, lk, trivial⟩) ?_
  refine OD.nil ?_
  refine CD.seq ?_
  refine CD.seq ?_
  refine CD.region ?_
  refine OD.still (wants_plain rfl) rfl (still_r1 (mk := Op.load 25) rfl ot (by first | exact ld_blks (k := 2) (ds := [_, _]) rfl rfl Tryd.isAgg25 Tryd.sizeOf25 rfl rfl | exact ld_fms cL_len Tryd.isAgg25 Tryd.sizeOf25 (by first | assumption | omega) | exact ld_rows (k := 0) cL_len rfl rfl rfl Tryd.isAgg25 Tryd.sizeOf25 (by first | assumption | omega) | exact ld_rows (k := 1) cL_len rfl rfl rfl Tryd.isAgg25 Tryd.sizeOf25 (by first | assumption | omega) | exact ld_rows (k := 2) cL_len rfl rfl rfl Tryd.isAgg25 Tryd.sizeOf25 (by first | assumption | omega) | exact ld_is (ds := [_, _]) Tryd.isAgg25 Tryd.sizeOf25 rfl rfl)) ?_
  refine OD.callP (wants_plain rfl) rfl rfl rfl Tryd.call18 (check_vp held queue g) ⟨ot, trivial⟩ ?_
  refine OD.still (wants_plain rfl) rfl (still_as rfl ot) ?_
  refine OD.wk (Wk.as_ (n := 104) (l' := [(2, _), (3, _), (4, _), (7, _)]) (S' := [⟨b4, 25, 2, [_, _]⟩, ⟨b3, 27, 3, [_, _, _]⟩, ⟨b2, 25, 2, [_, _]⟩]) rfl rfl ⟨lk, lk, lk, lk, trivial⟩) ?_
  refine OD.nil ?_
  refine CD.seq ?_
  refine CD.region ?_
  refine OD.still (wants_plain rfl) rfl (still_mv rfl ot) ?_
  refine OD.still (wants_plain rfl) rfl (still_bin rfl ot opd_const bin_neq) ?_
  refine OD.wk (Wk.as_ (n := 104) (l' := [(2, _), (3, _), (4, _), (7, _), (14, _)]) (S' := [⟨b4, 25, 2, [_, _]⟩, ⟨b3, 27, 3, [_, _, _]⟩, ⟨b2, 25, 2, [_, _]⟩]) rfl rfl ⟨lk, lk, lk, lk, lk, trivial⟩) ?_
  refine OD.nil ?_
  refine CD.cond ot (fun hc0 => ?_) (fun hc0 => ?_)
  · exact absurd hc0 (by simp at hc0)
  · have hc0' := hc0
    (try simp only [decide_eq_true_eq, decide_eq_false_iff_not, beq_iff_eq, bne_iff_ne, Bool.not_eq_true', Bool.not_eq_false', Bool.not_eq_true, Bool.not_eq_false, beq_eq_false_iff_ne, ne_eq, bne_eq_false_iff_eq, Bool.and_eq_true, Bool.or_eq_true, Bool.not_not, Bool.and_eq_false_iff, Bool.or_eq_false_iff, Int.not_lt, Int.not_le] at hc0')
    refine CD.skip ?_
    refine CD.seq ?_
    refine CD.seq ?_
    refine CD.region ?_
    refine OD.still (wants_plain rfl) rfl (still_r1 (mk := Op.load 27) rfl ot (by first | exact ld_blks (k := 1) (ds := [_, _, _]) rfl rfl Tryd.isAgg27 Tryd.sizeOf27 rfl rfl | exact ld_fms cL_len Tryd.isAgg27 Tryd.sizeOf27 (by first | assumption | omega) | exact ld_rows (k := 0) cL_len rfl rfl rfl Tryd.isAgg27 Tryd.sizeOf27 (by first | assumption | omega) | exact ld_rows (k := 1) cL_len rfl rfl rfl Tryd.isAgg27 Tryd.sizeOf27 (by first | assumption | omega) | exact ld_rows (k := 2) cL_len rfl rfl rfl Tryd.isAgg27 Tryd.sizeOf27 (by first | assumption | omega) | exact ld_is (ds := [_, _, _]) Tryd.isAgg27 Tryd.sizeOf27 rfl rfl)) ?_
    refine OD.callP (wants_plain rfl) rfl rfl rfl Tryd.call25 (shape_vp _ x) ⟨ot, trivial⟩ ?_
    refine OD.still (wants_plain rfl) rfl (still_as rfl ot) ?_
    refine OD.wk (Wk.as_ (n := 104) (l' := [(2, _), (3, _), (4, _), (8, _)]) (S' := [⟨b4, 25, 2, [_, _]⟩, ⟨b3, 27, 3, [_, _, _]⟩, ⟨b2, 25, 2, [_, _]⟩]) rfl rfl ⟨lk, lk, lk, lk, trivial⟩) ?_
    refine OD.nil ?_
    refine CD.seq ?_
    refine CD.region ?_
    refine OD.still (wants_plain rfl) rfl (still_mv rfl ot) ?_
    refine OD.still (wants_plain rfl) rfl (still_bin rfl ot opd_const bin_neq) ?_
    refine OD.wk (Wk.as_ (n := 104) (l' := [(2, _), (3, _), (4, _), (8, _), (20, _)]) (S' := [⟨b4, 25, 2, [_, _]⟩, ⟨b3, 27, 3, [_, _, _]⟩, ⟨b2, 25, 2, [_, _]⟩]) rfl rfl ⟨lk, lk, lk, lk, lk, trivial⟩) ?_
    refine OD.nil ?_
    refine CD.cond ot (fun hc1 => ?_) (fun hc1 => ?_)
    · have hc1' := hc1
      (try simp only [decide_eq_true_eq, decide_eq_false_iff_not, beq_iff_eq, bne_iff_ne, Bool.not_eq_true', Bool.not_eq_false', Bool.not_eq_true, Bool.not_eq_false, beq_eq_false_iff_ne, ne_eq, bne_eq_false_iff_eq, Bool.and_eq_true, Bool.or_eq_true, Bool.not_not, Bool.and_eq_false_iff, Bool.or_eq_false_iff, Int.not_lt, Int.not_le] at hc1')
      refine CD.seq ?_
      refine CD.region ?_
      refine OD.still (wants_plain rfl) rfl (still_bld (pl := []) (ds := [_, _]) rfl Tryd.zeroValue25 Tryd.runUnderlying25 places25_Lk5 trivial rfl rfl) ?_
      refine OD.still (wants_plain rfl) rfl (still_mv rfl ot) ?_
      refine OD.store (k := 0) (cs' := [_, _]) (wants_plain rfl) rfl rfl ot rfl rfl ot rfl rfl Tryd.sizeOf25 rfl rfl rfl ?_
      refine OD.still (wants_plain rfl) rfl (still_as rfl opd_const) ?_
      refine OD.still (wants_plain rfl) rfl (still_as rfl ot) ?_
      refine OD.wk (Wk.as_ (n := 104) (l' := [(4, _), (5, _), (6, _)]) (S' := [⟨b4, 25, 2, [_, _]⟩, ⟨b3, 27, 3, [_, _, _]⟩, ⟨b2, 25, 2, [_, _]⟩]) rfl rfl ⟨lk, lk, lk, trivial⟩) ?_
      refine OD.nil ?_
      refine CD.ret ?_
      refine ⟨.inr rfl, _, [], (List.nil_sublist _), ret_three Tryd.results15 (res_cells (k := 0) (ds := [_, _]) (Nat.le_of_ble_eq_true rfl) lk rfl rfl Tryd.isAgg25 Tryd.sizeOf25 rfl rfl) (res_tmp (Nat.le_of_ble_eq_true rfl) lk) (res_tmp (Nat.le_of_ble_eq_true rfl) lk), ?_⟩
      first | (refine ⟨_, _, _, _, _, _, _, _, _, _, ?_, rfl, own_nil, own_nil, List.Perm.refl _⟩; first | exact ask_shape (by simpa using hc1') | exact ask_twice hsx hc2' | ((first | rw [ask_on hsx hc2', askG_none hown] | rw [ask_on hsx hc2', askG_some hown]); (repeat' split) <;> first | rfl | (exfalso; simp_all; done) | (exfalso; simp_all; omega))) | (refine ⟨_, _, _, _, _, _, _, _, _, _, ?_, rfl, hoh, hoq, List.Perm.refl _⟩; first | exact ask_shape (by simpa using hc1') | exact ask_twice hsx hc2' | ((first | rw [ask_on hsx hc2', askG_none hown] | rw [ask_on hsx hc2', askG_some hown]); (repeat' split) <;> first | rfl | (exfalso; simp_all; done) | (exfalso; simp_all; omega))) | (refine ⟨_, _, _, _, _, _, _, _, _, _, ?_, rfl, hoh, hoq, by first | exact List.perm_append_comm (l₁ := [_]) | exact List.perm_append_comm⟩; first | exact ask_shape (by simpa using hc1') | exact ask_twice hsx hc2' | ((first | rw [ask_on hsx hc2', askG_none hown] | rw [ask_on hsx hc2', askG_some hown]); (repeat' split) <;> first | rfl | (exfalso; simp_all; done) | (exfalso; simp_all; omega))) | (refine ⟨_, _, _, _, _, _, _, _, _, _, ?_, rfl, hoh, hoq2, List.Perm.refl _⟩; first | exact ask_shape (by simpa using hc1') | exact ask_twice hsx hc2' | ((first | rw [ask_on hsx hc2', askG_none hown] | rw [ask_on hsx hc2', askG_some hown]); (repeat' split) <;> first | rfl | (exfalso; simp_all; done) | (exfalso; simp_all; omega))) | (refine ⟨_, _, _, _, _, _, _, _, _, _, ?_, rfl, hoh, hoq2, by first | exact List.perm_append_comm (l₁ := [_]) | exact List.perm_append_comm⟩; first | exact ask_shape (by simpa using hc1') | exact ask_twice hsx hc2' | ((first | rw [ask_on hsx hc2', askG_none hown] | rw [ask_on hsx hc2', askG_some hown]); (repeat' split) <;> first | rfl | (exfalso; simp_all; done) | (exfalso; simp_all; omega))) | (refine ⟨_, _, _, _, _, _, _, _, _, _, ?_, rfl, hoh3, hoq3, List.Perm.refl _⟩; first | exact ask_shape (by simpa using hc1') | exact ask_twice hsx hc2' | ((first | rw [ask_on hsx hc2', askG_none hown] | rw [ask_on hsx hc2', askG_some hown]); (repeat' split) <;> first | rfl | (exfalso; simp_all; done) | (exfalso; simp_all; omega))) | skip
    · have hc1' := hc1
      (try simp only [decide_eq_true_eq, decide_eq_false_iff_not, beq_iff_eq, bne_iff_ne, Bool.not_eq_true', Bool.not_eq_false', Bool.not_eq_true, Bool.not_eq_false, beq_eq_false_iff_ne, ne_eq, bne_eq_false_iff_eq, Bool.and_eq_true, Bool.or_eq_true, Bool.not_not, Bool.and_eq_false_iff, Bool.or_eq_false_iff, Int.not_lt, Int.not_le] at hc1')
      have hsx : shapeF x = 0 := by simpa using hc1'
      have hxm := (shape_iff.1 hsx).2.2
      have hxb := modeB_bd hxm
      refine CD.skip ?_
      refine CD.seq ?_
      refine CD.seq ?_
      refine CD.region ?_
      refine OD.still (wants_plain rfl) rfl (still_r1 (mk := fun y => Op.fieldAddr 25 y 1) rfl ot (by first | exact fa_ptr (off := 1) Tryd.runUnderlying25 rfl Tryd.sizeOf23 rfl | exact fa_iptr (off := 1) Tryd.runUnderlying25 rfl Tryd.sizeOf23 rfl)) ?_
      refine OD.still (wants_plain rfl) rfl (still_r1 (mk := Op.load 23) rfl ot (by first | exact ld_blk (k := 2) rfl rfl Tryd.isAgg23 rfl | exact ld_fm cL_len Tryd.isAgg23 (by first | assumption | omega) rfl | exact ld_fm0 cL_len Tryd.isAgg23 (by first | assumption | omega) rfl | exact ld_row (k := 0) cL_len rfl rfl rfl Tryd.isAgg23 (by first | assumption | omega) rfl | exact ld_row0 (k := 0) cL_len rfl rfl rfl Tryd.isAgg23 (by first | assumption | omega) rfl | exact ld_row (k := 1) cL_len rfl rfl rfl Tryd.isAgg23 (by first | assumption | omega) rfl | exact ld_row0 (k := 1) cL_len rfl rfl rfl Tryd.isAgg23 (by first | assumption | omega) rfl | exact ld_row (k := 2) cL_len rfl rfl rfl Tryd.isAgg23 (by first | assumption | omega) rfl | exact ld_row0 (k := 2) cL_len rfl rfl rfl Tryd.isAgg23 (by first | assumption | omega) rfl | exact ld_i Tryd.isAgg23 rfl | exact ld_tab (List.mem_cons_self) Tryd.isAgg23 (fitsC_off (by omega) (by omega) (by omega) (by omega)) | exact ld_tab (List.mem_cons_of_mem _ List.mem_cons_self) Tryd.isAgg23 (joinsC_off (by omega) (by omega) (by omega) (by omega)))) ?_
      refine OD.still (wants_plain rfl) rfl (still_fn (ds := [_]) rfl ⟨ot, trivial⟩) ?_
      refine OD.call (wants_plain rfl) rfl rfl rfl Tryd.call26 (contains_vc _ queue 27 [.v (.pointer (some ⟨b3, 0, none⟩))] _ (fun y => y.t == x.t) Tryd.call27 (fun y _ => ask1_vc _ x y b3) (by omega)) ⟨ot, ot, trivial⟩ (perm_one (k := 1) rfl) ?_; rintro _ S2 ⟨rfl, hS2⟩; rw [hS2]; clear hS2
      refine OD.wk (Wk.as_ (n := 104) (l' := [(2, _), (3, _), (4, _), (26, _)]) (S' := [⟨b3, 27, 3, [_, _, _]⟩, ⟨b4, 25, 2, [_, _]⟩, ⟨b2, 25, 2, [_, _]⟩]) rfl rfl ⟨lk, lk, lk, lk, trivial⟩) ?_
      refine OD.nil ?_
      refine CD.cond ot (fun hc2 => ?_) (fun hc2 => ?_)
      · have hc2' := hc2
        (try simp only [decide_eq_true_eq, decide_eq_false_iff_not, beq_iff_eq, bne_iff_ne, Bool.not_eq_true', Bool.not_eq_false', Bool.not_eq_true, Bool.not_eq_false, beq_eq_false_iff_ne, ne_eq, bne_eq_false_iff_eq, Bool.and_eq_true, Bool.or_eq_true, Bool.not_not, Bool.and_eq_false_iff, Bool.or_eq_false_iff, Int.not_lt, Int.not_le] at hc2')
        refine CD.seq ?_
        refine CD.region ?_
        refine OD.still (wants_plain rfl) rfl (still_bld (pl := []) (ds := [_, _]) rfl Tryd.zeroValue25 Tryd.runUnderlying25 places25_Lk5 trivial rfl rfl) ?_
        refine OD.store (k := 1) (cs' := [_, _]) (wants_plain rfl) rfl rfl ot rfl rfl ot rfl rfl Tryd.sizeOf25 rfl rfl rfl ?_
        refine OD.still (wants_plain rfl) rfl (still_as rfl opd_const) ?_
        refine OD.still (wants_plain rfl) rfl (still_as rfl opd_const) ?_
        refine OD.wk (Wk.as_ (n := 104) (l' := [(4, _), (5, _), (6, _)]) (S' := [⟨b3, 27, 3, [_, _, _]⟩, ⟨b4, 25, 2, [_, _]⟩, ⟨b2, 25, 2, [_, _]⟩]) rfl rfl ⟨lk, lk, lk, trivial⟩) ?_
        refine OD.nil ?_
        refine CD.ret ?_
        refine ⟨.inr rfl, _, [], (List.nil_sublist _), ret_three Tryd.results15 (res_cells (k := 1) (ds := [_, _]) (Nat.le_of_ble_eq_true rfl) lk rfl rfl Tryd.isAgg25 Tryd.sizeOf25 rfl rfl) (res_tmp (Nat.le_of_ble_eq_true rfl) lk) (res_tmp (Nat.le_of_ble_eq_true rfl) lk), ?_⟩
        first | (refine ⟨_, _, _, _, _, _, _, _, _, _, ?_, rfl, own_nil, own_nil, List.Perm.refl _⟩; first | exact ask_shape (by simpa using hc1') | exact ask_twice hsx hc2' | ((first | rw [ask_on hsx hc2', askG_none hown] | rw [ask_on hsx hc2', askG_some hown]); (repeat' split) <;> first | rfl | (exfalso; simp_all; done) | (exfalso; simp_all; omega))) | (refine ⟨_, _, _, _, _, _, _, _, _, _, ?_, rfl, hoh, hoq, List.Perm.refl _⟩; first | exact ask_shape (by simpa using hc1') | exact ask_twice hsx hc2' | ((first | rw [ask_on hsx hc2', askG_none hown] | rw [ask_on hsx hc2', askG_some hown]); (repeat' split) <;> first | rfl | (exfalso; simp_all; done) | (exfalso; simp_all; omega))) | (refine ⟨_, _, _, _, _, _, _, _, _, _, ?_, rfl, hoh, hoq, by first | exact List.perm_append_comm (l₁ := [_]) | exact List.perm_append_comm⟩; first | exact ask_shape (by simpa using hc1') | exact ask_twice hsx hc2' | ((first | rw [ask_on hsx hc2', askG_none hown] | rw [ask_on hsx hc2', askG_some hown]); (repeat' split) <;> first | rfl | (exfalso; simp_all; done) | (exfalso; simp_all; omega))) | (refine ⟨_, _, _, _, _, _, _, _, _, _, ?_, rfl, hoh, hoq2, List.Perm.refl _⟩; first | exact ask_shape (by simpa using hc1') | exact ask_twice hsx hc2' | ((first | rw [ask_on hsx hc2', askG_none hown] | rw [ask_on hsx hc2', askG_some hown]); (repeat' split) <;> first | rfl | (exfalso; simp_all; done) | (exfalso; simp_all; omega))) | (refine ⟨_, _, _, _, _, _, _, _, _, _, ?_, rfl, hoh, hoq2, by first | exact List.perm_append_comm (l₁ := [_]) | exact List.perm_append_comm⟩; first | exact ask_shape (by simpa using hc1') | exact ask_twice hsx hc2' | ((first | rw [ask_on hsx hc2', askG_none hown] | rw [ask_on hsx hc2', askG_some hown]); (repeat' split) <;> first | rfl | (exfalso; simp_all; done) | (exfalso; simp_all; omega))) | (refine ⟨_, _, _, _, _, _, _, _, _, _, ?_, rfl, hoh3, hoq3, List.Perm.refl _⟩; first | exact ask_shape (by simpa using hc1') | exact ask_twice hsx hc2' | ((first | rw [ask_on hsx hc2', askG_none hown] | rw [ask_on hsx hc2', askG_some hown]); (repeat' split) <;> first | rfl | (exfalso; simp_all; done) | (exfalso; simp_all; omega))) | skip
      · have hc2' := hc2
        (try simp only [decide_eq_true_eq, decide_eq_false_iff_not, beq_iff_eq, bne_iff_ne, Bool.not_eq_true', Bool.not_eq_false', Bool.not_eq_true, Bool.not_eq_false, beq_eq_false_iff_ne, ne_eq, bne_eq_false_iff_eq, Bool.and_eq_true, Bool.or_eq_true, Bool.not_not, Bool.and_eq_false_iff, Bool.or_eq_false_iff, Int.not_lt, Int.not_le] at hc2')
        refine CD.skip ?_
        refine CD.seq ?_
        refine CD.region ?_
        refine OD.still (wants_plain rfl) rfl (still_r1 (mk := Op.load 25) rfl ot (by first | exact ld_blks (k := 2) (ds := [_, _]) rfl rfl Tryd.isAgg25 Tryd.sizeOf25 rfl rfl | exact ld_fms cL_len Tryd.isAgg25 Tryd.sizeOf25 (by first | assumption | omega) | exact ld_rows (k := 0) cL_len rfl rfl rfl Tryd.isAgg25 Tryd.sizeOf25 (by first | assumption | omega) | exact ld_rows (k := 1) cL_len rfl rfl rfl Tryd.isAgg25 Tryd.sizeOf25 (by first | assumption | omega) | exact ld_rows (k := 2) cL_len rfl rfl rfl Tryd.isAgg25 Tryd.sizeOf25 (by first | assumption | omega) | exact ld_is (ds := [_, _]) Tryd.isAgg25 Tryd.sizeOf25 rfl rfl)) ?_
        refine OD.call (wants_plain rfl) rfl rfl rfl Tryd.call28 (own_vc _ held queue (by omega)) ⟨ot, trivial⟩ (perm_none _) ?_; rintro _ S3 ⟨ah, ch, aq, cq, Sh, Sq, rfl, hoh, hoq, rfl⟩
        refine OD.perm (List.perm_append_comm.trans (List.Perm.append_left _ List.perm_append_comm)) ?_
        refine OD.alloc (ds := [_, _]) (wants_plain rfl) rfl rfl Tryd.zeroValue25 rfl (fun b9 => ?_)
        refine OD.store (k := 0) (cs' := [_, _]) (wants_plain rfl) rfl rfl ot rfl rfl ot rfl rfl Tryd.sizeOf25 rfl rfl rfl ?_
        refine OD.wk (Wk.as_ (n := 104) (l' := [(3, _), (4, _), (9, _)]) (S' := (⟨b9, 25, 2, [_, _]⟩ :: ⟨b3, 27, 3, [_, _, _]⟩ :: ⟨b4, 25, 2, [_, _]⟩ :: ⟨b2, 25, 2, [_, _]⟩ :: (Sh ++ Sq))) rfl rfl ⟨lk, lk, lk, trivial⟩) ?_
        refine OD.nil ?_
        refine CD.seq ?_
        refine CD.region ?_
        refine OD.still (wants_plain rfl) rfl (still_r1 (mk := fun y => Op.fieldAddr 25 y 0) rfl ot (by first | exact fa_ptr (off := 0) Tryd.runUnderlying25 rfl Tryd.sizeOf23 rfl | exact fa_iptr (off := 0) Tryd.runUnderlying25 rfl Tryd.sizeOf23 rfl)) ?_
        refine OD.still (wants_plain rfl) rfl (still_r1 (mk := Op.load 23) rfl ot (by first | exact ld_blk (k := 0) rfl rfl Tryd.isAgg23 rfl | exact ld_fm cL_len Tryd.isAgg23 (by first | assumption | omega) rfl | exact ld_fm0 cL_len Tryd.isAgg23 (by first | assumption | omega) rfl | exact ld_row (k := 0) cL_len rfl rfl rfl Tryd.isAgg23 (by first | assumption | omega) rfl | exact ld_row0 (k := 0) cL_len rfl rfl rfl Tryd.isAgg23 (by first | assumption | omega) rfl | exact ld_row (k := 1) cL_len rfl rfl rfl Tryd.isAgg23 (by first | assumption | omega) rfl | exact ld_row0 (k := 1) cL_len rfl rfl rfl Tryd.isAgg23 (by first | assumption | omega) rfl | exact ld_row (k := 2) cL_len rfl rfl rfl Tryd.isAgg23 (by first | assumption | omega) rfl | exact ld_row0 (k := 2) cL_len rfl rfl rfl Tryd.isAgg23 (by first | assumption | omega) rfl | exact ld_row (k := 3) cL_len rfl rfl rfl Tryd.isAgg23 (by first | assumption | omega) rfl | exact ld_row0 (k := 3) cL_len rfl rfl rfl Tryd.isAgg23 (by first | assumption | omega) rfl | exact ld_i Tryd.isAgg23 rfl | exact ld_tab (List.mem_cons_self) Tryd.isAgg23 (fitsC_off (by omega) (by omega) (by omega) (by omega)) | exact ld_tab (List.mem_cons_of_mem _ List.mem_cons_self) Tryd.isAgg23 (joinsC_off (by omega) (by omega) (by omega) (by omega)))) ?_
        refine OD.still (wants_plain rfl) rfl (still_r1 (mk := fun y => Op.fieldAddr 27 y 0) rfl ot (by first | exact fa_ptr (off := 0) Tryd.runUnderlying27 rfl Tryd.sizeOf3 rfl | exact fa_iptr (off := 0) Tryd.runUnderlying27 rfl Tryd.sizeOf3 rfl)) ?_
        refine OD.still (wants_plain rfl) rfl (still_r1 (mk := Op.load 3) rfl ot (by first | exact ld_blk (k := 1) rfl rfl Tryd.isAgg3 rfl | exact ld_fm cL_len Tryd.isAgg3 (by first | assumption | omega) rfl | exact ld_fm0 cL_len Tryd.isAgg3 (by first | assumption | omega) rfl | exact ld_row (k := 0) cL_len rfl rfl rfl Tryd.isAgg3 (by first | assumption | omega) rfl | exact ld_row0 (k := 0) cL_len rfl rfl rfl Tryd.isAgg3 (by first | assumption | omega) rfl | exact ld_row (k := 1) cL_len rfl rfl rfl Tryd.isAgg3 (by first | assumption | omega) rfl | exact ld_row0 (k := 1) cL_len rfl rfl rfl Tryd.isAgg3 (by first | assumption | omega) rfl | exact ld_row (k := 2) cL_len rfl rfl rfl Tryd.isAgg3 (by first | assumption | omega) rfl | exact ld_row0 (k := 2) cL_len rfl rfl rfl Tryd.isAgg3 (by first | assumption | omega) rfl | exact ld_row (k := 3) cL_len rfl rfl rfl Tryd.isAgg3 (by first | assumption | omega) rfl | exact ld_row0 (k := 3) cL_len rfl rfl rfl Tryd.isAgg3 (by first | assumption | omega) rfl | exact ld_i Tryd.isAgg3 rfl | exact ld_tab (List.mem_cons_self) Tryd.isAgg3 (fitsC_off (by omega) (by omega) (by omega) (by omega)) | exact ld_tab (List.mem_cons_of_mem _ List.mem_cons_self) Tryd.isAgg3 (joinsC_off (by omega) (by omega) (by omega) (by omega)))) ?_
        refine OD.still (wants_plain rfl) rfl (still_r1 (mk := fun y => Op.fieldAddr 27 y 1) rfl ot (by first | exact fa_ptr (off := 1) Tryd.runUnderlying27 rfl Tryd.sizeOf9 rfl | exact fa_iptr (off := 1) Tryd.runUnderlying27 rfl Tryd.sizeOf9 rfl)) ?_
        refine OD.still (wants_plain rfl) rfl (still_r1 (mk := Op.load 9) rfl ot (by first | exact ld_blk (k := 1) rfl rfl Tryd.isAgg9 rfl | exact ld_fm cL_len Tryd.isAgg9 (by first | assumption | omega) rfl | exact ld_fm0 cL_len Tryd.isAgg9 (by first | assumption | omega) rfl | exact ld_row (k := 0) cL_len rfl rfl rfl Tryd.isAgg9 (by first | assumption | omega) rfl | exact ld_row0 (k := 0) cL_len rfl rfl rfl Tryd.isAgg9 (by first | assumption | omega) rfl | exact ld_row (k := 1) cL_len rfl rfl rfl Tryd.isAgg9 (by first | assumption | omega) rfl | exact ld_row0 (k := 1) cL_len rfl rfl rfl Tryd.isAgg9 (by first | assumption | omega) rfl | exact ld_row (k := 2) cL_len rfl rfl rfl Tryd.isAgg9 (by first | assumption | omega) rfl | exact ld_row0 (k := 2) cL_len rfl rfl rfl Tryd.isAgg9 (by first | assumption | omega) rfl | exact ld_row (k := 3) cL_len rfl rfl rfl Tryd.isAgg9 (by first | assumption | omega) rfl | exact ld_row0 (k := 3) cL_len rfl rfl rfl Tryd.isAgg9 (by first | assumption | omega) rfl | exact ld_i Tryd.isAgg9 rfl | exact ld_tab (List.mem_cons_self) Tryd.isAgg9 (fitsC_off (by omega) (by omega) (by omega) (by omega)) | exact ld_tab (List.mem_cons_of_mem _ List.mem_cons_self) Tryd.isAgg9 (joinsC_off (by omega) (by omega) (by omega) (by omega)))) ?_
        rcases Int.lt_or_le (findI held x.t x.th) 0 with hfi | hfi
        · skip
          refine OD.look (wants_plain rfl) rfl rfl rfl Tryd.call29 (find_vp _ held _ _ (by omega)) rfl ⟨⟨_, ot, view_own hoh (cells_len _) (fun B hB => by simp [hB, St.put])⟩, ⟨_, ot, view_same⟩, ⟨_, ot, view_same⟩, trivial⟩ ?_
          have hown := own_none hfi
          refine OD.still (wants_plain rfl) rfl (still_as rfl ot) ?_
          refine OD.wk (Wk.as_ (n := 104) (l' := [(3, _), (4, _), (9, _), (10, _)]) (S' := (⟨b9, 25, 2, [_, _]⟩ :: ⟨b3, 27, 3, [_, _, _]⟩ :: ⟨b4, 25, 2, [_, _]⟩ :: ⟨b2, 25, 2, [_, _]⟩ :: (Sh ++ Sq))) rfl rfl ⟨lk, lk, lk, lk, trivial⟩) ?_
          refine OD.nil ?_
          refine CD.seq ?_
          refine CD.seq ?_
          refine CD.region ?_
          refine OD.still (wants_plain rfl) rfl (still_mv rfl ot) ?_
          refine OD.still (wants_plain rfl) rfl (still_bin rfl ot opd_const bin_geq) ?_
          refine OD.wk (Wk.as_ (n := 104) (l' := [(3, _), (4, _), (9, _), (10, _), (38, _)]) (S' := (⟨b9, 25, 2, [_, _]⟩ :: ⟨b3, 27, 3, [_, _, _]⟩ :: ⟨b4, 25, 2, [_, _]⟩ :: ⟨b2, 25, 2, [_, _]⟩ :: (Sh ++ Sq))) rfl rfl ⟨lk, lk, lk, lk, lk, trivial⟩) ?_
          refine OD.nil ?_
          refine CD.cond ot (fun hc3 => ?_) (fun hc3 => ?_)
          · exact absurd hc3 (by simp at hc3; omega)
          · have hc3' := hc3
            (try simp only [decide_eq_true_eq, decide_eq_false_iff_not, beq_iff_eq, bne_iff_ne, Bool.not_eq_true', Bool.not_eq_false', Bool.not_eq_true, Bool.not_eq_false, beq_eq_false_iff_ne, ne_eq, bne_eq_false_iff_eq, Bool.and_eq_true, Bool.or_eq_true, Bool.not_not, Bool.and_eq_false_iff, Bool.or_eq_false_iff, Int.not_lt, Int.not_le] at hc3')
            refine CD.skip ?_
            refine CD.seq ?_
            refine CD.region ?_
            refine OD.still (wants_plain rfl) rfl (still_r1 (mk := fun y => Op.fieldAddr 25 y 1) rfl ot (by first | exact fa_ptr (off := 1) Tryd.runUnderlying25 rfl Tryd.sizeOf23 rfl | exact fa_iptr (off := 1) Tryd.runUnderlying25 rfl Tryd.sizeOf23 rfl)) ?_
            refine OD.still (wants_plain rfl) rfl (still_r1 (mk := Op.load 23) rfl ot (by first | exact ld_blk (k := 0) rfl rfl Tryd.isAgg23 rfl | exact ld_fm cL_len Tryd.isAgg23 (by first | assumption | omega) rfl | exact ld_fm0 cL_len Tryd.isAgg23 (by first | assumption | omega) rfl | exact ld_row (k := 0) cL_len rfl rfl rfl Tryd.isAgg23 (by first | assumption | omega) rfl | exact ld_row0 (k := 0) cL_len rfl rfl rfl Tryd.isAgg23 (by first | assumption | omega) rfl | exact ld_row (k := 1) cL_len rfl rfl rfl Tryd.isAgg23 (by first | assumption | omega) rfl | exact ld_row0 (k := 1) cL_len rfl rfl rfl Tryd.isAgg23 (by first | assumption | omega) rfl | exact ld_row (k := 2) cL_len rfl rfl rfl Tryd.isAgg23 (by first | assumption | omega) rfl | exact ld_row0 (k := 2) cL_len rfl rfl rfl Tryd.isAgg23 (by first | assumption | omega) rfl | exact ld_row (k := 3) cL_len rfl rfl rfl Tryd.isAgg23 (by first | assumption | omega) rfl | exact ld_row0 (k := 3) cL_len rfl rfl rfl Tryd.isAgg23 (by first | assumption | omega) rfl | exact ld_i Tryd.isAgg23 rfl | exact ld_tab (List.mem_cons_self) Tryd.isAgg23 (fitsC_off (by omega) (by omega) (by omega) (by omega)) | exact ld_tab (List.mem_cons_of_mem _ List.mem_cons_self) Tryd.isAgg23 (joinsC_off (by omega) (by omega) (by omega) (by omega)))) ?_
            refine OD.still (wants_plain rfl) rfl (still_r1 (mk := Op.load 27) rfl ot (by first | exact ld_blks (k := 1) (ds := [_, _, _]) rfl rfl Tryd.isAgg27 Tryd.sizeOf27 rfl rfl | exact ld_fms cL_len Tryd.isAgg27 Tryd.sizeOf27 (by first | assumption | omega) | exact ld_rows (k := 0) cL_len rfl rfl rfl Tryd.isAgg27 Tryd.sizeOf27 (by first | assumption | omega) | exact ld_rows (k := 1) cL_len rfl rfl rfl Tryd.isAgg27 Tryd.sizeOf27 (by first | assumption | omega) | exact ld_rows (k := 2) cL_len rfl rfl rfl Tryd.isAgg27 Tryd.sizeOf27 (by first | assumption | omega) | exact ld_rows (k := 3) cL_len rfl rfl rfl Tryd.isAgg27 Tryd.sizeOf27 (by first | assumption | omega) | exact ld_is (ds := [_, _, _]) Tryd.isAgg27 Tryd.sizeOf27 rfl rfl)) ?_
            refine OD.bldS (pl := [(0, _)]) (zvs := [.int .i64 0, .string ⟨#[]⟩, .int .i64 0]) (ds := [_, _, _]) (wants_plain rfl) rfl rfl Tryd.zeroValue27 Tryd.runUnderlying23 Tryd.sizeOf27 rfl rfl (by kernel_rfl) ⟨rfl, ot, trivial⟩ rfl rfl (fun b64 => ?_)
            refine OD.give (k := 0) (t := 64) (sz := 3) (m := 1) rfl lk rfl rfl rfl (Nat.le_refl _) (by decide) ?_
            refine OD.appendG (ls := queue) (new := [x]) (Sq := Sq) cL_len cL_one (wants_plain rfl) rfl rfl Tryd.underlying23 infoL rfl (by decide) ot hoq ((List.Perm.append_left [_, _, _, _] List.perm_append_comm).trans (List.perm_append_comm_assoc _ _ _)) ot (by simp) (by unfold maxLen; simp; omega) (by simp; omega) (fun bq cq' hq1 hq2 => ?_)
            replace hq1 : queue.length + 1 ≤ cq' := by simpa using hq1
            have hlq : (queue ++ [x]).length = queue.length + 1 := by simp
            have hoq2 : OwnK (queue ++ [x]) (some ⟨bq, 0, none⟩) cq' [⟨bq, 27, cq' * 3, (queue ++ [x]).flatMap cL⟩] := .inr ⟨bq, rfl, by rw [hlq]; exact hq1, hq2, rfl⟩
            refine OD.still (wants_plain rfl) rfl (still_r1 (mk := fun y => Op.fieldAddr 25 y 1) rfl ot (by first | exact fa_ptr (off := 1) Tryd.runUnderlying25 rfl Tryd.sizeOf23 rfl | exact fa_iptr (off := 1) Tryd.runUnderlying25 rfl Tryd.sizeOf23 rfl)) ?_
            refine OD.store (k := 1) (cs' := [_, _]) (wants_plain rfl) rfl rfl ot rfl rfl ot rfl rfl Tryd.sizeOf23 rfl rfl rfl ?_
            refine OD.wk (Wk.as_ (n := 104) (l' := [(3, _), (4, _), (9, _)]) (S' := (_ :: ⟨b9, 25, 2, [_, _]⟩ :: ⟨b3, 27, 3, [_, _, _]⟩ :: ⟨b4, 25, 2, [_, _]⟩ :: ⟨b2, 25, 2, [_, _]⟩ :: Sh)) rfl rfl ⟨lk, lk, lk, trivial⟩) ?_
            refine OD.nil ?_
            refine CD.seq ?_
            refine CD.seq ?_
            refine CD.region ?_
            refine OD.still (wants_plain rfl) rfl (still_r1 (mk := Op.load 25) rfl ot (by first | exact ld_blks (k := 1) (ds := [_, _]) rfl rfl Tryd.isAgg25 Tryd.sizeOf25 rfl rfl | exact ld_fms cL_len Tryd.isAgg25 Tryd.sizeOf25 (by first | assumption | omega) | exact ld_rows (k := 0) cL_len rfl rfl rfl Tryd.isAgg25 Tryd.sizeOf25 (by first | assumption | omega) | exact ld_rows (k := 1) cL_len rfl rfl rfl Tryd.isAgg25 Tryd.sizeOf25 (by first | assumption | omega) | exact ld_rows (k := 2) cL_len rfl rfl rfl Tryd.isAgg25 Tryd.sizeOf25 (by first | assumption | omega) | exact ld_rows (k := 3) cL_len rfl rfl rfl Tryd.isAgg25 Tryd.sizeOf25 (by first | assumption | omega) | exact ld_rows (k := 4) cL_len rfl rfl rfl Tryd.isAgg25 Tryd.sizeOf25 (by first | assumption | omega) | exact ld_is (ds := [_, _]) Tryd.isAgg25 Tryd.sizeOf25 rfl rfl)) ?_
            refine OD.still (wants_plain rfl) rfl (still_r1 (mk := fun y => Op.fieldAddr 25 y 1) rfl ot (by first | exact fa_ptr (off := 1) Tryd.runUnderlying25 rfl Tryd.sizeOf23 rfl | exact fa_iptr (off := 1) Tryd.runUnderlying25 rfl Tryd.sizeOf23 rfl)) ?_
            refine OD.still (wants_plain rfl) rfl (still_r1 (mk := Op.load 23) rfl ot (by first | exact ld_blk (k := 1) rfl rfl Tryd.isAgg23 rfl | exact ld_fm cL_len Tryd.isAgg23 (by first | assumption | omega) rfl | exact ld_fm0 cL_len Tryd.isAgg23 (by first | assumption | omega) rfl | exact ld_row (k := 0) cL_len rfl rfl rfl Tryd.isAgg23 (by first | assumption | omega) rfl | exact ld_row0 (k := 0) cL_len rfl rfl rfl Tryd.isAgg23 (by first | assumption | omega) rfl | exact ld_row (k := 1) cL_len rfl rfl rfl Tryd.isAgg23 (by first | assumption | omega) rfl | exact ld_row0 (k := 1) cL_len rfl rfl rfl Tryd.isAgg23 (by first | assumption | omega) rfl | exact ld_row (k := 2) cL_len rfl rfl rfl Tryd.isAgg23 (by first | assumption | omega) rfl | exact ld_row0 (k := 2) cL_len rfl rfl rfl Tryd.isAgg23 (by first | assumption | omega) rfl | exact ld_row (k := 3) cL_len rfl rfl rfl Tryd.isAgg23 (by first | assumption | omega) rfl | exact ld_row0 (k := 3) cL_len rfl rfl rfl Tryd.isAgg23 (by first | assumption | omega) rfl | exact ld_row (k := 4) cL_len rfl rfl rfl Tryd.isAgg23 (by first | assumption | omega) rfl | exact ld_row0 (k := 4) cL_len rfl rfl rfl Tryd.isAgg23 (by first | assumption | omega) rfl | exact ld_i Tryd.isAgg23 rfl | exact ld_tab (List.mem_cons_self) Tryd.isAgg23 (fitsC_off (by omega) (by omega) (by omega) (by omega)) | exact ld_tab (List.mem_cons_of_mem _ List.mem_cons_self) Tryd.isAgg23 (joinsC_off (by omega) (by omega) (by omega) (by omega)))) ?_
            refine OD.still (wants_plain rfl) rfl (still_r1 (mk := fun y => .call { callee := .builtin .len, args := #[y], argTypes := #[23] }) rfl ot (by first | exact len_list rfl Tryd.runUnderlying23 | exact len_row rfl Tryd.runUnderlying23)) ?_
            refine OD.still (wants_plain rfl) rfl (still_bin rfl ot opd_const (bin_sub (r := (queue.length : Nat)) (by rw [wrap_i64] <;> simp <;> omega))) ?_
            refine OD.look (wants_plain rfl) rfl rfl rfl Tryd.call30 (first_last held queue x (by omega) g.mode hxm) rfl ⟨⟨_, ot, view_agg (ds := [_, _]) ⟨view_own hoh (cells_len _) (fun B hB => by simp [hB, St.put]), view_row (k := 0) rfl rfl rfl (cells_len _) (by rw [hlq]; omega) hq2, trivial⟩⟩, ⟨_, ot, view_same⟩, trivial⟩ ?_
            refine OD.wk (Wk.as_ (n := 104) (l' := [(3, _), (4, _), (9, _), (72, _)]) (S' := (_ :: ⟨b9, 25, 2, [_, _]⟩ :: ⟨b3, 27, 3, [_, _, _]⟩ :: ⟨b4, 25, 2, [_, _]⟩ :: ⟨b2, 25, 2, [_, _]⟩ :: Sh)) rfl rfl ⟨lk, lk, lk, lk, trivial⟩) ?_
            refine OD.nil ?_
            refine CD.cond ot (fun hc5 => ?_) (fun hc5 => ?_)
            · have hc5' := hc5
              (try simp only [decide_eq_true_eq, decide_eq_false_iff_not, beq_iff_eq, bne_iff_ne, Bool.not_eq_true', Bool.not_eq_false', Bool.not_eq_true, Bool.not_eq_false, beq_eq_false_iff_ne, ne_eq, bne_eq_false_iff_eq, Bool.and_eq_true, Bool.or_eq_true, Bool.not_not, Bool.and_eq_false_iff, Bool.or_eq_false_iff, Int.not_lt, Int.not_le] at hc5')
              refine CD.seq ?_
              refine CD.region ?_
              refine OD.still (wants_plain rfl) rfl (still_r1 (mk := fun y => Op.fieldAddr 25 y 1) rfl ot (by first | exact fa_ptr (off := 1) Tryd.runUnderlying25 rfl Tryd.sizeOf23 rfl | exact fa_iptr (off := 1) Tryd.runUnderlying25 rfl Tryd.sizeOf23 rfl)) ?_
              refine OD.still (wants_plain rfl) rfl (still_r1 (mk := Op.load 23) rfl ot (by first | exact ld_blk (k := 1) rfl rfl Tryd.isAgg23 rfl | exact ld_fm cL_len Tryd.isAgg23 (by first | assumption | omega) rfl | exact ld_fm0 cL_len Tryd.isAgg23 (by first | assumption | omega) rfl | exact ld_row (k := 0) cL_len rfl rfl rfl Tryd.isAgg23 (by first | assumption | omega) rfl | exact ld_row0 (k := 0) cL_len rfl rfl rfl Tryd.isAgg23 (by first | assumption | omega) rfl | exact ld_row (k := 1) cL_len rfl rfl rfl Tryd.isAgg23 (by first | assumption | omega) rfl | exact ld_row0 (k := 1) cL_len rfl rfl rfl Tryd.isAgg23 (by first | assumption | omega) rfl | exact ld_row (k := 2) cL_len rfl rfl rfl Tryd.isAgg23 (by first | assumption | omega) rfl | exact ld_row0 (k := 2) cL_len rfl rfl rfl Tryd.isAgg23 (by first | assumption | omega) rfl | exact ld_row (k := 3) cL_len rfl rfl rfl Tryd.isAgg23 (by first | assumption | omega) rfl | exact ld_row0 (k := 3) cL_len rfl rfl rfl Tryd.isAgg23 (by first | assumption | omega) rfl | exact ld_row (k := 4) cL_len rfl rfl rfl Tryd.isAgg23 (by first | assumption | omega) rfl | exact ld_row0 (k := 4) cL_len rfl rfl rfl Tryd.isAgg23 (by first | assumption | omega) rfl | exact ld_i Tryd.isAgg23 rfl | exact ld_tab (List.mem_cons_self) Tryd.isAgg23 (fitsC_off (by omega) (by omega) (by omega) (by omega)) | exact ld_tab (List.mem_cons_of_mem _ List.mem_cons_self) Tryd.isAgg23 (joinsC_off (by omega) (by omega) (by omega) (by omega)))) ?_
              refine OD.still (wants_plain rfl) rfl (still_r1 (mk := fun y => Op.fieldAddr 25 y 1) rfl ot (by first | exact fa_ptr (off := 1) Tryd.runUnderlying25 rfl Tryd.sizeOf23 rfl | exact fa_iptr (off := 1) Tryd.runUnderlying25 rfl Tryd.sizeOf23 rfl)) ?_
              refine OD.still (wants_plain rfl) rfl (still_r1 (mk := Op.load 23) rfl ot (by first | exact ld_blk (k := 1) rfl rfl Tryd.isAgg23 rfl | exact ld_fm cL_len Tryd.isAgg23 (by first | assumption | omega) rfl | exact ld_fm0 cL_len Tryd.isAgg23 (by first | assumption | omega) rfl | exact ld_row (k := 0) cL_len rfl rfl rfl Tryd.isAgg23 (by first | assumption | omega) rfl | exact ld_row0 (k := 0) cL_len rfl rfl rfl Tryd.isAgg23 (by first | assumption | omega) rfl | exact ld_row (k := 1) cL_len rfl rfl rfl Tryd.isAgg23 (by first | assumption | omega) rfl | exact ld_row0 (k := 1) cL_len rfl rfl rfl Tryd.isAgg23 (by first | assumption | omega) rfl | exact ld_row (k := 2) cL_len rfl rfl rfl Tryd.isAgg23 (by first | assumption | omega) rfl | exact ld_row0 (k := 2) cL_len rfl rfl rfl Tryd.isAgg23 (by first | assumption | omega) rfl | exact ld_row (k := 3) cL_len rfl rfl rfl Tryd.isAgg23 (by first | assumption | omega) rfl | exact ld_row0 (k := 3) cL_len rfl rfl rfl Tryd.isAgg23 (by first | assumption | omega) rfl | exact ld_row (k := 4) cL_len rfl rfl rfl Tryd.isAgg23 (by first | assumption | omega) rfl | exact ld_row0 (k := 4) cL_len rfl rfl rfl Tryd.isAgg23 (by first | assumption | omega) rfl | exact ld_i Tryd.isAgg23 rfl | exact ld_tab (List.mem_cons_self) Tryd.isAgg23 (fitsC_off (by omega) (by omega) (by omega) (by omega)) | exact ld_tab (List.mem_cons_of_mem _ List.mem_cons_self) Tryd.isAgg23 (joinsC_off (by omega) (by omega) (by omega) (by omega)))) ?_
              refine OD.still (wants_plain rfl) rfl (still_r1 (mk := fun y => .call { callee := .builtin .len, args := #[y], argTypes := #[23] }) rfl ot (by first | exact len_list rfl Tryd.runUnderlying23 | exact len_row rfl Tryd.runUnderlying23)) ?_
              refine OD.still (wants_plain rfl) rfl (still_bin rfl ot opd_const (bin_sub (r := (queue.length : Nat)) (by rw [wrap_i64] <;> simp <;> omega))) ?_
              refine OD.still (wants_plain rfl) rfl (still_rs (l := 0) (h := queue.length) rfl ot trivial ⟨_, ot⟩ (by first | exact sl_head cL_len (fun h => by cases h) Tryd.runUnderlying23 Tryd.sizeOf27 (by omega) | exact sl_row (fun h => by cases h) Tryd.runUnderlying23 Tryd.sizeOf27 (by omega) | exact sl_list (fun _ => rfl) (fun h => by cases h) Tryd.runUnderlying23 Tryd.sizeOf27 (by omega) (by omega))) ?_
              refine OD.still (wants_plain rfl) rfl (still_r1 (mk := fun y => Op.fieldAddr 25 y 1) rfl ot (by first | exact fa_ptr (off := 1) Tryd.runUnderlying25 rfl Tryd.sizeOf23 rfl | exact fa_iptr (off := 1) Tryd.runUnderlying25 rfl Tryd.sizeOf23 rfl)) ?_
              refine OD.store (k := 1) (cs' := [_, _]) (wants_plain rfl) rfl rfl ot rfl rfl ot rfl rfl Tryd.sizeOf23 rfl rfl rfl ?_
              refine OD.wk (Wk.as_ (n := 104) (l' := [(3, _), (4, _), (9, _)]) (S' := (_ :: ⟨b9, 25, 2, [_, _]⟩ :: ⟨b3, 27, 3, [_, _, _]⟩ :: ⟨b4, 25, 2, [_, _]⟩ :: ⟨b2, 25, 2, [_, _]⟩ :: Sh)) rfl rfl ⟨lk, lk, lk, trivial⟩) ?_
              refine OD.nil ?_
              refine CD.seq ?_
              refine CD.region ?_
              refine OD.still (wants_plain rfl) rfl (still_r1 (mk := Op.load 27) rfl ot (by first | exact ld_blks (k := 2) (ds := [_, _, _]) rfl rfl Tryd.isAgg27 Tryd.sizeOf27 rfl rfl | exact ld_fms cL_len Tryd.isAgg27 Tryd.sizeOf27 (by first | assumption | omega) | exact ld_rows (k := 0) cL_len rfl rfl rfl Tryd.isAgg27 Tryd.sizeOf27 (by first | assumption | omega) | exact ld_rows (k := 1) cL_len rfl rfl rfl Tryd.isAgg27 Tryd.sizeOf27 (by first | assumption | omega) | exact ld_rows (k := 2) cL_len rfl rfl rfl Tryd.isAgg27 Tryd.sizeOf27 (by first | assumption | omega) | exact ld_rows (k := 3) cL_len rfl rfl rfl Tryd.isAgg27 Tryd.sizeOf27 (by first | assumption | omega) | exact ld_rows (k := 4) cL_len rfl rfl rfl Tryd.isAgg27 Tryd.sizeOf27 (by first | assumption | omega) | exact ld_is (ds := [_, _, _]) Tryd.isAgg27 Tryd.sizeOf27 rfl rfl)) ?_
              refine OD.shrink (k := 0) (cs' := queue.flatMap cL) rfl (fm_prefix _ _) ?_
              have hll := haveL_le held x
              refine OD.call (wants_plain rfl) rfl rfl rfl Tryd.call31 (have_vc _ b9 ch _ _ held x Sh hoh (by omega)) ⟨ot, ot, trivial⟩ (R := [_, _, _, _]) (((List.Perm.swap _ _ [_, _, _]).append_right Sh).trans (List.Perm.cons _ List.perm_append_comm)) ?_
              rintro _ S2 ⟨rfl, ah', ch', Sh', hoh', hS2⟩
              refine OD.perm ((hS2.append_right _).trans (List.Perm.cons _ List.perm_append_comm)) ?_
              have hoq' : OwnK queue (some ⟨bq, 0, none⟩) cq' [⟨bq, 27, cq' * 3, queue.flatMap cL⟩] := .inr ⟨bq, rfl, by omega, hq2, rfl⟩
              refine OD.wk (Wk.as_ (n := 104) (l' := [(4, _), (9, _)]) (S' := (⟨b9, 25, 2, [_, _]⟩ :: _ :: ⟨b3, 27, 3, [_, _, _]⟩ :: ⟨b4, 25, 2, [_, _]⟩ :: ⟨b2, 25, 2, [_, _]⟩ :: Sh')) rfl rfl ⟨lk, lk, trivial⟩) ?_
              refine OD.nil ?_
              refine CD.seq ?_
              refine CD.seq ?_
              refine CD.region ?_
              refine OD.still (wants_plain rfl) rfl (still_r1 (mk := fun y => Op.fieldAddr 25 y 0) rfl ot (by first | exact fa_ptr (off := 0) Tryd.runUnderlying25 rfl Tryd.sizeOf23 rfl | exact fa_iptr (off := 0) Tryd.runUnderlying25 rfl Tryd.sizeOf23 rfl)) ?_
              refine OD.still (wants_plain rfl) rfl (still_r1 (mk := Op.load 23) rfl ot (by first | exact ld_blk (k := 0) rfl rfl Tryd.isAgg23 rfl | exact ld_fm cL_len Tryd.isAgg23 (by first | assumption | omega) rfl | exact ld_fm0 cL_len Tryd.isAgg23 (by first | assumption | omega) rfl | exact ld_row (k := 0) cL_len rfl rfl rfl Tryd.isAgg23 (by first | assumption | omega) rfl | exact ld_row0 (k := 0) cL_len rfl rfl rfl Tryd.isAgg23 (by first | assumption | omega) rfl | exact ld_row (k := 1) cL_len rfl rfl rfl Tryd.isAgg23 (by first | assumption | omega) rfl | exact ld_row0 (k := 1) cL_len rfl rfl rfl Tryd.isAgg23 (by first | assumption | omega) rfl | exact ld_row (k := 2) cL_len rfl rfl rfl Tryd.isAgg23 (by first | assumption | omega) rfl | exact ld_row0 (k := 2) cL_len rfl rfl rfl Tryd.isAgg23 (by first | assumption | omega) rfl | exact ld_row (k := 3) cL_len rfl rfl rfl Tryd.isAgg23 (by first | assumption | omega) rfl | exact ld_row0 (k := 3) cL_len rfl rfl rfl Tryd.isAgg23 (by first | assumption | omega) rfl | exact ld_row (k := 4) cL_len rfl rfl rfl Tryd.isAgg23 (by first | assumption | omega) rfl | exact ld_row0 (k := 4) cL_len rfl rfl rfl Tryd.isAgg23 (by first | assumption | omega) rfl | exact ld_i Tryd.isAgg23 rfl | exact ld_tab (List.mem_cons_self) Tryd.isAgg23 (fitsC_off (by omega) (by omega) (by omega) (by omega)) | exact ld_tab (List.mem_cons_of_mem _ List.mem_cons_self) Tryd.isAgg23 (joinsC_off (by omega) (by omega) (by omega) (by omega)))) ?_
              refine OD.still (wants_plain rfl) rfl (still_r1 (mk := fun y => .call { callee := .builtin .len, args := #[y], argTypes := #[23] }) rfl ot (by first | exact len_list rfl Tryd.runUnderlying23 | exact len_row rfl Tryd.runUnderlying23)) ?_
              refine OD.still (wants_plain rfl) rfl (still_r1 (mk := fun y => Op.fieldAddr 25 y 1) rfl ot (by first | exact fa_ptr (off := 1) Tryd.runUnderlying25 rfl Tryd.sizeOf23 rfl | exact fa_iptr (off := 1) Tryd.runUnderlying25 rfl Tryd.sizeOf23 rfl)) ?_
              refine OD.still (wants_plain rfl) rfl (still_r1 (mk := Op.load 23) rfl ot (by first | exact ld_blk (k := 0) rfl rfl Tryd.isAgg23 rfl | exact ld_fm cL_len Tryd.isAgg23 (by first | assumption | omega) rfl | exact ld_fm0 cL_len Tryd.isAgg23 (by first | assumption | omega) rfl | exact ld_row (k := 0) cL_len rfl rfl rfl Tryd.isAgg23 (by first | assumption | omega) rfl | exact ld_row0 (k := 0) cL_len rfl rfl rfl Tryd.isAgg23 (by first | assumption | omega) rfl | exact ld_row (k := 1) cL_len rfl rfl rfl Tryd.isAgg23 (by first | assumption | omega) rfl | exact ld_row0 (k := 1) cL_len rfl rfl rfl Tryd.isAgg23 (by first | assumption | omega) rfl | exact ld_row (k := 2) cL_len rfl rfl rfl Tryd.isAgg23 (by first | assumption | omega) rfl | exact ld_row0 (k := 2) cL_len rfl rfl rfl Tryd.isAgg23 (by first | assumption | omega) rfl | exact ld_row (k := 3) cL_len rfl rfl rfl Tryd.isAgg23 (by first | assumption | omega) rfl | exact ld_row0 (k := 3) cL_len rfl rfl rfl Tryd.isAgg23 (by first | assumption | omega) rfl | exact ld_row (k := 4) cL_len rfl rfl rfl Tryd.isAgg23 (by first | assumption | omega) rfl | exact ld_row0 (k := 4) cL_len rfl rfl rfl Tryd.isAgg23 (by first | assumption | omega) rfl | exact ld_i Tryd.isAgg23 rfl | exact ld_tab (List.mem_cons_self) Tryd.isAgg23 (fitsC_off (by omega) (by omega) (by omega) (by omega)) | exact ld_tab (List.mem_cons_of_mem _ List.mem_cons_self) Tryd.isAgg23 (joinsC_off (by omega) (by omega) (by omega) (by omega)))) ?_
              refine OD.still (wants_plain rfl) rfl (still_r1 (mk := fun y => .call { callee := .builtin .len, args := #[y], argTypes := #[23] }) rfl ot (by first | exact len_list rfl Tryd.runUnderlying23 | exact len_row rfl Tryd.runUnderlying23)) ?_
              refine OD.still (wants_plain rfl) rfl (still_bin rfl ot ot (bin_add (wrap_i64 (by omega) (by omega)))) ?_
              refine OD.still (wants_plain rfl) rfl (still_bin rfl ot opd_const bin_gtr) ?_
              refine OD.wk (Wk.as_ (n := 104) (l' := [(4, _), (9, _), (90, _)]) (S' := (⟨b9, 25, 2, [_, _]⟩ :: _ :: ⟨b3, 27, 3, [_, _, _]⟩ :: ⟨b4, 25, 2, [_, _]⟩ :: ⟨b2, 25, 2, [_, _]⟩ :: Sh')) rfl rfl ⟨lk, lk, lk, trivial⟩) ?_
              refine OD.nil ?_
              refine CD.cond ot (fun hc6 => ?_) (fun hc6 => ?_)
              · have hc6' := hc6
                (try simp only [decide_eq_true_eq, decide_eq_false_iff_not, beq_iff_eq, bne_iff_ne, Bool.not_eq_true', Bool.not_eq_false', Bool.not_eq_true, Bool.not_eq_false, beq_eq_false_iff_ne, ne_eq, bne_eq_false_iff_eq, Bool.and_eq_true, Bool.or_eq_true, Bool.not_not, Bool.and_eq_false_iff, Bool.or_eq_false_iff, Int.not_lt, Int.not_le] at hc6')
                refine CD.seq ?_
                refine CD.region ?_
                refine OD.still (wants_plain rfl) rfl (still_bld (pl := []) (ds := [_, _]) rfl Tryd.zeroValue25 Tryd.runUnderlying25 places25_Lk5 trivial rfl rfl) ?_
                refine OD.store (k := 3) (cs' := [_, _]) (wants_plain rfl) rfl rfl ot rfl rfl ot rfl rfl Tryd.sizeOf25 rfl rfl rfl ?_
                refine OD.still (wants_plain rfl) rfl (still_as rfl opd_const) ?_
                refine OD.still (wants_plain rfl) rfl (still_as rfl opd_const) ?_
                refine OD.wk (Wk.as_ (n := 104) (l' := [(4, _), (5, _), (6, _)]) (S' := (⟨b9, 25, 2, [_, _]⟩ :: _ :: ⟨b3, 27, 3, [_, _, _]⟩ :: ⟨b4, 25, 2, [_, _]⟩ :: ⟨b2, 25, 2, [_, _]⟩ :: Sh')) rfl rfl ⟨lk, lk, lk, trivial⟩) ?_
                refine OD.nil ?_
                refine CD.ret ?_
                refine ⟨.inr rfl, _, [], (List.nil_sublist _), ret_three Tryd.results15 (res_cells (k := 3) (ds := [_, _]) (Nat.le_of_ble_eq_true rfl) lk rfl rfl Tryd.isAgg25 Tryd.sizeOf25 rfl rfl) (res_tmp (Nat.le_of_ble_eq_true rfl) lk) (res_tmp (Nat.le_of_ble_eq_true rfl) lk), ?_⟩
                first | (refine ⟨_, _, _, _, _, _, _, _, _, _, ?_, rfl, own_nil, own_nil, List.Perm.refl _⟩; first | exact ask_shape (by simpa using hc1') | exact ask_twice hsx hc2' | ((first | rw [ask_on hsx hc2', askG_none hown] | rw [ask_on hsx hc2', askG_some hown]); (repeat' split) <;> first | rfl | (exfalso; simp_all; done) | (exfalso; simp_all; omega))) | (refine ⟨_, _, _, _, _, _, _, _, _, _, ?_, rfl, hoh, hoq, List.Perm.refl _⟩; first | exact ask_shape (by simpa using hc1') | exact ask_twice hsx hc2' | ((first | rw [ask_on hsx hc2', askG_none hown] | rw [ask_on hsx hc2', askG_some hown]); (repeat' split) <;> first | rfl | (exfalso; simp_all; done) | (exfalso; simp_all; omega))) | (refine ⟨_, _, _, _, _, _, _, _, _, _, ?_, rfl, hoh, hoq, by first | exact List.perm_append_comm (l₁ := [_]) | exact List.perm_append_comm⟩; first | exact ask_shape (by simpa using hc1') | exact ask_twice hsx hc2' | ((first | rw [ask_on hsx hc2', askG_none hown] | rw [ask_on hsx hc2', askG_some hown]); (repeat' split) <;> first | rfl | (exfalso; simp_all; done) | (exfalso; simp_all; omega))) | (refine ⟨_, _, _, _, _, _, _, _, _, _, ?_, rfl, hoh, hoq2, List.Perm.refl _⟩; first | exact ask_shape (by simpa using hc1') | exact ask_twice hsx hc2' | ((first | rw [ask_on hsx hc2', askG_none hown] | rw [ask_on hsx hc2', askG_some hown]); (repeat' split) <;> first | rfl | (exfalso; simp_all; done) | (exfalso; simp_all; omega))) | (refine ⟨_, _, _, _, _, _, _, _, _, _, ?_, rfl, hoh, hoq2, by first | exact List.perm_append_comm (l₁ := [_]) | exact List.perm_append_comm⟩; first | exact ask_shape (by simpa using hc1') | exact ask_twice hsx hc2' | ((first | rw [ask_on hsx hc2', askG_none hown] | rw [ask_on hsx hc2', askG_some hown]); (repeat' split) <;> first | rfl | (exfalso; simp_all; done) | (exfalso; simp_all; omega))) | (refine ⟨_, _, _, _, _, _, _, _, _, _, ?_, rfl, hoh3, hoq3, List.Perm.refl _⟩; first | exact ask_shape (by simpa using hc1') | exact ask_twice hsx hc2' | ((first | rw [ask_on hsx hc2', askG_none hown] | rw [ask_on hsx hc2', askG_some hown]); (repeat' split) <;> first | rfl | (exfalso; simp_all; done) | (exfalso; simp_all; omega))) | skip
              · have hc6' := hc6
                (try simp only [decide_eq_true_eq, decide_eq_false_iff_not, beq_iff_eq, bne_iff_ne, Bool.not_eq_true', Bool.not_eq_false', Bool.not_eq_true, Bool.not_eq_false, beq_eq_false_iff_ne, ne_eq, bne_eq_false_iff_eq, Bool.and_eq_true, Bool.or_eq_true, Bool.not_not, Bool.and_eq_false_iff, Bool.or_eq_false_iff, Int.not_lt, Int.not_le] at hc6')
                refine CD.skip ?_
                refine CD.seq ?_
                refine CD.region ?_
                refine OD.cover (A := ⟨b9, 25, 2, _⟩) (R := [_, _, _]) (Sd := ⟨bq, 27, _, queue.flatMap cL⟩ :: Sh') (cs' := [locksD _, locksD queue]) (List.Perm.cons _ (List.perm_middle (l₁ := [_, _, _])).symm) ⟨view_own hoh' (cells_len _) (fun B hB => by simp [hB]), view_row (k := 0) rfl rfl rfl (cells_len _) (by omega) hq2, trivial⟩ ?_
                refine OD.still (wants_plain rfl) rfl (still_r1 (mk := Op.load 25) rfl ot (by first | exact ld_blks (k := 0) (ds := [_, _]) rfl rfl Tryd.isAgg25 Tryd.sizeOf25 rfl rfl | exact ld_fms cL_len Tryd.isAgg25 Tryd.sizeOf25 (by first | assumption | omega) | exact ld_rows (k := 0) cL_len rfl rfl rfl Tryd.isAgg25 Tryd.sizeOf25 (by first | assumption | omega) | exact ld_rows (k := 1) cL_len rfl rfl rfl Tryd.isAgg25 Tryd.sizeOf25 (by first | assumption | omega) | exact ld_rows (k := 2) cL_len rfl rfl rfl Tryd.isAgg25 Tryd.sizeOf25 (by first | assumption | omega) | exact ld_rows (k := 3) cL_len rfl rfl rfl Tryd.isAgg25 Tryd.sizeOf25 (by first | assumption | omega) | exact ld_is (ds := [_, _]) Tryd.isAgg25 Tryd.sizeOf25 rfl rfl)) ?_
                refine OD.call (wants_plain rfl) rfl rfl rfl Tryd.call28 (own_vc _ (haveL held x) queue (by omega)) ⟨ot, trivial⟩ (perm_none _) ?_
                rintro _ S3 ⟨ah3, ch3, aq3, cq3, Sh3, Sq3, rfl, hoh3, hoq3, rfl⟩
                refine OD.perm List.perm_append_comm ?_
                refine OD.store (k := 2) (cs' := [_, _]) (wants_plain rfl) rfl rfl ot rfl rfl ot rfl rfl Tryd.sizeOf25 rfl rfl rfl ?_
                refine OD.still (wants_plain rfl) rfl (still_as rfl opd_const) ?_
                refine OD.still (wants_plain rfl) rfl (still_as rfl opd_const) ?_
                refine OD.wk (Wk.as_ (n := 104) (l' := [(4, _), (5, _), (6, _)]) (S' := (⟨b9, 25, 2, [_, _]⟩ :: ⟨b3, 27, 3, [_, _, _]⟩ :: ⟨b4, 25, 2, [_, _]⟩ :: ⟨b2, 25, 2, [_, _]⟩ :: _)) rfl rfl ⟨lk, lk, lk, trivial⟩) ?_
                refine OD.nil ?_
                refine CD.ret ?_
                refine ⟨.inr rfl, _, _, (.cons _ (.cons _ (.cons _ (.cons _ (.refl _))))), ret_three Tryd.results15 (res_cells (k := 2) (ds := [_, _]) (Nat.le_of_ble_eq_true rfl) lk rfl rfl Tryd.isAgg25 Tryd.sizeOf25 rfl rfl) (res_tmp (Nat.le_of_ble_eq_true rfl) lk) (res_tmp (Nat.le_of_ble_eq_true rfl) lk), ?_⟩
                first | (refine ⟨_, _, _, _, _, _, _, _, _, _, ?_, rfl, own_nil, own_nil, List.Perm.refl _⟩; first | exact ask_shape (by simpa using hc1') | exact ask_twice hsx hc2' | ((first | rw [ask_on hsx hc2', askG_none hown] | rw [ask_on hsx hc2', askG_some hown]); (repeat' split) <;> first | rfl | (exfalso; simp_all; done) | (exfalso; simp_all; omega))) | (refine ⟨_, _, _, _, _, _, _, _, _, _, ?_, rfl, hoh, hoq, List.Perm.refl _⟩; first | exact ask_shape (by simpa using hc1') | exact ask_twice hsx hc2' | ((first | rw [ask_on hsx hc2', askG_none hown] | rw [ask_on hsx hc2', askG_some hown]); (repeat' split) <;> first | rfl | (exfalso; simp_all; done) | (exfalso; simp_all; omega))) | (refine ⟨_, _, _, _, _, _, _, _, _, _, ?_, rfl, hoh, hoq, by first | exact List.perm_append_comm (l₁ := [_]) | exact List.perm_append_comm⟩; first | exact ask_shape (by simpa using hc1') | exact ask_twice hsx hc2' | ((first | rw [ask_on hsx hc2', askG_none hown] | rw [ask_on hsx hc2', askG_some hown]); (repeat' split) <;> first | rfl | (exfalso; simp_all; done) | (exfalso; simp_all; omega))) | (refine ⟨_, _, _, _, _, _, _, _, _, _, ?_, rfl, hoh, hoq2, List.Perm.refl _⟩; first | exact ask_shape (by simpa using hc1') | exact ask_twice hsx hc2' | ((first | rw [ask_on hsx hc2', askG_none hown] | rw [ask_on hsx hc2', askG_some hown]); (repeat' split) <;> first | rfl | (exfalso; simp_all; done) | (exfalso; simp_all; omega))) | (refine ⟨_, _, _, _, _, _, _, _, _, _, ?_, rfl, hoh, hoq2, by first | exact List.perm_append_comm (l₁ := [_]) | exact List.perm_append_comm⟩; first | exact ask_shape (by simpa using hc1') | exact ask_twice hsx hc2' | ((first | rw [ask_on hsx hc2', askG_none hown] | rw [ask_on hsx hc2', askG_some hown]); (repeat' split) <;> first | rfl | (exfalso; simp_all; done) | (exfalso; simp_all; omega))) | (refine ⟨_, _, _, _, _, _, _, _, _, _, ?_, rfl, hoh3, hoq3, List.Perm.refl _⟩; first | exact ask_shape (by simpa using hc1') | exact ask_twice hsx hc2' | ((first | rw [ask_on hsx hc2', askG_none hown] | rw [ask_on hsx hc2', askG_some hown]); (repeat' split) <;> first | rfl | (exfalso; simp_all; done) | (exfalso; simp_all; omega))) | skip
            · have hc5' := hc5
              (try simp only [decide_eq_true_eq, decide_eq_false_iff_not, beq_iff_eq, bne_iff_ne, Bool.not_eq_true', Bool.not_eq_false', Bool.not_eq_true, Bool.not_eq_false, beq_eq_false_iff_ne, ne_eq, bne_eq_false_iff_eq, Bool.and_eq_true, Bool.or_eq_true, Bool.not_not, Bool.and_eq_false_iff, Bool.or_eq_false_iff, Int.not_lt, Int.not_le] at hc5')
              refine CD.skip ?_
              refine CD.seq ?_
              refine CD.seq ?_
              refine CD.region ?_
              refine OD.still (wants_plain rfl) rfl (still_r1 (mk := fun y => Op.fieldAddr 25 y 0) rfl ot (by first | exact fa_ptr (off := 0) Tryd.runUnderlying25 rfl Tryd.sizeOf23 rfl | exact fa_iptr (off := 0) Tryd.runUnderlying25 rfl Tryd.sizeOf23 rfl)) ?_
              refine OD.still (wants_plain rfl) rfl (still_r1 (mk := Op.load 23) rfl ot (by first | exact ld_blk (k := 1) rfl rfl Tryd.isAgg23 rfl | exact ld_fm cL_len Tryd.isAgg23 (by first | assumption | omega) rfl | exact ld_fm0 cL_len Tryd.isAgg23 (by first | assumption | omega) rfl | exact ld_row (k := 0) cL_len rfl rfl rfl Tryd.isAgg23 (by first | assumption | omega) rfl | exact ld_row0 (k := 0) cL_len rfl rfl rfl Tryd.isAgg23 (by first | assumption | omega) rfl | exact ld_row (k := 1) cL_len rfl rfl rfl Tryd.isAgg23 (by first | assumption | omega) rfl | exact ld_row0 (k := 1) cL_len rfl rfl rfl Tryd.isAgg23 (by first | assumption | omega) rfl | exact ld_row (k := 2) cL_len rfl rfl rfl Tryd.isAgg23 (by first | assumption | omega) rfl | exact ld_row0 (k := 2) cL_len rfl rfl rfl Tryd.isAgg23 (by first | assumption | omega) rfl | exact ld_row (k := 3) cL_len rfl rfl rfl Tryd.isAgg23 (by first | assumption | omega) rfl | exact ld_row0 (k := 3) cL_len rfl rfl rfl Tryd.isAgg23 (by first | assumption | omega) rfl | exact ld_row (k := 4) cL_len rfl rfl rfl Tryd.isAgg23 (by first | assumption | omega) rfl | exact ld_row0 (k := 4) cL_len rfl rfl rfl Tryd.isAgg23 (by first | assumption | omega) rfl | exact ld_i Tryd.isAgg23 rfl | exact ld_tab (List.mem_cons_self) Tryd.isAgg23 (fitsC_off (by omega) (by omega) (by omega) (by omega)) | exact ld_tab (List.mem_cons_of_mem _ List.mem_cons_self) Tryd.isAgg23 (joinsC_off (by omega) (by omega) (by omega) (by omega)))) ?_
              refine OD.still (wants_plain rfl) rfl (still_r1 (mk := fun y => .call { callee := .builtin .len, args := #[y], argTypes := #[23] }) rfl ot (by first | exact len_list rfl Tryd.runUnderlying23 | exact len_row rfl Tryd.runUnderlying23)) ?_
              refine OD.still (wants_plain rfl) rfl (still_r1 (mk := fun y => Op.fieldAddr 25 y 1) rfl ot (by first | exact fa_ptr (off := 1) Tryd.runUnderlying25 rfl Tryd.sizeOf23 rfl | exact fa_iptr (off := 1) Tryd.runUnderlying25 rfl Tryd.sizeOf23 rfl)) ?_
              refine OD.still (wants_plain rfl) rfl (still_r1 (mk := Op.load 23) rfl ot (by first | exact ld_blk (k := 1) rfl rfl Tryd.isAgg23 rfl | exact ld_fm cL_len Tryd.isAgg23 (by first | assumption | omega) rfl | exact ld_fm0 cL_len Tryd.isAgg23 (by first | assumption | omega) rfl | exact ld_row (k := 0) cL_len rfl rfl rfl Tryd.isAgg23 (by first | assumption | omega) rfl | exact ld_row0 (k := 0) cL_len rfl rfl rfl Tryd.isAgg23 (by first | assumption | omega) rfl | exact ld_row (k := 1) cL_len rfl rfl rfl Tryd.isAgg23 (by first | assumption | omega) rfl | exact ld_row0 (k := 1) cL_len rfl rfl rfl Tryd.isAgg23 (by first | assumption | omega) rfl | exact ld_row (k := 2) cL_len rfl rfl rfl Tryd.isAgg23 (by first | assumption | omega) rfl | exact ld_row0 (k := 2) cL_len rfl rfl rfl Tryd.isAgg23 (by first | assumption | omega) rfl | exact ld_row (k := 3) cL_len rfl rfl rfl Tryd.isAgg23 (by first | assumption | omega) rfl | exact ld_row0 (k := 3) cL_len rfl rfl rfl Tryd.isAgg23 (by first | assumption | omega) rfl | exact ld_row (k := 4) cL_len rfl rfl rfl Tryd.isAgg23 (by first | assumption | omega) rfl | exact ld_row0 (k := 4) cL_len rfl rfl rfl Tryd.isAgg23 (by first | assumption | omega) rfl | exact ld_i Tryd.isAgg23 rfl | exact ld_tab (List.mem_cons_self) Tryd.isAgg23 (fitsC_off (by omega) (by omega) (by omega) (by omega)) | exact ld_tab (List.mem_cons_of_mem _ List.mem_cons_self) Tryd.isAgg23 (joinsC_off (by omega) (by omega) (by omega) (by omega)))) ?_
              refine OD.still (wants_plain rfl) rfl (still_r1 (mk := fun y => .call { callee := .builtin .len, args := #[y], argTypes := #[23] }) rfl ot (by first | exact len_list rfl Tryd.runUnderlying23 | exact len_row rfl Tryd.runUnderlying23)) ?_
              refine OD.still (wants_plain rfl) rfl (still_bin rfl ot ot (bin_add (wrap_i64 (by omega) (by omega)))) ?_
              refine OD.still (wants_plain rfl) rfl (still_bin rfl ot opd_const bin_gtr) ?_
              refine OD.wk (Wk.as_ (n := 104) (l' := [(4, _), (9, _), (101, _)]) (S' := (_ :: ⟨b9, 25, 2, [_, _]⟩ :: ⟨b3, 27, 3, [_, _, _]⟩ :: ⟨b4, 25, 2, [_, _]⟩ :: ⟨b2, 25, 2, [_, _]⟩ :: Sh)) rfl rfl ⟨lk, lk, lk, trivial⟩) ?_
              refine OD.nil ?_
              refine CD.cond ot (fun hc7 => ?_) (fun hc7 => ?_)
              · have hc7' := hc7
                (try simp only [decide_eq_true_eq, decide_eq_false_iff_not, beq_iff_eq, bne_iff_ne, Bool.not_eq_true', Bool.not_eq_false', Bool.not_eq_true, Bool.not_eq_false, beq_eq_false_iff_ne, ne_eq, bne_eq_false_iff_eq, Bool.and_eq_true, Bool.or_eq_true, Bool.not_not, Bool.and_eq_false_iff, Bool.or_eq_false_iff, Int.not_lt, Int.not_le] at hc7')
                refine CD.seq ?_
                refine CD.region ?_
                refine OD.still (wants_plain rfl) rfl (still_bld (pl := []) (ds := [_, _]) rfl Tryd.zeroValue25 Tryd.runUnderlying25 places25_Lk5 trivial rfl rfl) ?_
                refine OD.store (k := 3) (cs' := [_, _]) (wants_plain rfl) rfl rfl ot rfl rfl ot rfl rfl Tryd.sizeOf25 rfl rfl rfl ?_
                refine OD.still (wants_plain rfl) rfl (still_as rfl opd_const) ?_
                refine OD.still (wants_plain rfl) rfl (still_as rfl opd_const) ?_
                refine OD.wk (Wk.as_ (n := 104) (l' := [(4, _), (5, _), (6, _)]) (S' := (_ :: ⟨b9, 25, 2, [_, _]⟩ :: ⟨b3, 27, 3, [_, _, _]⟩ :: ⟨b4, 25, 2, [_, _]⟩ :: ⟨b2, 25, 2, [_, _]⟩ :: Sh)) rfl rfl ⟨lk, lk, lk, trivial⟩) ?_
                refine OD.nil ?_
                refine CD.ret ?_
                refine ⟨.inr rfl, _, [], (List.nil_sublist _), ret_three Tryd.results15 (res_cells (k := 3) (ds := [_, _]) (Nat.le_of_ble_eq_true rfl) lk rfl rfl Tryd.isAgg25 Tryd.sizeOf25 rfl rfl) (res_tmp (Nat.le_of_ble_eq_true rfl) lk) (res_tmp (Nat.le_of_ble_eq_true rfl) lk), ?_⟩
                first | (refine ⟨_, _, _, _, _, _, _, _, _, _, ?_, rfl, own_nil, own_nil, List.Perm.refl _⟩; first | exact ask_shape (by simpa using hc1') | exact ask_twice hsx hc2' | ((first | rw [ask_on hsx hc2', askG_none hown] | rw [ask_on hsx hc2', askG_some hown]); (repeat' split) <;> first | rfl | (exfalso; simp_all; done) | (exfalso; simp_all; omega))) | (refine ⟨_, _, _, _, _, _, _, _, _, _, ?_, rfl, hoh, hoq, List.Perm.refl _⟩; first | exact ask_shape (by simpa using hc1') | exact ask_twice hsx hc2' | ((first | rw [ask_on hsx hc2', askG_none hown] | rw [ask_on hsx hc2', askG_some hown]); (repeat' split) <;> first | rfl | (exfalso; simp_all; done) | (exfalso; simp_all; omega))) | (refine ⟨_, _, _, _, _, _, _, _, _, _, ?_, rfl, hoh, hoq, by first | exact List.perm_append_comm (l₁ := [_]) | exact List.perm_append_comm⟩; first | exact ask_shape (by simpa using hc1') | exact ask_twice hsx hc2' | ((first | rw [ask_on hsx hc2', askG_none hown] | rw [ask_on hsx hc2', askG_some hown]); (repeat' split) <;> first | rfl | (exfalso; simp_all; done) | (exfalso; simp_all; omega))) | (refine ⟨_, _, _, _, _, _, _, _, _, _, ?_, rfl, hoh, hoq2, List.Perm.refl _⟩; first | exact ask_shape (by simpa using hc1') | exact ask_twice hsx hc2' | ((first | rw [ask_on hsx hc2', askG_none hown] | rw [ask_on hsx hc2', askG_some hown]); (repeat' split) <;> first | rfl | (exfalso; simp_all; done) | (exfalso; simp_all; omega))) | (refine ⟨_, _, _, _, _, _, _, _, _, _, ?_, rfl, hoh, hoq2, by first | exact List.perm_append_comm (l₁ := [_]) | exact List.perm_append_comm⟩; first | exact ask_shape (by simpa using hc1') | exact ask_twice hsx hc2' | ((first | rw [ask_on hsx hc2', askG_none hown] | rw [ask_on hsx hc2', askG_some hown]); (repeat' split) <;> first | rfl | (exfalso; simp_all; done) | (exfalso; simp_all; omega))) | (refine ⟨_, _, _, _, _, _, _, _, _, _, ?_, rfl, hoh3, hoq3, List.Perm.refl _⟩; first | exact ask_shape (by simpa using hc1') | exact ask_twice hsx hc2' | ((first | rw [ask_on hsx hc2', askG_none hown] | rw [ask_on hsx hc2', askG_some hown]); (repeat' split) <;> first | rfl | (exfalso; simp_all; done) | (exfalso; simp_all; omega))) | skip
              · have hc7' := hc7
                (try simp only [decide_eq_true_eq, decide_eq_false_iff_not, beq_iff_eq, bne_iff_ne, Bool.not_eq_true', Bool.not_eq_false', Bool.not_eq_true, Bool.not_eq_false, beq_eq_false_iff_ne, ne_eq, bne_eq_false_iff_eq, Bool.and_eq_true, Bool.or_eq_true, Bool.not_not, Bool.and_eq_false_iff, Bool.or_eq_false_iff, Int.not_lt, Int.not_le] at hc7')
                refine CD.skip ?_
                refine CD.seq ?_
                refine CD.region ?_
                refine OD.still (wants_plain rfl) rfl (still_r1 (mk := Op.load 25) rfl ot (by first | exact ld_blks (k := 1) (ds := [_, _]) rfl rfl Tryd.isAgg25 Tryd.sizeOf25 rfl rfl | exact ld_fms cL_len Tryd.isAgg25 Tryd.sizeOf25 (by first | assumption | omega) | exact ld_rows (k := 0) cL_len rfl rfl rfl Tryd.isAgg25 Tryd.sizeOf25 (by first | assumption | omega) | exact ld_rows (k := 1) cL_len rfl rfl rfl Tryd.isAgg25 Tryd.sizeOf25 (by first | assumption | omega) | exact ld_rows (k := 2) cL_len rfl rfl rfl Tryd.isAgg25 Tryd.sizeOf25 (by first | assumption | omega) | exact ld_rows (k := 3) cL_len rfl rfl rfl Tryd.isAgg25 Tryd.sizeOf25 (by first | assumption | omega) | exact ld_rows (k := 4) cL_len rfl rfl rfl Tryd.isAgg25 Tryd.sizeOf25 (by first | assumption | omega) | exact ld_is (ds := [_, _]) Tryd.isAgg25 Tryd.sizeOf25 rfl rfl)) ?_
                refine OD.store (k := 3) (cs' := [_, _]) (wants_plain rfl) rfl rfl ot rfl rfl ot rfl rfl Tryd.sizeOf25 rfl rfl rfl ?_
                refine OD.still (wants_plain rfl) rfl (still_as rfl opd_const) ?_
                refine OD.still (wants_plain rfl) rfl (still_as rfl opd_const) ?_
                refine OD.wk (Wk.as_ (n := 104) (l' := [(4, _), (5, _), (6, _)]) (S' := (_ :: ⟨b9, 25, 2, [_, _]⟩ :: ⟨b3, 27, 3, [_, _, _]⟩ :: ⟨b4, 25, 2, [_, _]⟩ :: ⟨b2, 25, 2, [_, _]⟩ :: Sh)) rfl rfl ⟨lk, lk, lk, trivial⟩) ?_
                refine OD.nil ?_
                refine CD.ret ?_
                refine ⟨.inr rfl, _, _, (.cons_cons _ (.cons _ (.cons _ (.cons _ (.cons _ (.refl _)))))), ret_three Tryd.results15 (res_cells (k := 3) (ds := [_, _]) (Nat.le_of_ble_eq_true rfl) lk rfl rfl Tryd.isAgg25 Tryd.sizeOf25 rfl rfl) (res_tmp (Nat.le_of_ble_eq_true rfl) lk) (res_tmp (Nat.le_of_ble_eq_true rfl) lk), ?_⟩
                first | (refine ⟨_, _, _, _, _, _, _, _, _, _, ?_, rfl, own_nil, own_nil, List.Perm.refl _⟩; first | exact ask_shape (by simpa using hc1') | exact ask_twice hsx hc2' | ((first | rw [ask_on hsx hc2', askG_none hown] | rw [ask_on hsx hc2', askG_some hown]); (repeat' split) <;> first | rfl | (exfalso; simp_all; done) | (exfalso; simp_all; omega))) | (refine ⟨_, _, _, _, _, _, _, _, _, _, ?_, rfl, hoh, hoq, List.Perm.refl _⟩; first | exact ask_shape (by simpa using hc1') | exact ask_twice hsx hc2' | ((first | rw [ask_on hsx hc2', askG_none hown] | rw [ask_on hsx hc2', askG_some hown]); (repeat' split) <;> first | rfl | (exfalso; simp_all; done) | (exfalso; simp_all; omega))) | (refine ⟨_, _, _, _, _, _, _, _, _, _, ?_, rfl, hoh, hoq, by first | exact List.perm_append_comm (l₁ := [_]) | exact List.perm_append_comm⟩; first | exact ask_shape (by simpa using hc1') | exact ask_twice hsx hc2' | ((first | rw [ask_on hsx hc2', askG_none hown] | rw [ask_on hsx hc2', askG_some hown]); (repeat' split) <;> first | rfl | (exfalso; simp_all; done) | (exfalso; simp_all; omega))) | (refine ⟨_, _, _, _, _, _, _, _, _, _, ?_, rfl, hoh, hoq2, List.Perm.refl _⟩; first | exact ask_shape (by simpa using hc1') | exact ask_twice hsx hc2' | ((first | rw [ask_on hsx hc2', askG_none hown] | rw [ask_on hsx hc2', askG_some hown]); (repeat' split) <;> first | rfl | (exfalso; simp_all; done) | (exfalso; simp_all; omega))) | (refine ⟨_, _, _, _, _, _, _, _, _, _, ?_, rfl, hoh, hoq2, by first | exact List.perm_append_comm (l₁ := [_]) | exact List.perm_append_comm⟩; first | exact ask_shape (by simpa using hc1') | exact ask_twice hsx hc2' | ((first | rw [ask_on hsx hc2', askG_none hown] | rw [ask_on hsx hc2', askG_some hown]); (repeat' split) <;> first | rfl | (exfalso; simp_all; done) | (exfalso; simp_all; omega))) | (refine ⟨_, _, _, _, _, _, _, _, _, _, ?_, rfl, hoh3, hoq3, List.Perm.refl _⟩; first | exact ask_shape (by simpa using hc1') | exact ask_twice hsx hc2' | ((first | rw [ask_on hsx hc2', askG_none hown] | rw [ask_on hsx hc2', askG_some hown]); (repeat' split) <;> first | rfl | (exfalso; simp_all; done) | (exfalso; simp_all; omega))) | skip
        · skip
          refine OD.look (wants_plain rfl) rfl rfl rfl Tryd.call29 (find_vp _ held _ _ (by omega)) rfl ⟨⟨_, ot, view_own hoh (cells_len _) (fun B hB => by simp [hB, St.put])⟩, ⟨_, ot, view_same⟩, ⟨_, ot, view_same⟩, trivial⟩ ?_
          obtain ⟨j, hj, hj1, hj2, hj3⟩ := idxI_nn hfi
          have hown := own_some hj hj2
          have hjm := modeB_bd (g.mode _ (List.getElem_mem hj))
          rw [show findI held x.t x.th = (j : Nat) from hj1]
          rcases hoh with ⟨h0, _⟩ | ⟨bh, rfl, hh1, hh2, rfl⟩
          · omega
          have hoh : OwnK held (some ⟨bh, 0, none⟩) ch [⟨bh, 27, ch * 3, held.flatMap cL⟩] := .inr ⟨bh, rfl, hh1, hh2, rfl⟩
          have hx1 : modeB (joinsF held[j].m x.m) = true := join_mode (g.mode _ (List.getElem_mem hj)) hxm
          refine OD.still (wants_plain rfl) rfl (still_as rfl ot) ?_
          refine OD.wk (Wk.as_ (n := 104) (l' := [(3, _), (4, _), (9, _), (10, _)]) (S' := (⟨b9, 25, 2, [_, _]⟩ :: ⟨b3, 27, 3, [_, _, _]⟩ :: ⟨b4, 25, 2, [_, _]⟩ :: ⟨b2, 25, 2, [_, _]⟩ :: _ :: Sq)) rfl rfl ⟨lk, lk, lk, lk, trivial⟩) ?_
          refine OD.nil ?_
          refine CD.seq ?_
          refine CD.seq ?_
          refine CD.region ?_
          refine OD.still (wants_plain rfl) rfl (still_mv rfl ot) ?_
          refine OD.still (wants_plain rfl) rfl (still_bin rfl ot opd_const bin_geq) ?_
          refine OD.wk (Wk.as_ (n := 104) (l' := [(3, _), (4, _), (9, _), (10, _), (38, _)]) (S' := (⟨b9, 25, 2, [_, _]⟩ :: ⟨b3, 27, 3, [_, _, _]⟩ :: ⟨b4, 25, 2, [_, _]⟩ :: ⟨b2, 25, 2, [_, _]⟩ :: _ :: Sq)) rfl rfl ⟨lk, lk, lk, lk, lk, trivial⟩) ?_
          refine OD.nil ?_
          refine CD.cond ot (fun hc3 => ?_) (fun hc3 => ?_)
          · have hc3' := hc3
            (try simp only [decide_eq_true_eq, decide_eq_false_iff_not, beq_iff_eq, bne_iff_ne, Bool.not_eq_true', Bool.not_eq_false', Bool.not_eq_true, Bool.not_eq_false, beq_eq_false_iff_ne, ne_eq, bne_eq_false_iff_eq, Bool.and_eq_true, Bool.or_eq_true, Bool.not_not, Bool.and_eq_false_iff, Bool.or_eq_false_iff, Int.not_lt, Int.not_le] at hc3')
            refine CD.seq ?_
            refine CD.draw (bks (List.eraseIdx _ 1)) (by kernel_rfl) (fun _ h => (List.Sublist.map _ (List.eraseIdx_sublist _ 1)).subset h) ?_
            refine AD0.take (i := 0) rfl (by kernel_rfl) (by kernel_rfl) (by kernel_rfl) (by repeat (first | exact NP.body | apply NP.then | apply NP.cut | apply NP.inBlock | apply NP.round)) (wants_plain rfl) rfl (still_r1 (mk := fun y => Op.fieldAddr 25 y 0) rfl ot (by first | exact fa_ptr (off := 0) Tryd.runUnderlying25 rfl Tryd.sizeOf23 rfl | exact fa_iptr (off := 0) Tryd.runUnderlying25 rfl Tryd.sizeOf23 rfl)) (by exact trivial) ?_
            refine AD0.take (i := 1) rfl (by kernel_rfl) (by kernel_rfl) (by kernel_rfl) (by repeat (first | exact NP.body | apply NP.then | apply NP.cut | apply NP.inBlock | apply NP.round)) (wants_plain rfl) rfl (still_r1 (mk := Op.load 23) rfl ot (by first | exact ld_blk (k := 0) rfl rfl Tryd.isAgg23 rfl | exact ld_fm cL_len Tryd.isAgg23 (by first | assumption | omega) rfl | exact ld_fm0 cL_len Tryd.isAgg23 (by first | assumption | omega) rfl | exact ld_row (k := 0) cL_len rfl rfl rfl Tryd.isAgg23 (by first | assumption | omega) rfl | exact ld_row0 (k := 0) cL_len rfl rfl rfl Tryd.isAgg23 (by first | assumption | omega) rfl | exact ld_row (k := 1) cL_len rfl rfl rfl Tryd.isAgg23 (by first | assumption | omega) rfl | exact ld_row0 (k := 1) cL_len rfl rfl rfl Tryd.isAgg23 (by first | assumption | omega) rfl | exact ld_row (k := 2) cL_len rfl rfl rfl Tryd.isAgg23 (by first | assumption | omega) rfl | exact ld_row0 (k := 2) cL_len rfl rfl rfl Tryd.isAgg23 (by first | assumption | omega) rfl | exact ld_row (k := 3) cL_len rfl rfl rfl Tryd.isAgg23 (by first | assumption | omega) rfl | exact ld_row0 (k := 3) cL_len rfl rfl rfl Tryd.isAgg23 (by first | assumption | omega) rfl | exact ld_row (k := 4) cL_len rfl rfl rfl Tryd.isAgg23 (by first | assumption | omega) rfl | exact ld_row0 (k := 4) cL_len rfl rfl rfl Tryd.isAgg23 (by first | assumption | omega) rfl | exact ld_i Tryd.isAgg23 rfl | exact ld_tab (List.mem_cons_self) Tryd.isAgg23 (fitsC_off (by omega) (by omega) (by omega) (by omega)) | exact ld_tab (List.mem_cons_of_mem _ List.mem_cons_self) Tryd.isAgg23 (joinsC_off (by omega) (by omega) (by omega) (by omega)))) (by first | exact trivial | exact safe_blk (k0 := 0) rfl rfl | exact safe_blk (k0 := 1) rfl rfl | exact safe_blk (k0 := 2) rfl rfl | exact safe_blk (k0 := 3) rfl rfl) ?_
            refine AD0.take (i := 2) rfl (by kernel_rfl) (by kernel_rfl) (by kernel_rfl) (by repeat (first | exact NP.body | apply NP.then | apply NP.cut | apply NP.inBlock | apply NP.round)) (wants_plain rfl) rfl (still_mv rfl ot) (by exact trivial) ?_
            refine AD0.take (i := 3) rfl (by kernel_rfl) (by kernel_rfl) (by kernel_rfl) (by repeat (first | exact NP.body | apply NP.then | apply NP.cut | apply NP.inBlock | apply NP.round)) (wants_plain rfl) rfl (still_r2 (mk := Op.indexAddr 23) rfl ot ot (by first | exact ix_list Tryd.runUnderlying23 Tryd.sizeOf27 rfl (by first | assumption | omega) | exact ix_list (j := Int.toNat _) Tryd.runUnderlying23 Tryd.sizeOf27 (Int.toNat_of_nonneg (by omega)).symm (by omega) | exact ix_row Tryd.runUnderlying23 Tryd.sizeOf27 rfl (by first | assumption | omega) | exact ix_row (j := Int.toNat _) Tryd.runUnderlying23 Tryd.sizeOf27 (Int.toNat_of_nonneg (by omega)).symm (by omega))) (by exact trivial) ?_
            refine AD0.take (i := 4) rfl (by kernel_rfl) (by kernel_rfl) (by kernel_rfl) (by repeat (first | exact NP.body | apply NP.then | apply NP.cut | apply NP.inBlock | apply NP.round)) (wants_plain rfl) rfl (still_r1 (mk := fun y => Op.fieldAddr 27 y 2) rfl ot (by first | exact fa_ptr (off := 2) Tryd.runUnderlying27 rfl Tryd.sizeOf3 rfl | exact fa_iptr (off := 2) Tryd.runUnderlying27 rfl Tryd.sizeOf3 rfl)) (by exact trivial) ?_
            refine AD0.take (i := 5) rfl (by kernel_rfl) (by kernel_rfl) (by kernel_rfl) (by repeat (first | exact NP.body | apply NP.then | apply NP.cut | apply NP.inBlock | apply NP.round)) (wants_plain rfl) rfl (still_r1 (mk := Op.load 3) rfl ot (by first | exact ld_blk (k := 0) rfl rfl Tryd.isAgg3 rfl | exact ld_blk (k := 1) rfl rfl Tryd.isAgg3 rfl | exact ld_blk (k := 2) rfl rfl Tryd.isAgg3 rfl | exact ld_blk (k := 3) rfl rfl Tryd.isAgg3 rfl | exact ld_fm cL_len Tryd.isAgg3 (by first | assumption | omega) rfl | exact ld_fm0 cL_len Tryd.isAgg3 (by first | assumption | omega) rfl | exact ld_row (k := 0) cL_len rfl rfl rfl Tryd.isAgg3 (by first | assumption | omega) rfl | exact ld_row0 (k := 0) cL_len rfl rfl rfl Tryd.isAgg3 (by first | assumption | omega) rfl | exact ld_row (k := 1) cL_len rfl rfl rfl Tryd.isAgg3 (by first | assumption | omega) rfl | exact ld_row0 (k := 1) cL_len rfl rfl rfl Tryd.isAgg3 (by first | assumption | omega) rfl | exact ld_row (k := 2) cL_len rfl rfl rfl Tryd.isAgg3 (by first | assumption | omega) rfl | exact ld_row0 (k := 2) cL_len rfl rfl rfl Tryd.isAgg3 (by first | assumption | omega) rfl | exact ld_row (k := 3) cL_len rfl rfl rfl Tryd.isAgg3 (by first | assumption | omega) rfl | exact ld_row0 (k := 3) cL_len rfl rfl rfl Tryd.isAgg3 (by first | assumption | omega) rfl | exact ld_row (k := 4) cL_len rfl rfl rfl Tryd.isAgg3 (by first | assumption | omega) rfl | exact ld_row0 (k := 4) cL_len rfl rfl rfl Tryd.isAgg3 (by first | assumption | omega) rfl | exact ld_i Tryd.isAgg3 rfl | exact ld_tab (List.mem_cons_self) Tryd.isAgg3 (fitsC_off (by omega) (by omega) (by omega) (by omega)) | exact ld_tab (List.mem_cons_of_mem _ List.mem_cons_self) Tryd.isAgg3 (joinsC_off (by omega) (by omega) (by omega) (by omega)))) (by first | exact trivial | exact safe_blk (k0 := 0) rfl rfl | exact safe_blk (k0 := 1) rfl rfl | exact safe_blk (k0 := 2) rfl rfl | exact safe_blk (k0 := 3) rfl rfl) ?_
            refine AD0.take (i := 6) rfl (by kernel_rfl) (by kernel_rfl) (by kernel_rfl) (by repeat (first | exact NP.body | apply NP.then | apply NP.cut | apply NP.inBlock | apply NP.round)) (wants_plain rfl) rfl (still_r1 (mk := fun y => Op.fieldAddr 27 y 2) rfl ot (by first | exact fa_ptr (off := 2) Tryd.runUnderlying27 rfl Tryd.sizeOf3 rfl | exact fa_iptr (off := 2) Tryd.runUnderlying27 rfl Tryd.sizeOf3 rfl)) (by exact trivial) ?_
            refine AD0.take (i := 8) rfl (by kernel_rfl) (by kernel_rfl) (by kernel_rfl) (by repeat (first | exact NP.body | apply NP.then | apply NP.cut | apply NP.inBlock | apply NP.round)) (wants_plain rfl) rfl (still_r2 (mk := Op.indexAddr 60) rfl opd_glob ot (by first | exact ix_arr Tryd.runUnderlying60 Tryd.sizeOf59 rfl (by first | assumption | omega) | exact ix_arr (j := Int.toNat _) Tryd.runUnderlying60 Tryd.sizeOf59 (Int.toNat_of_nonneg (by omega)).symm (by omega))) (by exact trivial) ?_
            refine AD0.later rfl ?_
            refine AD.one (i := 7) (by kernel_rfl) ?_
            refine AStep.still rfl (wants_plain rfl) rfl (still_r1 (mk := Op.load 3) rfl ot (by first | exact ld_blk (k := 1) rfl rfl Tryd.isAgg3 rfl | exact ld_fm cL_len Tryd.isAgg3 (by first | assumption | omega) rfl | exact ld_fm0 cL_len Tryd.isAgg3 (by first | assumption | omega) rfl | exact ld_row (k := 0) cL_len rfl rfl rfl Tryd.isAgg3 (by first | assumption | omega) rfl | exact ld_row0 (k := 0) cL_len rfl rfl rfl Tryd.isAgg3 (by first | assumption | omega) rfl | exact ld_row (k := 1) cL_len rfl rfl rfl Tryd.isAgg3 (by first | assumption | omega) rfl | exact ld_row0 (k := 1) cL_len rfl rfl rfl Tryd.isAgg3 (by first | assumption | omega) rfl | exact ld_row (k := 2) cL_len rfl rfl rfl Tryd.isAgg3 (by first | assumption | omega) rfl | exact ld_row0 (k := 2) cL_len rfl rfl rfl Tryd.isAgg3 (by first | assumption | omega) rfl | exact ld_row (k := 3) cL_len rfl rfl rfl Tryd.isAgg3 (by first | assumption | omega) rfl | exact ld_row0 (k := 3) cL_len rfl rfl rfl Tryd.isAgg3 (by first | assumption | omega) rfl | exact ld_row (k := 4) cL_len rfl rfl rfl Tryd.isAgg3 (by first | assumption | omega) rfl | exact ld_row0 (k := 4) cL_len rfl rfl rfl Tryd.isAgg3 (by first | assumption | omega) rfl | exact ld_i Tryd.isAgg3 rfl | exact ld_tab (List.mem_cons_self) Tryd.isAgg3 (fitsC_off (by omega) (by omega) (by omega) (by omega)) | exact ld_tab (List.mem_cons_of_mem _ List.mem_cons_self) Tryd.isAgg3 (joinsC_off (by omega) (by omega) (by omega) (by omega)))) ?_
            refine AD.take (i := 9) rfl (by kernel_rfl) (by kernel_rfl) (by kernel_rfl) (by repeat (first | exact NP.body | apply NP.then | apply NP.cut | apply NP.inBlock | apply NP.round)) (wants_plain rfl) rfl (still_r2 (mk := Op.indexAddr 59) rfl ot ot (by first | exact ix_arr Tryd.runUnderlying59 Tryd.sizeOf3 rfl (by first | assumption | omega) | exact ix_arr (j := Int.toNat _) Tryd.runUnderlying59 Tryd.sizeOf3 (Int.toNat_of_nonneg (by omega)).symm (by omega))) (by exact trivial) (by intro h; cases h) ?_
            refine AD.one (i := 10) (by kernel_rfl) ?_
            refine AStep.still rfl (wants_plain rfl) rfl (still_r1 (mk := Op.load 3) rfl ot (by first | exact ld_blk (k := 0) rfl rfl Tryd.isAgg3 rfl | exact ld_blk (k := 1) rfl rfl Tryd.isAgg3 rfl | exact ld_blk (k := 2) rfl rfl Tryd.isAgg3 rfl | exact ld_blk (k := 3) rfl rfl Tryd.isAgg3 rfl | exact ld_fm cL_len Tryd.isAgg3 (by first | assumption | omega) rfl | exact ld_fm0 cL_len Tryd.isAgg3 (by first | assumption | omega) rfl | exact ld_row (k := 0) cL_len rfl rfl rfl Tryd.isAgg3 (by first | assumption | omega) rfl | exact ld_row0 (k := 0) cL_len rfl rfl rfl Tryd.isAgg3 (by first | assumption | omega) rfl | exact ld_row (k := 1) cL_len rfl rfl rfl Tryd.isAgg3 (by first | assumption | omega) rfl | exact ld_row0 (k := 1) cL_len rfl rfl rfl Tryd.isAgg3 (by first | assumption | omega) rfl | exact ld_row (k := 2) cL_len rfl rfl rfl Tryd.isAgg3 (by first | assumption | omega) rfl | exact ld_row0 (k := 2) cL_len rfl rfl rfl Tryd.isAgg3 (by first | assumption | omega) rfl | exact ld_row (k := 3) cL_len rfl rfl rfl Tryd.isAgg3 (by first | assumption | omega) rfl | exact ld_row0 (k := 3) cL_len rfl rfl rfl Tryd.isAgg3 (by first | assumption | omega) rfl | exact ld_row (k := 4) cL_len rfl rfl rfl Tryd.isAgg3 (by first | assumption | omega) rfl | exact ld_row0 (k := 4) cL_len rfl rfl rfl Tryd.isAgg3 (by first | assumption | omega) rfl | exact ld_i Tryd.isAgg3 rfl | exact ld_tab (List.mem_cons_self) Tryd.isAgg3 (fitsC_off (by omega) (by omega) (by omega) (by omega)) | exact ld_tab (List.mem_cons_of_mem _ List.mem_cons_self) Tryd.isAgg3 (joinsC_off (by omega) (by omega) (by omega) (by omega)))) ?_
            refine AD.take (i := 11) rfl (by kernel_rfl) (by kernel_rfl) (by kernel_rfl) (by repeat (first | exact NP.body | apply NP.then | apply NP.cut | apply NP.inBlock | apply NP.round)) (wants_plain rfl) rfl (still_r1 (mk := fun y => Op.fieldAddr 27 y 2) rfl ot (by first | exact fa_ptr (off := 2) Tryd.runUnderlying27 rfl Tryd.sizeOf3 rfl | exact fa_iptr (off := 2) Tryd.runUnderlying27 rfl Tryd.sizeOf3 rfl)) (by exact trivial) (by intro h; cases h) ?_
            refine AD.one (i := 12) (by kernel_rfl) ?_
            refine AStep.store (k := 1) (cs' := [_, _, _]) rfl (wants_plain rfl) rfl rfl ot rfl rfl ot rfl rfl Tryd.sizeOf3 rfl rfl rfl (by intro b hb; simp [bks, St.put] at hb ⊢; try first | exact hb | simp [hb] | (rcases hb with hb | hb <;> simp [hb]) | (rcases hb with hb | hb | hb <;> simp [hb])) ?_
            refine AD.wk (y := ⟨104, [(3, _), (4, _), (9, _), (10, _)], (⟨b9, 25, 2, [_, _]⟩ :: ⟨b3, 27, 3, [_, _, _]⟩ :: ⟨b4, 25, 2, [_, _]⟩ :: ⟨b2, 25, 2, [_, _]⟩ :: _ :: Sq)⟩) (Wk.as_ rfl rfl ⟨lk, lk, lk, lk, trivial⟩) rfl ?_
            refine AD.done (by kernel_rfl) ?_
            refine CD.seq ?_
            refine CD.draw (bks _) (by kernel_rfl) (fun _ h => h) ?_
            refine AD0.take (i := 0) rfl (by kernel_rfl) (by kernel_rfl) (by kernel_rfl) (by repeat (first | exact NP.body | apply NP.then | apply NP.cut | apply NP.inBlock | apply NP.round)) (wants_plain rfl) rfl (still_r1 (mk := fun y => Op.fieldAddr 27 y 2) rfl ot (by first | exact fa_ptr (off := 2) Tryd.runUnderlying27 rfl Tryd.sizeOf3 rfl | exact fa_iptr (off := 2) Tryd.runUnderlying27 rfl Tryd.sizeOf3 rfl)) (by exact trivial) ?_
            refine AD0.take (i := 1) rfl (by kernel_rfl) (by kernel_rfl) (by kernel_rfl) (by repeat (first | exact NP.body | apply NP.then | apply NP.cut | apply NP.inBlock | apply NP.round)) (wants_plain rfl) rfl (still_r1 (mk := Op.load 3) rfl ot (by first | exact ld_blk (k := 1) rfl rfl Tryd.isAgg3 rfl | exact ld_fm cL_len Tryd.isAgg3 (by first | assumption | omega) rfl | exact ld_fm0 cL_len Tryd.isAgg3 (by first | assumption | omega) rfl | exact ld_row (k := 0) cL_len rfl rfl rfl Tryd.isAgg3 (by first | assumption | omega) rfl | exact ld_row0 (k := 0) cL_len rfl rfl rfl Tryd.isAgg3 (by first | assumption | omega) rfl | exact ld_row (k := 1) cL_len rfl rfl rfl Tryd.isAgg3 (by first | assumption | omega) rfl | exact ld_row0 (k := 1) cL_len rfl rfl rfl Tryd.isAgg3 (by first | assumption | omega) rfl | exact ld_row (k := 2) cL_len rfl rfl rfl Tryd.isAgg3 (by first | assumption | omega) rfl | exact ld_row0 (k := 2) cL_len rfl rfl rfl Tryd.isAgg3 (by first | assumption | omega) rfl | exact ld_row (k := 3) cL_len rfl rfl rfl Tryd.isAgg3 (by first | assumption | omega) rfl | exact ld_row0 (k := 3) cL_len rfl rfl rfl Tryd.isAgg3 (by first | assumption | omega) rfl | exact ld_row (k := 4) cL_len rfl rfl rfl Tryd.isAgg3 (by first | assumption | omega) rfl | exact ld_row0 (k := 4) cL_len rfl rfl rfl Tryd.isAgg3 (by first | assumption | omega) rfl | exact ld_i Tryd.isAgg3 rfl | exact ld_tab (List.mem_cons_self) Tryd.isAgg3 (fitsC_off (by omega) (by omega) (by omega) (by omega)) | exact ld_tab (List.mem_cons_of_mem _ List.mem_cons_self) Tryd.isAgg3 (joinsC_off (by omega) (by omega) (by omega) (by omega)))) (by first | exact trivial | exact safe_blk (k0 := 0) rfl rfl | exact safe_blk (k0 := 1) rfl rfl | exact safe_blk (k0 := 2) rfl rfl | exact safe_blk (k0 := 3) rfl rfl | exact safe_blk (k0 := 4) rfl rfl) ?_
            refine AD0.take (i := 2) rfl (by kernel_rfl) (by kernel_rfl) (by kernel_rfl) (by repeat (first | exact NP.body | apply NP.then | apply NP.cut | apply NP.inBlock | apply NP.round)) (wants_plain rfl) rfl (still_r1 (mk := fun y => Op.fieldAddr 25 y 0) rfl ot (by first | exact fa_ptr (off := 0) Tryd.runUnderlying25 rfl Tryd.sizeOf23 rfl | exact fa_iptr (off := 0) Tryd.runUnderlying25 rfl Tryd.sizeOf23 rfl)) (by exact trivial) ?_
            refine AD0.take (i := 3) rfl (by kernel_rfl) (by kernel_rfl) (by kernel_rfl) (by repeat (first | exact NP.body | apply NP.then | apply NP.cut | apply NP.inBlock | apply NP.round)) (wants_plain rfl) rfl (still_r1 (mk := Op.load 23) rfl ot (by first | exact ld_blk (k := 0) rfl rfl Tryd.isAgg23 rfl | exact ld_fm cL_len Tryd.isAgg23 (by first | assumption | omega) rfl | exact ld_fm0 cL_len Tryd.isAgg23 (by first | assumption | omega) rfl | exact ld_row (k := 0) cL_len rfl rfl rfl Tryd.isAgg23 (by first | assumption | omega) rfl | exact ld_row0 (k := 0) cL_len rfl rfl rfl Tryd.isAgg23 (by first | assumption | omega) rfl | exact ld_row (k := 1) cL_len rfl rfl rfl Tryd.isAgg23 (by first | assumption | omega) rfl | exact ld_row0 (k := 1) cL_len rfl rfl rfl Tryd.isAgg23 (by first | assumption | omega) rfl | exact ld_row (k := 2) cL_len rfl rfl rfl Tryd.isAgg23 (by first | assumption | omega) rfl | exact ld_row0 (k := 2) cL_len rfl rfl rfl Tryd.isAgg23 (by first | assumption | omega) rfl | exact ld_row (k := 3) cL_len rfl rfl rfl Tryd.isAgg23 (by first | assumption | omega) rfl | exact ld_row0 (k := 3) cL_len rfl rfl rfl Tryd.isAgg23 (by first | assumption | omega) rfl | exact ld_row (k := 4) cL_len rfl rfl rfl Tryd.isAgg23 (by first | assumption | omega) rfl | exact ld_row0 (k := 4) cL_len rfl rfl rfl Tryd.isAgg23 (by first | assumption | omega) rfl | exact ld_i Tryd.isAgg23 rfl | exact ld_tab (List.mem_cons_self) Tryd.isAgg23 (fitsC_off (by omega) (by omega) (by omega) (by omega)) | exact ld_tab (List.mem_cons_of_mem _ List.mem_cons_self) Tryd.isAgg23 (joinsC_off (by omega) (by omega) (by omega) (by omega)))) (by first | exact trivial | exact safe_blk (k0 := 0) rfl rfl | exact safe_blk (k0 := 1) rfl rfl | exact safe_blk (k0 := 2) rfl rfl | exact safe_blk (k0 := 3) rfl rfl | exact safe_blk (k0 := 4) rfl rfl) ?_
            refine AD0.take (i := 4) rfl (by kernel_rfl) (by kernel_rfl) (by kernel_rfl) (by repeat (first | exact NP.body | apply NP.then | apply NP.cut | apply NP.inBlock | apply NP.round)) (wants_plain rfl) rfl (still_mv rfl ot) (by exact trivial) ?_
            refine AD0.take (i := 5) rfl (by kernel_rfl) (by kernel_rfl) (by kernel_rfl) (by repeat (first | exact NP.body | apply NP.then | apply NP.cut | apply NP.inBlock | apply NP.round)) (wants_plain rfl) rfl (still_r2 (mk := Op.indexAddr 23) rfl ot ot (by first | exact ix_list Tryd.runUnderlying23 Tryd.sizeOf27 rfl (by first | assumption | omega) | exact ix_list (j := Int.toNat _) Tryd.runUnderlying23 Tryd.sizeOf27 (Int.toNat_of_nonneg (by omega)).symm (by omega) | exact ix_row Tryd.runUnderlying23 Tryd.sizeOf27 rfl (by first | assumption | omega) | exact ix_row (j := Int.toNat _) Tryd.runUnderlying23 Tryd.sizeOf27 (Int.toNat_of_nonneg (by omega)).symm (by omega))) (by exact trivial) ?_
            refine AD0.take (i := 6) rfl (by kernel_rfl) (by kernel_rfl) (by kernel_rfl) (by repeat (first | exact NP.body | apply NP.then | apply NP.cut | apply NP.inBlock | apply NP.round)) (wants_plain rfl) rfl (still_r1 (mk := fun y => Op.fieldAddr 27 y 2) rfl ot (by first | exact fa_ptr (off := 2) Tryd.runUnderlying27 rfl Tryd.sizeOf3 rfl | exact fa_iptr (off := 2) Tryd.runUnderlying27 rfl Tryd.sizeOf3 rfl)) (by exact trivial) ?_
            refine AD0.take (i := 7) rfl (by kernel_rfl) (by kernel_rfl) (by kernel_rfl) (by repeat (first | exact NP.body | apply NP.then | apply NP.cut | apply NP.inBlock | apply NP.round)) (wants_plain rfl) rfl (still_r1 (mk := Op.load 3) rfl ot (by first | exact ld_blk (k := 0) rfl rfl Tryd.isAgg3 rfl | exact ld_blk (k := 1) rfl rfl Tryd.isAgg3 rfl | exact ld_blk (k := 2) rfl rfl Tryd.isAgg3 rfl | exact ld_blk (k := 3) rfl rfl Tryd.isAgg3 rfl | exact ld_fm cL_len Tryd.isAgg3 (by first | assumption | omega) rfl | exact ld_fm0 cL_len Tryd.isAgg3 (by first | assumption | omega) rfl | exact ld_row (k := 0) cL_len rfl rfl rfl Tryd.isAgg3 (by first | assumption | omega) rfl | exact ld_row0 (k := 0) cL_len rfl rfl rfl Tryd.isAgg3 (by first | assumption | omega) rfl | exact ld_row (k := 1) cL_len rfl rfl rfl Tryd.isAgg3 (by first | assumption | omega) rfl | exact ld_row0 (k := 1) cL_len rfl rfl rfl Tryd.isAgg3 (by first | assumption | omega) rfl | exact ld_row (k := 2) cL_len rfl rfl rfl Tryd.isAgg3 (by first | assumption | omega) rfl | exact ld_row0 (k := 2) cL_len rfl rfl rfl Tryd.isAgg3 (by first | assumption | omega) rfl | exact ld_row (k := 3) cL_len rfl rfl rfl Tryd.isAgg3 (by first | assumption | omega) rfl | exact ld_row0 (k := 3) cL_len rfl rfl rfl Tryd.isAgg3 (by first | assumption | omega) rfl | exact ld_row (k := 4) cL_len rfl rfl rfl Tryd.isAgg3 (by first | assumption | omega) rfl | exact ld_row0 (k := 4) cL_len rfl rfl rfl Tryd.isAgg3 (by first | assumption | omega) rfl | exact ld_i Tryd.isAgg3 rfl | exact ld_tab (List.mem_cons_self) Tryd.isAgg3 (fitsC_off (by omega) (by omega) (by omega) (by omega)) | exact ld_tab (List.mem_cons_of_mem _ List.mem_cons_self) Tryd.isAgg3 (joinsC_off (by omega) (by omega) (by omega) (by omega)))) (by first | exact trivial | exact safe_blk (k0 := 0) rfl rfl | exact safe_blk (k0 := 1) rfl rfl | exact safe_blk (k0 := 2) rfl rfl | exact safe_blk (k0 := 3) rfl rfl | exact safe_blk (k0 := 4) rfl rfl) ?_
            refine AD0.take (i := 8) rfl (by kernel_rfl) (by kernel_rfl) (by kernel_rfl) (by repeat (first | exact NP.body | apply NP.then | apply NP.cut | apply NP.inBlock | apply NP.round)) (wants_plain rfl) rfl (still_bin rfl ot ot bin_eql) (by exact trivial) ?_
            refine AD0.later rfl ?_
            refine AD.wk (y := ⟨104, [(3, _), (4, _), (9, _), (59, _)], (⟨b9, 25, 2, [_, _]⟩ :: ⟨b3, 27, 3, [_, _, _]⟩ :: ⟨b4, 25, 2, [_, _]⟩ :: ⟨b2, 25, 2, [_, _]⟩ :: _ :: Sq)⟩) (Wk.as_ rfl rfl ⟨lk, lk, lk, lk, trivial⟩) rfl ?_
            refine AD.done (by kernel_rfl) ?_
            refine CD.cond ot (fun hc4 => ?_) (fun hc4 => ?_)
            · have hc4' := hc4
              (try simp only [decide_eq_true_eq, decide_eq_false_iff_not, beq_iff_eq, bne_iff_ne, Bool.not_eq_true', Bool.not_eq_false', Bool.not_eq_true, Bool.not_eq_false, beq_eq_false_iff_ne, ne_eq, bne_eq_false_iff_eq, Bool.and_eq_true, Bool.or_eq_true, Bool.not_not, Bool.and_eq_false_iff, Bool.or_eq_false_iff, Int.not_lt, Int.not_le] at hc4')
              refine CD.seq ?_
              refine CD.region ?_
              refine OD.still (wants_plain rfl) rfl (still_r1 (mk := Op.load 25) rfl ot (by first | exact ld_blks (k := 0) (ds := [_, _]) rfl rfl Tryd.isAgg25 Tryd.sizeOf25 rfl rfl | exact ld_fms cL_len Tryd.isAgg25 Tryd.sizeOf25 (by first | assumption | omega) | exact ld_rows (k := 0) cL_len rfl rfl rfl Tryd.isAgg25 Tryd.sizeOf25 (by first | assumption | omega) | exact ld_rows (k := 1) cL_len rfl rfl rfl Tryd.isAgg25 Tryd.sizeOf25 (by first | assumption | omega) | exact ld_rows (k := 2) cL_len rfl rfl rfl Tryd.isAgg25 Tryd.sizeOf25 (by first | assumption | omega) | exact ld_rows (k := 3) cL_len rfl rfl rfl Tryd.isAgg25 Tryd.sizeOf25 (by first | assumption | omega) | exact ld_rows (k := 4) cL_len rfl rfl rfl Tryd.isAgg25 Tryd.sizeOf25 (by first | assumption | omega) | exact ld_is (ds := [_, _]) Tryd.isAgg25 Tryd.sizeOf25 rfl rfl)) ?_
              refine OD.store (k := 2) (cs' := [_, _]) (wants_plain rfl) rfl rfl ot rfl rfl ot rfl rfl Tryd.sizeOf25 rfl rfl rfl ?_
              refine OD.still (wants_plain rfl) rfl (still_as rfl opd_const) ?_
              refine OD.still (wants_plain rfl) rfl (still_as rfl opd_const) ?_
              refine OD.wk (Wk.as_ (n := 104) (l' := [(4, _), (5, _), (6, _)]) (S' := (⟨b9, 25, 2, [_, _]⟩ :: ⟨b3, 27, 3, [_, _, _]⟩ :: ⟨b4, 25, 2, [_, _]⟩ :: ⟨b2, 25, 2, [_, _]⟩ :: _ :: Sq)) rfl rfl ⟨lk, lk, lk, trivial⟩) ?_
              refine OD.nil ?_
              refine CD.ret ?_
              refine ⟨.inr rfl, _, _, (.cons _ (.cons _ (.cons _ (.cons _ (.cons_cons _ (.refl _)))))), ret_three Tryd.results15 (res_cells (k := 2) (ds := [_, _]) (Nat.le_of_ble_eq_true rfl) lk rfl rfl Tryd.isAgg25 Tryd.sizeOf25 rfl rfl) (res_tmp (Nat.le_of_ble_eq_true rfl) lk) (res_tmp (Nat.le_of_ble_eq_true rfl) lk), ?_⟩
              first | (refine ⟨_, _, _, _, _, _, _, _, _, _, ?_, rfl, own_nil, own_nil, List.Perm.refl _⟩; first | exact ask_shape (by simpa using hc1') | exact ask_twice hsx hc2' | ((first | rw [ask_on hsx hc2', askG_none hown] | rw [ask_on hsx hc2', askG_some hown]); (repeat' split) <;> first | rfl | (exfalso; simp_all; done) | (exfalso; simp_all; omega))) | (refine ⟨_, _, _, _, _, _, _, _, _, _, ?_, rfl, hoh, hoq, List.Perm.refl _⟩; first | exact ask_shape (by simpa using hc1') | exact ask_twice hsx hc2' | ((first | rw [ask_on hsx hc2', askG_none hown] | rw [ask_on hsx hc2', askG_some hown]); (repeat' split) <;> first | rfl | (exfalso; simp_all; done) | (exfalso; simp_all; omega))) | (refine ⟨_, _, _, _, _, _, _, _, _, _, ?_, rfl, hoh, hoq, by first | exact List.perm_append_comm (l₁ := [_]) | exact List.perm_append_comm⟩; first | exact ask_shape (by simpa using hc1') | exact ask_twice hsx hc2' | ((first | rw [ask_on hsx hc2', askG_none hown] | rw [ask_on hsx hc2', askG_some hown]); (repeat' split) <;> first | rfl | (exfalso; simp_all; done) | (exfalso; simp_all; omega))) | (refine ⟨_, _, _, _, _, _, _, _, _, _, ?_, rfl, hoh, hoq2, List.Perm.refl _⟩; first | exact ask_shape (by simpa using hc1') | exact ask_twice hsx hc2' | ((first | rw [ask_on hsx hc2', askG_none hown] | rw [ask_on hsx hc2', askG_some hown]); (repeat' split) <;> first | rfl | (exfalso; simp_all; done) | (exfalso; simp_all; omega))) | (refine ⟨_, _, _, _, _, _, _, _, _, _, ?_, rfl, hoh, hoq2, by first | exact List.perm_append_comm (l₁ := [_]) | exact List.perm_append_comm⟩; first | exact ask_shape (by simpa using hc1') | exact ask_twice hsx hc2' | ((first | rw [ask_on hsx hc2', askG_none hown] | rw [ask_on hsx hc2', askG_some hown]); (repeat' split) <;> first | rfl | (exfalso; simp_all; done) | (exfalso; simp_all; omega))) | (refine ⟨_, _, _, _, _, _, _, _, _, _, ?_, rfl, hoh3, hoq3, List.Perm.refl _⟩; first | exact ask_shape (by simpa using hc1') | exact ask_twice hsx hc2' | ((first | rw [ask_on hsx hc2', askG_none hown] | rw [ask_on hsx hc2', askG_some hown]); (repeat' split) <;> first | rfl | (exfalso; simp_all; done) | (exfalso; simp_all; omega))) | skip
            · have hc4' := hc4
              (try simp only [decide_eq_true_eq, decide_eq_false_iff_not, beq_iff_eq, bne_iff_ne, Bool.not_eq_true', Bool.not_eq_false', Bool.not_eq_true, Bool.not_eq_false, beq_eq_false_iff_ne, ne_eq, bne_eq_false_iff_eq, Bool.and_eq_true, Bool.or_eq_true, Bool.not_not, Bool.and_eq_false_iff, Bool.or_eq_false_iff, Int.not_lt, Int.not_le] at hc4')
              refine CD.skip ?_
              refine CD.seq ?_
              refine CD.region ?_
              refine OD.still (wants_plain rfl) rfl (still_r1 (mk := fun y => Op.fieldAddr 25 y 1) rfl ot (by first | exact fa_ptr (off := 1) Tryd.runUnderlying25 rfl Tryd.sizeOf23 rfl | exact fa_iptr (off := 1) Tryd.runUnderlying25 rfl Tryd.sizeOf23 rfl)) ?_
              refine OD.still (wants_plain rfl) rfl (still_r1 (mk := Op.load 23) rfl ot (by first | exact ld_blk (k := 0) rfl rfl Tryd.isAgg23 rfl | exact ld_fm cL_len Tryd.isAgg23 (by first | assumption | omega) rfl | exact ld_fm0 cL_len Tryd.isAgg23 (by first | assumption | omega) rfl | exact ld_row (k := 0) cL_len rfl rfl rfl Tryd.isAgg23 (by first | assumption | omega) rfl | exact ld_row0 (k := 0) cL_len rfl rfl rfl Tryd.isAgg23 (by first | assumption | omega) rfl | exact ld_row (k := 1) cL_len rfl rfl rfl Tryd.isAgg23 (by first | assumption | omega) rfl | exact ld_row0 (k := 1) cL_len rfl rfl rfl Tryd.isAgg23 (by first | assumption | omega) rfl | exact ld_row (k := 2) cL_len rfl rfl rfl Tryd.isAgg23 (by first | assumption | omega) rfl | exact ld_row0 (k := 2) cL_len rfl rfl rfl Tryd.isAgg23 (by first | assumption | omega) rfl | exact ld_row (k := 3) cL_len rfl rfl rfl Tryd.isAgg23 (by first | assumption | omega) rfl | exact ld_row0 (k := 3) cL_len rfl rfl rfl Tryd.isAgg23 (by first | assumption | omega) rfl | exact ld_row (k := 4) cL_len rfl rfl rfl Tryd.isAgg23 (by first | assumption | omega) rfl | exact ld_row0 (k := 4) cL_len rfl rfl rfl Tryd.isAgg23 (by first | assumption | omega) rfl | exact ld_i Tryd.isAgg23 rfl | exact ld_tab (List.mem_cons_self) Tryd.isAgg23 (fitsC_off (by omega) (by omega) (by omega) (by omega)) | exact ld_tab (List.mem_cons_of_mem _ List.mem_cons_self) Tryd.isAgg23 (joinsC_off (by omega) (by omega) (by omega) (by omega)))) ?_
              refine OD.still (wants_plain rfl) rfl (still_r1 (mk := Op.load 27) rfl ot (by first | exact ld_blks (k := 1) (ds := [_, _, _]) rfl rfl Tryd.isAgg27 Tryd.sizeOf27 rfl rfl | exact ld_fms cL_len Tryd.isAgg27 Tryd.sizeOf27 (by first | assumption | omega) | exact ld_rows (k := 0) cL_len rfl rfl rfl Tryd.isAgg27 Tryd.sizeOf27 (by first | assumption | omega) | exact ld_rows (k := 1) cL_len rfl rfl rfl Tryd.isAgg27 Tryd.sizeOf27 (by first | assumption | omega) | exact ld_rows (k := 2) cL_len rfl rfl rfl Tryd.isAgg27 Tryd.sizeOf27 (by first | assumption | omega) | exact ld_rows (k := 3) cL_len rfl rfl rfl Tryd.isAgg27 Tryd.sizeOf27 (by first | assumption | omega) | exact ld_rows (k := 4) cL_len rfl rfl rfl Tryd.isAgg27 Tryd.sizeOf27 (by first | assumption | omega) | exact ld_is (ds := [_, _, _]) Tryd.isAgg27 Tryd.sizeOf27 rfl rfl)) ?_
              refine OD.bldS (pl := [(0, _)]) (zvs := [.int .i64 0, .string ⟨#[]⟩, .int .i64 0]) (ds := [_, _, _]) (wants_plain rfl) rfl rfl Tryd.zeroValue27 Tryd.runUnderlying23 Tryd.sizeOf27 rfl rfl (by kernel_rfl) ⟨rfl, ot, trivial⟩ rfl rfl (fun b64 => ?_)
              refine OD.give (k := 0) (t := 64) (sz := 3) (m := 1) rfl lk rfl rfl rfl (Nat.le_refl _) (by decide) ?_
              refine OD.appendG (ls := queue) (new := [{ x with m := joinsF held[j].m x.m }]) (Sq := Sq) cL_len cL_one (wants_plain rfl) rfl rfl Tryd.underlying23 infoL rfl (by decide) ot hoq (List.perm_append_comm (l₁ := [_, _, _, _, _])) ot (by simp) (by unfold maxLen; simp; omega) (by simp; omega) (fun bq cq' hq1 hq2 => ?_)
              replace hq1 : queue.length + 1 ≤ cq' := by simpa using hq1
              have hlq : (queue ++ [{ x with m := joinsF held[j].m x.m }]).length = queue.length + 1 := by simp
              have hoq2 : OwnK (queue ++ [{ x with m := joinsF held[j].m x.m }]) (some ⟨bq, 0, none⟩) cq' [⟨bq, 27, cq' * 3, (queue ++ [{ x with m := joinsF held[j].m x.m }]).flatMap cL⟩] := .inr ⟨bq, rfl, by rw [hlq]; exact hq1, hq2, rfl⟩
              refine OD.still (wants_plain rfl) rfl (still_r1 (mk := fun y => Op.fieldAddr 25 y 1) rfl ot (by first | exact fa_ptr (off := 1) Tryd.runUnderlying25 rfl Tryd.sizeOf23 rfl | exact fa_iptr (off := 1) Tryd.runUnderlying25 rfl Tryd.sizeOf23 rfl)) ?_
              refine OD.store (k := 1) (cs' := [_, _]) (wants_plain rfl) rfl rfl ot rfl rfl ot rfl rfl Tryd.sizeOf23 rfl rfl rfl ?_
              refine OD.wk (Wk.as_ (n := 104) (l' := [(3, _), (4, _), (9, _)]) (S' := [_, ⟨b9, 25, 2, [_, _]⟩, ⟨b3, 27, 3, [_, _, _]⟩, ⟨b4, 25, 2, [_, _]⟩, ⟨b2, 25, 2, [_, _]⟩, _]) rfl rfl ⟨lk, lk, lk, trivial⟩) ?_
              refine OD.nil ?_
              refine CD.seq ?_
              refine CD.seq ?_
              refine CD.region ?_
              refine OD.still (wants_plain rfl) rfl (still_r1 (mk := Op.load 25) rfl ot (by first | exact ld_blks (k := 1) (ds := [_, _]) rfl rfl Tryd.isAgg25 Tryd.sizeOf25 rfl rfl | exact ld_fms cL_len Tryd.isAgg25 Tryd.sizeOf25 (by first | assumption | omega) | exact ld_rows (k := 0) cL_len rfl rfl rfl Tryd.isAgg25 Tryd.sizeOf25 (by first | assumption | omega) | exact ld_rows (k := 1) cL_len rfl rfl rfl Tryd.isAgg25 Tryd.sizeOf25 (by first | assumption | omega) | exact ld_rows (k := 2) cL_len rfl rfl rfl Tryd.isAgg25 Tryd.sizeOf25 (by first | assumption | omega) | exact ld_rows (k := 3) cL_len rfl rfl rfl Tryd.isAgg25 Tryd.sizeOf25 (by first | assumption | omega) | exact ld_rows (k := 4) cL_len rfl rfl rfl Tryd.isAgg25 Tryd.sizeOf25 (by first | assumption | omega) | exact ld_rows (k := 5) cL_len rfl rfl rfl Tryd.isAgg25 Tryd.sizeOf25 (by first | assumption | omega) | exact ld_is (ds := [_, _]) Tryd.isAgg25 Tryd.sizeOf25 rfl rfl)) ?_
              refine OD.still (wants_plain rfl) rfl (still_r1 (mk := fun y => Op.fieldAddr 25 y 1) rfl ot (by first | exact fa_ptr (off := 1) Tryd.runUnderlying25 rfl Tryd.sizeOf23 rfl | exact fa_iptr (off := 1) Tryd.runUnderlying25 rfl Tryd.sizeOf23 rfl)) ?_
              refine OD.still (wants_plain rfl) rfl (still_r1 (mk := Op.load 23) rfl ot (by first | exact ld_blk (k := 1) rfl rfl Tryd.isAgg23 rfl | exact ld_fm cL_len Tryd.isAgg23 (by first | assumption | omega) rfl | exact ld_fm0 cL_len Tryd.isAgg23 (by first | assumption | omega) rfl | exact ld_row (k := 0) cL_len rfl rfl rfl Tryd.isAgg23 (by first | assumption | omega) rfl | exact ld_row0 (k := 0) cL_len rfl rfl rfl Tryd.isAgg23 (by first | assumption | omega) rfl | exact ld_row (k := 1) cL_len rfl rfl rfl Tryd.isAgg23 (by first | assumption | omega) rfl | exact ld_row0 (k := 1) cL_len rfl rfl rfl Tryd.isAgg23 (by first | assumption | omega) rfl | exact ld_row (k := 2) cL_len rfl rfl rfl Tryd.isAgg23 (by first | assumption | omega) rfl | exact ld_row0 (k := 2) cL_len rfl rfl rfl Tryd.isAgg23 (by first | assumption | omega) rfl | exact ld_row (k := 3) cL_len rfl rfl rfl Tryd.isAgg23 (by first | assumption | omega) rfl | exact ld_row0 (k := 3) cL_len rfl rfl rfl Tryd.isAgg23 (by first | assumption | omega) rfl | exact ld_row (k := 4) cL_len rfl rfl rfl Tryd.isAgg23 (by first | assumption | omega) rfl | exact ld_row0 (k := 4) cL_len rfl rfl rfl Tryd.isAgg23 (by first | assumption | omega) rfl | exact ld_row (k := 5) cL_len rfl rfl rfl Tryd.isAgg23 (by first | assumption | omega) rfl | exact ld_row0 (k := 5) cL_len rfl rfl rfl Tryd.isAgg23 (by first | assumption | omega) rfl | exact ld_i Tryd.isAgg23 rfl | exact ld_tab (List.mem_cons_self) Tryd.isAgg23 (fitsC_off (by omega) (by omega) (by omega) (by omega)) | exact ld_tab (List.mem_cons_of_mem _ List.mem_cons_self) Tryd.isAgg23 (joinsC_off (by omega) (by omega) (by omega) (by omega)))) ?_
              refine OD.still (wants_plain rfl) rfl (still_r1 (mk := fun y => .call { callee := .builtin .len, args := #[y], argTypes := #[23] }) rfl ot (by first | exact len_list rfl Tryd.runUnderlying23 | exact len_row rfl Tryd.runUnderlying23)) ?_
              refine OD.still (wants_plain rfl) rfl (still_bin rfl ot opd_const (bin_sub (r := (queue.length : Nat)) (by rw [wrap_i64] <;> simp <;> omega))) ?_
              refine OD.look (wants_plain rfl) rfl rfl rfl Tryd.call30 (first_last held queue ({ x with m := joinsF held[j].m x.m }) (by omega) g.mode hx1) rfl ⟨⟨_, ot, view_agg (ds := [_, _]) ⟨view_own hoh (cells_len _) (fun B hB => by simp at hB; simp [hB, St.put]), view_row (k := 0) rfl rfl rfl (cells_len _) (by rw [hlq]; omega) hq2, trivial⟩⟩, ⟨_, ot, view_same⟩, trivial⟩ ?_
              refine OD.wk (Wk.as_ (n := 104) (l' := [(3, _), (4, _), (9, _), (72, _)]) (S' := [_, ⟨b9, 25, 2, [_, _]⟩, ⟨b3, 27, 3, [_, _, _]⟩, ⟨b4, 25, 2, [_, _]⟩, ⟨b2, 25, 2, [_, _]⟩, _]) rfl rfl ⟨lk, lk, lk, lk, trivial⟩) ?_
              refine OD.nil ?_
              refine CD.cond ot (fun hc5 => ?_) (fun hc5 => ?_)
              · have hc5' := hc5
                (try simp only [decide_eq_true_eq, decide_eq_false_iff_not, beq_iff_eq, bne_iff_ne, Bool.not_eq_true', Bool.not_eq_false', Bool.not_eq_true, Bool.not_eq_false, beq_eq_false_iff_ne, ne_eq, bne_eq_false_iff_eq, Bool.and_eq_true, Bool.or_eq_true, Bool.not_not, Bool.and_eq_false_iff, Bool.or_eq_false_iff, Int.not_lt, Int.not_le] at hc5')
                refine CD.seq ?_
                refine CD.region ?_
                refine OD.still (wants_plain rfl) rfl (still_r1 (mk := fun y => Op.fieldAddr 25 y 1) rfl ot (by first | exact fa_ptr (off := 1) Tryd.runUnderlying25 rfl Tryd.sizeOf23 rfl | exact fa_iptr (off := 1) Tryd.runUnderlying25 rfl Tryd.sizeOf23 rfl)) ?_
                refine OD.still (wants_plain rfl) rfl (still_r1 (mk := Op.load 23) rfl ot (by first | exact ld_blk (k := 1) rfl rfl Tryd.isAgg23 rfl | exact ld_fm cL_len Tryd.isAgg23 (by first | assumption | omega) rfl | exact ld_fm0 cL_len Tryd.isAgg23 (by first | assumption | omega) rfl | exact ld_row (k := 0) cL_len rfl rfl rfl Tryd.isAgg23 (by first | assumption | omega) rfl | exact ld_row0 (k := 0) cL_len rfl rfl rfl Tryd.isAgg23 (by first | assumption | omega) rfl | exact ld_row (k := 1) cL_len rfl rfl rfl Tryd.isAgg23 (by first | assumption | omega) rfl | exact ld_row0 (k := 1) cL_len rfl rfl rfl Tryd.isAgg23 (by first | assumption | omega) rfl | exact ld_row (k := 2) cL_len rfl rfl rfl Tryd.isAgg23 (by first | assumption | omega) rfl | exact ld_row0 (k := 2) cL_len rfl rfl rfl Tryd.isAgg23 (by first | assumption | omega) rfl | exact ld_row (k := 3) cL_len rfl rfl rfl Tryd.isAgg23 (by first | assumption | omega) rfl | exact ld_row0 (k := 3) cL_len rfl rfl rfl Tryd.isAgg23 (by first | assumption | omega) rfl | exact ld_row (k := 4) cL_len rfl rfl rfl Tryd.isAgg23 (by first | assumption | omega) rfl | exact ld_row0 (k := 4) cL_len rfl rfl rfl Tryd.isAgg23 (by first | assumption | omega) rfl | exact ld_row (k := 5) cL_len rfl rfl rfl Tryd.isAgg23 (by first | assumption | omega) rfl | exact ld_row0 (k := 5) cL_len rfl rfl rfl Tryd.isAgg23 (by first | assumption | omega) rfl | exact ld_i Tryd.isAgg23 rfl | exact ld_tab (List.mem_cons_self) Tryd.isAgg23 (fitsC_off (by omega) (by omega) (by omega) (by omega)) | exact ld_tab (List.mem_cons_of_mem _ List.mem_cons_self) Tryd.isAgg23 (joinsC_off (by omega) (by omega) (by omega) (by omega)))) ?_
                refine OD.still (wants_plain rfl) rfl (still_r1 (mk := fun y => Op.fieldAddr 25 y 1) rfl ot (by first | exact fa_ptr (off := 1) Tryd.runUnderlying25 rfl Tryd.sizeOf23 rfl | exact fa_iptr (off := 1) Tryd.runUnderlying25 rfl Tryd.sizeOf23 rfl)) ?_
                refine OD.still (wants_plain rfl) rfl (still_r1 (mk := Op.load 23) rfl ot (by first | exact ld_blk (k := 1) rfl rfl Tryd.isAgg23 rfl | exact ld_fm cL_len Tryd.isAgg23 (by first | assumption | omega) rfl | exact ld_fm0 cL_len Tryd.isAgg23 (by first | assumption | omega) rfl | exact ld_row (k := 0) cL_len rfl rfl rfl Tryd.isAgg23 (by first | assumption | omega) rfl | exact ld_row0 (k := 0) cL_len rfl rfl rfl Tryd.isAgg23 (by first | assumption | omega) rfl | exact ld_row (k := 1) cL_len rfl rfl rfl Tryd.isAgg23 (by first | assumption | omega) rfl | exact ld_row0 (k := 1) cL_len rfl rfl rfl Tryd.isAgg23 (by first | assumption | omega) rfl | exact ld_row (k := 2) cL_len rfl rfl rfl Tryd.isAgg23 (by first | assumption | omega) rfl | exact ld_row0 (k := 2) cL_len rfl rfl rfl Tryd.isAgg23 (by first | assumption | omega) rfl | exact ld_row (k := 3) cL_len rfl rfl rfl Tryd.isAgg23 (by first | assumption | omega) rfl | exact ld_row0 (k := 3) cL_len rfl rfl rfl Tryd.isAgg23 (by first | assumption | omega) rfl | exact ld_row (k := 4) cL_len rfl rfl rfl Tryd.isAgg23 (by first | assumption | omega) rfl | exact ld_row0 (k := 4) cL_len rfl rfl rfl Tryd.isAgg23 (by first | assumption | omega) rfl | exact ld_row (k := 5) cL_len rfl rfl rfl Tryd.isAgg23 (by first | assumption | omega) rfl | exact ld_row0 (k := 5) cL_len rfl rfl rfl Tryd.isAgg23 (by first | assumption | omega) rfl | exact ld_i Tryd.isAgg23 rfl | exact ld_tab (List.mem_cons_self) Tryd.isAgg23 (fitsC_off (by omega) (by omega) (by omega) (by omega)) | exact ld_tab (List.mem_cons_of_mem _ List.mem_cons_self) Tryd.isAgg23 (joinsC_off (by omega) (by omega) (by omega) (by omega)))) ?_
                refine OD.still (wants_plain rfl) rfl (still_r1 (mk := fun y => .call { callee := .builtin .len, args := #[y], argTypes := #[23] }) rfl ot (by first | exact len_list rfl Tryd.runUnderlying23 | exact len_row rfl Tryd.runUnderlying23)) ?_
                refine OD.still (wants_plain rfl) rfl (still_bin rfl ot opd_const (bin_sub (r := (queue.length : Nat)) (by rw [wrap_i64] <;> simp <;> omega))) ?_
                refine OD.still (wants_plain rfl) rfl (still_rs (l := 0) (h := queue.length) rfl ot trivial ⟨_, ot⟩ (by first | exact sl_head cL_len (fun h => by cases h) Tryd.runUnderlying23 Tryd.sizeOf27 (by omega) | exact sl_row (fun h => by cases h) Tryd.runUnderlying23 Tryd.sizeOf27 (by omega) | exact sl_list (fun _ => rfl) (fun h => by cases h) Tryd.runUnderlying23 Tryd.sizeOf27 (by omega) (by omega))) ?_
                refine OD.still (wants_plain rfl) rfl (still_r1 (mk := fun y => Op.fieldAddr 25 y 1) rfl ot (by first | exact fa_ptr (off := 1) Tryd.runUnderlying25 rfl Tryd.sizeOf23 rfl | exact fa_iptr (off := 1) Tryd.runUnderlying25 rfl Tryd.sizeOf23 rfl)) ?_
                refine OD.store (k := 1) (cs' := [_, _]) (wants_plain rfl) rfl rfl ot rfl rfl ot rfl rfl Tryd.sizeOf23 rfl rfl rfl ?_
                refine OD.wk (Wk.as_ (n := 104) (l' := [(3, _), (4, _), (9, _)]) (S' := [_, ⟨b9, 25, 2, [_, _]⟩, ⟨b3, 27, 3, [_, _, _]⟩, ⟨b4, 25, 2, [_, _]⟩, ⟨b2, 25, 2, [_, _]⟩, _]) rfl rfl ⟨lk, lk, lk, trivial⟩) ?_
                refine OD.nil ?_
                refine CD.seq ?_
                refine CD.region ?_
                refine OD.still (wants_plain rfl) rfl (still_r1 (mk := Op.load 27) rfl ot (by first | exact ld_blks (k := 2) (ds := [_, _, _]) rfl rfl Tryd.isAgg27 Tryd.sizeOf27 rfl rfl | exact ld_fms cL_len Tryd.isAgg27 Tryd.sizeOf27 (by first | assumption | omega) | exact ld_rows (k := 0) cL_len rfl rfl rfl Tryd.isAgg27 Tryd.sizeOf27 (by first | assumption | omega) | exact ld_rows (k := 1) cL_len rfl rfl rfl Tryd.isAgg27 Tryd.sizeOf27 (by first | assumption | omega) | exact ld_rows (k := 2) cL_len rfl rfl rfl Tryd.isAgg27 Tryd.sizeOf27 (by first | assumption | omega) | exact ld_rows (k := 3) cL_len rfl rfl rfl Tryd.isAgg27 Tryd.sizeOf27 (by first | assumption | omega) | exact ld_rows (k := 4) cL_len rfl rfl rfl Tryd.isAgg27 Tryd.sizeOf27 (by first | assumption | omega) | exact ld_rows (k := 5) cL_len rfl rfl rfl Tryd.isAgg27 Tryd.sizeOf27 (by first | assumption | omega) | exact ld_is (ds := [_, _, _]) Tryd.isAgg27 Tryd.sizeOf27 rfl rfl)) ?_
                refine OD.shrink (k := 0) (cs' := queue.flatMap cL) rfl (fm_prefix _ _) ?_
                have hll := haveL_le held ({ x with m := joinsF held[j].m x.m })
                refine OD.call (wants_plain rfl) rfl rfl rfl Tryd.call31 (have_vc _ b9 ch _ _ held ({ x with m := joinsF held[j].m x.m }) [⟨bh, 27, ch * 3, held.flatMap cL⟩] hoh (by omega)) ⟨ot, ot, trivial⟩ (perm_two (k := 1) (k' := 4) rfl rfl) ?_
                rintro _ S2 ⟨rfl, ah', ch', Sh', hoh', hS2⟩
                refine OD.perm ((hS2.append_right _).trans (List.Perm.cons _ List.perm_append_comm)) ?_
                have hoq' : OwnK queue (some ⟨bq, 0, none⟩) cq' [⟨bq, 27, cq' * 3, queue.flatMap cL⟩] := .inr ⟨bq, rfl, by omega, hq2, rfl⟩
                refine OD.wk (Wk.as_ (n := 104) (l' := [(4, _), (9, _)]) (S' := (⟨b9, 25, 2, [_, _]⟩ :: _ :: ⟨b3, 27, 3, [_, _, _]⟩ :: ⟨b4, 25, 2, [_, _]⟩ :: ⟨b2, 25, 2, [_, _]⟩ :: Sh')) rfl rfl ⟨lk, lk, trivial⟩) ?_
                refine OD.nil ?_
                refine CD.seq ?_
                refine CD.seq ?_
                refine CD.region ?_
                refine OD.still (wants_plain rfl) rfl (still_r1 (mk := fun y => Op.fieldAddr 25 y 0) rfl ot (by first | exact fa_ptr (off := 0) Tryd.runUnderlying25 rfl Tryd.sizeOf23 rfl | exact fa_iptr (off := 0) Tryd.runUnderlying25 rfl Tryd.sizeOf23 rfl)) ?_
                refine OD.still (wants_plain rfl) rfl (still_r1 (mk := Op.load 23) rfl ot (by first | exact ld_blk (k := 0) rfl rfl Tryd.isAgg23 rfl | exact ld_fm cL_len Tryd.isAgg23 (by first | assumption | omega) rfl | exact ld_fm0 cL_len Tryd.isAgg23 (by first | assumption | omega) rfl | exact ld_row (k := 0) cL_len rfl rfl rfl Tryd.isAgg23 (by first | assumption | omega) rfl | exact ld_row0 (k := 0) cL_len rfl rfl rfl Tryd.isAgg23 (by first | assumption | omega) rfl | exact ld_row (k := 1) cL_len rfl rfl rfl Tryd.isAgg23 (by first | assumption | omega) rfl | exact ld_row0 (k := 1) cL_len rfl rfl rfl Tryd.isAgg23 (by first | assumption | omega) rfl | exact ld_row (k := 2) cL_len rfl rfl rfl Tryd.isAgg23 (by first | assumption | omega) rfl | exact ld_row0 (k := 2) cL_len rfl rfl rfl Tryd.isAgg23 (by first | assumption | omega) rfl | exact ld_row (k := 3) cL_len rfl rfl rfl Tryd.isAgg23 (by first | assumption | omega) rfl | exact ld_row0 (k := 3) cL_len rfl rfl rfl Tryd.isAgg23 (by first | assumption | omega) rfl | exact ld_row (k := 4) cL_len rfl rfl rfl Tryd.isAgg23 (by first | assumption | omega) rfl | exact ld_row0 (k := 4) cL_len rfl rfl rfl Tryd.isAgg23 (by first | assumption | omega) rfl | exact ld_i Tryd.isAgg23 rfl | exact ld_tab (List.mem_cons_self) Tryd.isAgg23 (fitsC_off (by omega) (by omega) (by omega) (by omega)) | exact ld_tab (List.mem_cons_of_mem _ List.mem_cons_self) Tryd.isAgg23 (joinsC_off (by omega) (by omega) (by omega) (by omega)))) ?_
                refine OD.still (wants_plain rfl) rfl (still_r1 (mk := fun y => .call { callee := .builtin .len, args := #[y], argTypes := #[23] }) rfl ot (by first | exact len_list rfl Tryd.runUnderlying23 | exact len_row rfl Tryd.runUnderlying23)) ?_
                refine OD.still (wants_plain rfl) rfl (still_r1 (mk := fun y => Op.fieldAddr 25 y 1) rfl ot (by first | exact fa_ptr (off := 1) Tryd.runUnderlying25 rfl Tryd.sizeOf23 rfl | exact fa_iptr (off := 1) Tryd.runUnderlying25 rfl Tryd.sizeOf23 rfl)) ?_
                refine OD.still (wants_plain rfl) rfl (still_r1 (mk := Op.load 23) rfl ot (by first | exact ld_blk (k := 0) rfl rfl Tryd.isAgg23 rfl | exact ld_fm cL_len Tryd.isAgg23 (by first | assumption | omega) rfl | exact ld_fm0 cL_len Tryd.isAgg23 (by first | assumption | omega) rfl | exact ld_row (k := 0) cL_len rfl rfl rfl Tryd.isAgg23 (by first | assumption | omega) rfl | exact ld_row0 (k := 0) cL_len rfl rfl rfl Tryd.isAgg23 (by first | assumption | omega) rfl | exact ld_row (k := 1) cL_len rfl rfl rfl Tryd.isAgg23 (by first | assumption | omega) rfl | exact ld_row0 (k := 1) cL_len rfl rfl rfl Tryd.isAgg23 (by first | assumption | omega) rfl | exact ld_row (k := 2) cL_len rfl rfl rfl Tryd.isAgg23 (by first | assumption | omega) rfl | exact ld_row0 (k := 2) cL_len rfl rfl rfl Tryd.isAgg23 (by first | assumption | omega) rfl | exact ld_row (k := 3) cL_len rfl rfl rfl Tryd.isAgg23 (by first | assumption | omega) rfl | exact ld_row0 (k := 3) cL_len rfl rfl rfl Tryd.isAgg23 (by first | assumption | omega) rfl | exact ld_row (k := 4) cL_len rfl rfl rfl Tryd.isAgg23 (by first | assumption | omega) rfl | exact ld_row0 (k := 4) cL_len rfl rfl rfl Tryd.isAgg23 (by first | assumption | omega) rfl | exact ld_i Tryd.isAgg23 rfl | exact ld_tab (List.mem_cons_self) Tryd.isAgg23 (fitsC_off (by omega) (by omega) (by omega) (by omega)) | exact ld_tab (List.mem_cons_of_mem _ List.mem_cons_self) Tryd.isAgg23 (joinsC_off (by omega) (by omega) (by omega) (by omega)))) ?_
                refine OD.still (wants_plain rfl) rfl (still_r1 (mk := fun y => .call { callee := .builtin .len, args := #[y], argTypes := #[23] }) rfl ot (by first | exact len_list rfl Tryd.runUnderlying23 | exact len_row rfl Tryd.runUnderlying23)) ?_
                refine OD.still (wants_plain rfl) rfl (still_bin rfl ot ot (bin_add (wrap_i64 (by omega) (by omega)))) ?_
                refine OD.still (wants_plain rfl) rfl (still_bin rfl ot opd_const bin_gtr) ?_
                refine OD.wk (Wk.as_ (n := 104) (l' := [(4, _), (9, _), (90, _)]) (S' := (⟨b9, 25, 2, [_, _]⟩ :: _ :: ⟨b3, 27, 3, [_, _, _]⟩ :: ⟨b4, 25, 2, [_, _]⟩ :: ⟨b2, 25, 2, [_, _]⟩ :: Sh')) rfl rfl ⟨lk, lk, lk, trivial⟩) ?_
                refine OD.nil ?_
                refine CD.cond ot (fun hc6 => ?_) (fun hc6 => ?_)
                · have hc6' := hc6
                  (try simp only [decide_eq_true_eq, decide_eq_false_iff_not, beq_iff_eq, bne_iff_ne, Bool.not_eq_true', Bool.not_eq_false', Bool.not_eq_true, Bool.not_eq_false, beq_eq_false_iff_ne, ne_eq, bne_eq_false_iff_eq, Bool.and_eq_true, Bool.or_eq_true, Bool.not_not, Bool.and_eq_false_iff, Bool.or_eq_false_iff, Int.not_lt, Int.not_le] at hc6')
                  refine CD.seq ?_
                  refine CD.region ?_
                  refine OD.still (wants_plain rfl) rfl (still_bld (pl := []) (ds := [_, _]) rfl Tryd.zeroValue25 Tryd.runUnderlying25 places25_Lk5 trivial rfl rfl) ?_
                  refine OD.store (k := 3) (cs' := [_, _]) (wants_plain rfl) rfl rfl ot rfl rfl ot rfl rfl Tryd.sizeOf25 rfl rfl rfl ?_
                  refine OD.still (wants_plain rfl) rfl (still_as rfl opd_const) ?_
                  refine OD.still (wants_plain rfl) rfl (still_as rfl opd_const) ?_
                  refine OD.wk (Wk.as_ (n := 104) (l' := [(4, _), (5, _), (6, _)]) (S' := (⟨b9, 25, 2, [_, _]⟩ :: _ :: ⟨b3, 27, 3, [_, _, _]⟩ :: ⟨b4, 25, 2, [_, _]⟩ :: ⟨b2, 25, 2, [_, _]⟩ :: Sh')) rfl rfl ⟨lk, lk, lk, trivial⟩) ?_
                  refine OD.nil ?_
                  refine CD.ret ?_
                  refine ⟨.inr rfl, _, [], (List.nil_sublist _), ret_three Tryd.results15 (res_cells (k := 3) (ds := [_, _]) (Nat.le_of_ble_eq_true rfl) lk rfl rfl Tryd.isAgg25 Tryd.sizeOf25 rfl rfl) (res_tmp (Nat.le_of_ble_eq_true rfl) lk) (res_tmp (Nat.le_of_ble_eq_true rfl) lk), ?_⟩
                  first | (refine ⟨_, _, _, _, _, _, _, _, _, _, ?_, rfl, own_nil, own_nil, List.Perm.refl _⟩; first | exact ask_shape (by simpa using hc1') | exact ask_twice hsx hc2' | ((first | rw [ask_on hsx hc2', askG_none hown] | rw [ask_on hsx hc2', askG_some hown]); (repeat' split) <;> first | rfl | (exfalso; simp_all; done) | (exfalso; simp_all; omega))) | (refine ⟨_, _, _, _, _, _, _, _, _, _, ?_, rfl, hoh, hoq, List.Perm.refl _⟩; first | exact ask_shape (by simpa using hc1') | exact ask_twice hsx hc2' | ((first | rw [ask_on hsx hc2', askG_none hown] | rw [ask_on hsx hc2', askG_some hown]); (repeat' split) <;> first | rfl | (exfalso; simp_all; done) | (exfalso; simp_all; omega))) | (refine ⟨_, _, _, _, _, _, _, _, _, _, ?_, rfl, hoh, hoq, by first | exact List.perm_append_comm (l₁ := [_]) | exact List.perm_append_comm⟩; first | exact ask_shape (by simpa using hc1') | exact ask_twice hsx hc2' | ((first | rw [ask_on hsx hc2', askG_none hown] | rw [ask_on hsx hc2', askG_some hown]); (repeat' split) <;> first | rfl | (exfalso; simp_all; done) | (exfalso; simp_all; omega))) | (refine ⟨_, _, _, _, _, _, _, _, _, _, ?_, rfl, hoh, hoq2, List.Perm.refl _⟩; first | exact ask_shape (by simpa using hc1') | exact ask_twice hsx hc2' | ((first | rw [ask_on hsx hc2', askG_none hown] | rw [ask_on hsx hc2', askG_some hown]); (repeat' split) <;> first | rfl | (exfalso; simp_all; done) | (exfalso; simp_all; omega))) | (refine ⟨_, _, _, _, _, _, _, _, _, _, ?_, rfl, hoh, hoq2, by first | exact List.perm_append_comm (l₁ := [_]) | exact List.perm_append_comm⟩; first | exact ask_shape (by simpa using hc1') | exact ask_twice hsx hc2' | ((first | rw [ask_on hsx hc2', askG_none hown] | rw [ask_on hsx hc2', askG_some hown]); (repeat' split) <;> first | rfl | (exfalso; simp_all; done) | (exfalso; simp_all; omega))) | (refine ⟨_, _, _, _, _, _, _, _, _, _, ?_, rfl, hoh3, hoq3, List.Perm.refl _⟩; first | exact ask_shape (by simpa using hc1') | exact ask_twice hsx hc2' | ((first | rw [ask_on hsx hc2', askG_none hown] | rw [ask_on hsx hc2', askG_some hown]); (repeat' split) <;> first | rfl | (exfalso; simp_all; done) | (exfalso; simp_all; omega))) | skip
                · have hc6' := hc6
                  (try simp only [decide_eq_true_eq, decide_eq_false_iff_not, beq_iff_eq, bne_iff_ne, Bool.not_eq_true', Bool.not_eq_false', Bool.not_eq_true, Bool.not_eq_false, beq_eq_false_iff_ne, ne_eq, bne_eq_false_iff_eq, Bool.and_eq_true, Bool.or_eq_true, Bool.not_not, Bool.and_eq_false_iff, Bool.or_eq_false_iff, Int.not_lt, Int.not_le] at hc6')
                  refine CD.skip ?_
                  refine CD.seq ?_
                  refine CD.region ?_
                  refine OD.cover (A := ⟨b9, 25, 2, _⟩) (R := [_, _, _]) (Sd := ⟨bq, 27, _, queue.flatMap cL⟩ :: Sh') (cs' := [locksD _, locksD queue]) (List.Perm.cons _ (List.perm_middle (l₁ := [_, _, _])).symm) ⟨view_own hoh' (cells_len _) (fun B hB => by simp [hB]), view_row (k := 0) rfl rfl rfl (cells_len _) (by omega) hq2, trivial⟩ ?_
                  refine OD.still (wants_plain rfl) rfl (still_r1 (mk := Op.load 25) rfl ot (by first | exact ld_blks (k := 0) (ds := [_, _]) rfl rfl Tryd.isAgg25 Tryd.sizeOf25 rfl rfl | exact ld_fms cL_len Tryd.isAgg25 Tryd.sizeOf25 (by first | assumption | omega) | exact ld_rows (k := 0) cL_len rfl rfl rfl Tryd.isAgg25 Tryd.sizeOf25 (by first | assumption | omega) | exact ld_rows (k := 1) cL_len rfl rfl rfl Tryd.isAgg25 Tryd.sizeOf25 (by first | assumption | omega) | exact ld_rows (k := 2) cL_len rfl rfl rfl Tryd.isAgg25 Tryd.sizeOf25 (by first | assumption | omega) | exact ld_rows (k := 3) cL_len rfl rfl rfl Tryd.isAgg25 Tryd.sizeOf25 (by first | assumption | omega) | exact ld_is (ds := [_, _]) Tryd.isAgg25 Tryd.sizeOf25 rfl rfl)) ?_
                  refine OD.call (wants_plain rfl) rfl rfl rfl Tryd.call28 (own_vc _ (haveL held ({ x with m := joinsF held[j].m x.m })) queue (by omega)) ⟨ot, trivial⟩ (perm_none _) ?_
                  rintro _ S3 ⟨ah3, ch3, aq3, cq3, Sh3, Sq3, rfl, hoh3, hoq3, rfl⟩
                  refine OD.perm List.perm_append_comm ?_
                  refine OD.store (k := 2) (cs' := [_, _]) (wants_plain rfl) rfl rfl ot rfl rfl ot rfl rfl Tryd.sizeOf25 rfl rfl rfl ?_
                  refine OD.still (wants_plain rfl) rfl (still_as rfl opd_const) ?_
                  refine OD.still (wants_plain rfl) rfl (still_as rfl opd_const) ?_
                  refine OD.wk (Wk.as_ (n := 104) (l' := [(4, _), (5, _), (6, _)]) (S' := (⟨b9, 25, 2, [_, _]⟩ :: ⟨b3, 27, 3, [_, _, _]⟩ :: ⟨b4, 25, 2, [_, _]⟩ :: ⟨b2, 25, 2, [_, _]⟩ :: _)) rfl rfl ⟨lk, lk, lk, trivial⟩) ?_
                  refine OD.nil ?_
                  refine CD.ret ?_
                  refine ⟨.inr rfl, _, _, (.cons _ (.cons _ (.cons _ (.cons _ (.refl _))))), ret_three Tryd.results15 (res_cells (k := 2) (ds := [_, _]) (Nat.le_of_ble_eq_true rfl) lk rfl rfl Tryd.isAgg25 Tryd.sizeOf25 rfl rfl) (res_tmp (Nat.le_of_ble_eq_true rfl) lk) (res_tmp (Nat.le_of_ble_eq_true rfl) lk), ?_⟩
                  first | (refine ⟨_, _, _, _, _, _, _, _, _, _, ?_, rfl, own_nil, own_nil, List.Perm.refl _⟩; first | exact ask_shape (by simpa using hc1') | exact ask_twice hsx hc2' | ((first | rw [ask_on hsx hc2', askG_none hown] | rw [ask_on hsx hc2', askG_some hown]); (repeat' split) <;> first | rfl | (exfalso; simp_all; done) | (exfalso; simp_all; omega))) | (refine ⟨_, _, _, _, _, _, _, _, _, _, ?_, rfl, hoh, hoq, List.Perm.refl _⟩; first | exact ask_shape (by simpa using hc1') | exact ask_twice hsx hc2' | ((first | rw [ask_on hsx hc2', askG_none hown] | rw [ask_on hsx hc2', askG_some hown]); (repeat' split) <;> first | rfl | (exfalso; simp_all; done) | (exfalso; simp_all; omega))) | (refine ⟨_, _, _, _, _, _, _, _, _, _, ?_, rfl, hoh, hoq, by first | exact List.perm_append_comm (l₁ := [_]) | exact List.perm_append_comm⟩; first | exact ask_shape (by simpa using hc1') | exact ask_twice hsx hc2' | ((first | rw [ask_on hsx hc2', askG_none hown] | rw [ask_on hsx hc2', askG_some hown]); (repeat' split) <;> first | rfl | (exfalso; simp_all; done) | (exfalso; simp_all; omega))) | (refine ⟨_, _, _, _, _, _, _, _, _, _, ?_, rfl, hoh, hoq2, List.Perm.refl _⟩; first | exact ask_shape (by simpa using hc1') | exact ask_twice hsx hc2' | ((first | rw [ask_on hsx hc2', askG_none hown] | rw [ask_on hsx hc2', askG_some hown]); (repeat' split) <;> first | rfl | (exfalso; simp_all; done) | (exfalso; simp_all; omega))) | (refine ⟨_, _, _, _, _, _, _, _, _, _, ?_, rfl, hoh, hoq2, by first | exact List.perm_append_comm (l₁ := [_]) | exact List.perm_append_comm⟩; first | exact ask_shape (by simpa using hc1') | exact ask_twice hsx hc2' | ((first | rw [ask_on hsx hc2', askG_none hown] | rw [ask_on hsx hc2', askG_some hown]); (repeat' split) <;> first | rfl | (exfalso; simp_all; done) | (exfalso; simp_all; omega))) | (refine ⟨_, _, _, _, _, _, _, _, _, _, ?_, rfl, hoh3, hoq3, List.Perm.refl _⟩; first | exact ask_shape (by simpa using hc1') | exact ask_twice hsx hc2' | ((first | rw [ask_on hsx hc2', askG_none hown] | rw [ask_on hsx hc2', askG_some hown]); (repeat' split) <;> first | rfl | (exfalso; simp_all; done) | (exfalso; simp_all; omega))) | skip
              · have hc5' := hc5
                (try simp only [decide_eq_true_eq, decide_eq_false_iff_not, beq_iff_eq, bne_iff_ne, Bool.not_eq_true', Bool.not_eq_false', Bool.not_eq_true, Bool.not_eq_false, beq_eq_false_iff_ne, ne_eq, bne_eq_false_iff_eq, Bool.and_eq_true, Bool.or_eq_true, Bool.not_not, Bool.and_eq_false_iff, Bool.or_eq_false_iff, Int.not_lt, Int.not_le] at hc5')
                refine CD.skip ?_
                refine CD.seq ?_
                refine CD.seq ?_
                refine CD.region ?_
                refine OD.still (wants_plain rfl) rfl (still_r1 (mk := fun y => Op.fieldAddr 25 y 0) rfl ot (by first | exact fa_ptr (off := 0) Tryd.runUnderlying25 rfl Tryd.sizeOf23 rfl | exact fa_iptr (off := 0) Tryd.runUnderlying25 rfl Tryd.sizeOf23 rfl)) ?_
                refine OD.still (wants_plain rfl) rfl (still_r1 (mk := Op.load 23) rfl ot (by first | exact ld_blk (k := 1) rfl rfl Tryd.isAgg23 rfl | exact ld_fm cL_len Tryd.isAgg23 (by first | assumption | omega) rfl | exact ld_fm0 cL_len Tryd.isAgg23 (by first | assumption | omega) rfl | exact ld_row (k := 0) cL_len rfl rfl rfl Tryd.isAgg23 (by first | assumption | omega) rfl | exact ld_row0 (k := 0) cL_len rfl rfl rfl Tryd.isAgg23 (by first | assumption | omega) rfl | exact ld_row (k := 1) cL_len rfl rfl rfl Tryd.isAgg23 (by first | assumption | omega) rfl | exact ld_row0 (k := 1) cL_len rfl rfl rfl Tryd.isAgg23 (by first | assumption | omega) rfl | exact ld_row (k := 2) cL_len rfl rfl rfl Tryd.isAgg23 (by first | assumption | omega) rfl | exact ld_row0 (k := 2) cL_len rfl rfl rfl Tryd.isAgg23 (by first | assumption | omega) rfl | exact ld_row (k := 3) cL_len rfl rfl rfl Tryd.isAgg23 (by first | assumption | omega) rfl | exact ld_row0 (k := 3) cL_len rfl rfl rfl Tryd.isAgg23 (by first | assumption | omega) rfl | exact ld_row (k := 4) cL_len rfl rfl rfl Tryd.isAgg23 (by first | assumption | omega) rfl | exact ld_row0 (k := 4) cL_len rfl rfl rfl Tryd.isAgg23 (by first | assumption | omega) rfl | exact ld_row (k := 5) cL_len rfl rfl rfl Tryd.isAgg23 (by first | assumption | omega) rfl | exact ld_row0 (k := 5) cL_len rfl rfl rfl Tryd.isAgg23 (by first | assumption | omega) rfl | exact ld_i Tryd.isAgg23 rfl | exact ld_tab (List.mem_cons_self) Tryd.isAgg23 (fitsC_off (by omega) (by omega) (by omega) (by omega)) | exact ld_tab (List.mem_cons_of_mem _ List.mem_cons_self) Tryd.isAgg23 (joinsC_off (by omega) (by omega) (by omega) (by omega)))) ?_
                refine OD.still (wants_plain rfl) rfl (still_r1 (mk := fun y => .call { callee := .builtin .len, args := #[y], argTypes := #[23] }) rfl ot (by first | exact len_list rfl Tryd.runUnderlying23 | exact len_row rfl Tryd.runUnderlying23)) ?_
                refine OD.still (wants_plain rfl) rfl (still_r1 (mk := fun y => Op.fieldAddr 25 y 1) rfl ot (by first | exact fa_ptr (off := 1) Tryd.runUnderlying25 rfl Tryd.sizeOf23 rfl | exact fa_iptr (off := 1) Tryd.runUnderlying25 rfl Tryd.sizeOf23 rfl)) ?_
                refine OD.still (wants_plain rfl) rfl (still_r1 (mk := Op.load 23) rfl ot (by first | exact ld_blk (k := 1) rfl rfl Tryd.isAgg23 rfl | exact ld_fm cL_len Tryd.isAgg23 (by first | assumption | omega) rfl | exact ld_fm0 cL_len Tryd.isAgg23 (by first | assumption | omega) rfl | exact ld_row (k := 0) cL_len rfl rfl rfl Tryd.isAgg23 (by first | assumption | omega) rfl | exact ld_row0 (k := 0) cL_len rfl rfl rfl Tryd.isAgg23 (by first | assumption | omega) rfl | exact ld_row (k := 1) cL_len rfl rfl rfl Tryd.isAgg23 (by first | assumption | omega) rfl | exact ld_row0 (k := 1) cL_len rfl rfl rfl Tryd.isAgg23 (by first | assumption | omega) rfl | exact ld_row (k := 2) cL_len rfl rfl rfl Tryd.isAgg23 (by first | assumption | omega) rfl | exact ld_row0 (k := 2) cL_len rfl rfl rfl Tryd.isAgg23 (by first | assumption | omega) rfl | exact ld_row (k := 3) cL_len rfl rfl rfl Tryd.isAgg23 (by first | assumption | omega) rfl | exact ld_row0 (k := 3) cL_len rfl rfl rfl Tryd.isAgg23 (by first | assumption | omega) rfl | exact ld_row (k := 4) cL_len rfl rfl rfl Tryd.isAgg23 (by first | assumption | omega) rfl | exact ld_row0 (k := 4) cL_len rfl rfl rfl Tryd.isAgg23 (by first | assumption | omega) rfl | exact ld_row (k := 5) cL_len rfl rfl rfl Tryd.isAgg23 (by first | assumption | omega) rfl | exact ld_row0 (k := 5) cL_len rfl rfl rfl Tryd.isAgg23 (by first | assumption | omega) rfl | exact ld_i Tryd.isAgg23 rfl | exact ld_tab (List.mem_cons_self) Tryd.isAgg23 (fitsC_off (by omega) (by omega) (by omega) (by omega)) | exact ld_tab (List.mem_cons_of_mem _ List.mem_cons_self) Tryd.isAgg23 (joinsC_off (by omega) (by omega) (by omega) (by omega)))) ?_
                refine OD.still (wants_plain rfl) rfl (still_r1 (mk := fun y => .call { callee := .builtin .len, args := #[y], argTypes := #[23] }) rfl ot (by first | exact len_list rfl Tryd.runUnderlying23 | exact len_row rfl Tryd.runUnderlying23)) ?_
                refine OD.still (wants_plain rfl) rfl (still_bin rfl ot ot (bin_add (wrap_i64 (by omega) (by omega)))) ?_
                refine OD.still (wants_plain rfl) rfl (still_bin rfl ot opd_const bin_gtr) ?_
                refine OD.wk (Wk.as_ (n := 104) (l' := [(4, _), (9, _), (101, _)]) (S' := [_, ⟨b9, 25, 2, [_, _]⟩, ⟨b3, 27, 3, [_, _, _]⟩, ⟨b4, 25, 2, [_, _]⟩, ⟨b2, 25, 2, [_, _]⟩, _]) rfl rfl ⟨lk, lk, lk, trivial⟩) ?_
                refine OD.nil ?_
                refine CD.cond ot (fun hc7 => ?_) (fun hc7 => ?_)
                · have hc7' := hc7
                  (try simp only [decide_eq_true_eq, decide_eq_false_iff_not, beq_iff_eq, bne_iff_ne, Bool.not_eq_true', Bool.not_eq_false', Bool.not_eq_true, Bool.not_eq_false, beq_eq_false_iff_ne, ne_eq, bne_eq_false_iff_eq, Bool.and_eq_true, Bool.or_eq_true, Bool.not_not, Bool.and_eq_false_iff, Bool.or_eq_false_iff, Int.not_lt, Int.not_le] at hc7')
                  refine CD.seq ?_
                  refine CD.region ?_
                  refine OD.still (wants_plain rfl) rfl (still_bld (pl := []) (ds := [_, _]) rfl Tryd.zeroValue25 Tryd.runUnderlying25 places25_Lk5 trivial rfl rfl) ?_
                  refine OD.store (k := 3) (cs' := [_, _]) (wants_plain rfl) rfl rfl ot rfl rfl ot rfl rfl Tryd.sizeOf25 rfl rfl rfl ?_
                  refine OD.still (wants_plain rfl) rfl (still_as rfl opd_const) ?_
                  refine OD.still (wants_plain rfl) rfl (still_as rfl opd_const) ?_
                  refine OD.wk (Wk.as_ (n := 104) (l' := [(4, _), (5, _), (6, _)]) (S' := [_, ⟨b9, 25, 2, [_, _]⟩, ⟨b3, 27, 3, [_, _, _]⟩, ⟨b4, 25, 2, [_, _]⟩, ⟨b2, 25, 2, [_, _]⟩, _]) rfl rfl ⟨lk, lk, lk, trivial⟩) ?_
                  refine OD.nil ?_
                  refine CD.ret ?_
                  refine ⟨.inr rfl, _, [], (List.nil_sublist _), ret_three Tryd.results15 (res_cells (k := 3) (ds := [_, _]) (Nat.le_of_ble_eq_true rfl) lk rfl rfl Tryd.isAgg25 Tryd.sizeOf25 rfl rfl) (res_tmp (Nat.le_of_ble_eq_true rfl) lk) (res_tmp (Nat.le_of_ble_eq_true rfl) lk), ?_⟩
                  first | (refine ⟨_, _, _, _, _, _, _, _, _, _, ?_, rfl, own_nil, own_nil, List.Perm.refl _⟩; first | exact ask_shape (by simpa using hc1') | exact ask_twice hsx hc2' | ((first | rw [ask_on hsx hc2', askG_none hown] | rw [ask_on hsx hc2', askG_some hown]); (repeat' split) <;> first | rfl | (exfalso; simp_all; done) | (exfalso; simp_all; omega))) | (refine ⟨_, _, _, _, _, _, _, _, _, _, ?_, rfl, hoh, hoq, List.Perm.refl _⟩; first | exact ask_shape (by simpa using hc1') | exact ask_twice hsx hc2' | ((first | rw [ask_on hsx hc2', askG_none hown] | rw [ask_on hsx hc2', askG_some hown]); (repeat' split) <;> first | rfl | (exfalso; simp_all; done) | (exfalso; simp_all; omega))) | (refine ⟨_, _, _, _, _, _, _, _, _, _, ?_, rfl, hoh, hoq, by first | exact List.perm_append_comm (l₁ := [_]) | exact List.perm_append_comm⟩; first | exact ask_shape (by simpa using hc1') | exact ask_twice hsx hc2' | ((first | rw [ask_on hsx hc2', askG_none hown] | rw [ask_on hsx hc2', askG_some hown]); (repeat' split) <;> first | rfl | (exfalso; simp_all; done) | (exfalso; simp_all; omega))) | (refine ⟨_, _, _, _, _, _, _, _, _, _, ?_, rfl, hoh, hoq2, List.Perm.refl _⟩; first | exact ask_shape (by simpa using hc1') | exact ask_twice hsx hc2' | ((first | rw [ask_on hsx hc2', askG_none hown] | rw [ask_on hsx hc2', askG_some hown]); (repeat' split) <;> first | rfl | (exfalso; simp_all; done) | (exfalso; simp_all; omega))) | (refine ⟨_, _, _, _, _, _, _, _, _, _, ?_, rfl, hoh, hoq2, by first | exact List.perm_append_comm (l₁ := [_]) | exact List.perm_append_comm⟩; first | exact ask_shape (by simpa using hc1') | exact ask_twice hsx hc2' | ((first | rw [ask_on hsx hc2', askG_none hown] | rw [ask_on hsx hc2', askG_some hown]); (repeat' split) <;> first | rfl | (exfalso; simp_all; done) | (exfalso; simp_all; omega))) | (refine ⟨_, _, _, _, _, _, _, _, _, _, ?_, rfl, hoh3, hoq3, List.Perm.refl _⟩; first | exact ask_shape (by simpa using hc1') | exact ask_twice hsx hc2' | ((first | rw [ask_on hsx hc2', askG_none hown] | rw [ask_on hsx hc2', askG_some hown]); (repeat' split) <;> first | rfl | (exfalso; simp_all; done) | (exfalso; simp_all; omega))) | skip
                · have hc7' := hc7
                  (try simp only [decide_eq_true_eq, decide_eq_false_iff_not, beq_iff_eq, bne_iff_ne, Bool.not_eq_true', Bool.not_eq_false', Bool.not_eq_true, Bool.not_eq_false, beq_eq_false_iff_ne, ne_eq, bne_eq_false_iff_eq, Bool.and_eq_true, Bool.or_eq_true, Bool.not_not, Bool.and_eq_false_iff, Bool.or_eq_false_iff, Int.not_lt, Int.not_le] at hc7')
                  refine CD.skip ?_
                  refine CD.seq ?_
                  refine CD.region ?_
                  refine OD.still (wants_plain rfl) rfl (still_r1 (mk := Op.load 25) rfl ot (by first | exact ld_blks (k := 1) (ds := [_, _]) rfl rfl Tryd.isAgg25 Tryd.sizeOf25 rfl rfl | exact ld_fms cL_len Tryd.isAgg25 Tryd.sizeOf25 (by first | assumption | omega) | exact ld_rows (k := 0) cL_len rfl rfl rfl Tryd.isAgg25 Tryd.sizeOf25 (by first | assumption | omega) | exact ld_rows (k := 1) cL_len rfl rfl rfl Tryd.isAgg25 Tryd.sizeOf25 (by first | assumption | omega) | exact ld_rows (k := 2) cL_len rfl rfl rfl Tryd.isAgg25 Tryd.sizeOf25 (by first | assumption | omega) | exact ld_rows (k := 3) cL_len rfl rfl rfl Tryd.isAgg25 Tryd.sizeOf25 (by first | assumption | omega) | exact ld_rows (k := 4) cL_len rfl rfl rfl Tryd.isAgg25 Tryd.sizeOf25 (by first | assumption | omega) | exact ld_rows (k := 5) cL_len rfl rfl rfl Tryd.isAgg25 Tryd.sizeOf25 (by first | assumption | omega) | exact ld_is (ds := [_, _]) Tryd.isAgg25 Tryd.sizeOf25 rfl rfl)) ?_
                  refine OD.store (k := 3) (cs' := [_, _]) (wants_plain rfl) rfl rfl ot rfl rfl ot rfl rfl Tryd.sizeOf25 rfl rfl rfl ?_
                  refine OD.still (wants_plain rfl) rfl (still_as rfl opd_const) ?_
                  refine OD.still (wants_plain rfl) rfl (still_as rfl opd_const) ?_
                  refine OD.wk (Wk.as_ (n := 104) (l' := [(4, _), (5, _), (6, _)]) (S' := [_, ⟨b9, 25, 2, [_, _]⟩, ⟨b3, 27, 3, [_, _, _]⟩, ⟨b4, 25, 2, [_, _]⟩, ⟨b2, 25, 2, [_, _]⟩, _]) rfl rfl ⟨lk, lk, lk, trivial⟩) ?_
                  refine OD.nil ?_
                  refine CD.ret ?_
                  refine ⟨.inr rfl, _, _, (.cons_cons _ (.cons _ (.cons _ (.cons _ (.cons _ (.cons_cons _ (.refl _))))))), ret_three Tryd.results15 (res_cells (k := 3) (ds := [_, _]) (Nat.le_of_ble_eq_true rfl) lk rfl rfl Tryd.isAgg25 Tryd.sizeOf25 rfl rfl) (res_tmp (Nat.le_of_ble_eq_true rfl) lk) (res_tmp (Nat.le_of_ble_eq_true rfl) lk), ?_⟩
                  first | (refine ⟨_, _, _, _, _, _, _, _, _, _, ?_, rfl, own_nil, own_nil, List.Perm.refl _⟩; first | exact ask_shape (by simpa using hc1') | exact ask_twice hsx hc2' | ((first | rw [ask_on hsx hc2', askG_none hown] | rw [ask_on hsx hc2', askG_some hown]); (repeat' split) <;> first | rfl | (exfalso; simp_all; done) | (exfalso; simp_all; omega))) | (refine ⟨_, _, _, _, _, _, _, _, _, _, ?_, rfl, hoh, hoq, List.Perm.refl _⟩; first | exact ask_shape (by simpa using hc1') | exact ask_twice hsx hc2' | ((first | rw [ask_on hsx hc2', askG_none hown] | rw [ask_on hsx hc2', askG_some hown]); (repeat' split) <;> first | rfl | (exfalso; simp_all; done) | (exfalso; simp_all; omega))) | (refine ⟨_, _, _, _, _, _, _, _, _, _, ?_, rfl, hoh, hoq, by first | exact List.perm_append_comm (l₁ := [_]) | exact List.perm_append_comm⟩; first | exact ask_shape (by simpa using hc1') | exact ask_twice hsx hc2' | ((first | rw [ask_on hsx hc2', askG_none hown] | rw [ask_on hsx hc2', askG_some hown]); (repeat' split) <;> first | rfl | (exfalso; simp_all; done) | (exfalso; simp_all; omega))) | (refine ⟨_, _, _, _, _, _, _, _, _, _, ?_, rfl, hoh, hoq2, List.Perm.refl _⟩; first | exact ask_shape (by simpa using hc1') | exact ask_twice hsx hc2' | ((first | rw [ask_on hsx hc2', askG_none hown] | rw [ask_on hsx hc2', askG_some hown]); (repeat' split) <;> first | rfl | (exfalso; simp_all; done) | (exfalso; simp_all; omega))) | (refine ⟨_, _, _, _, _, _, _, _, _, _, ?_, rfl, hoh, hoq2, by first | exact List.perm_append_comm (l₁ := [_]) | exact List.perm_append_comm⟩; first | exact ask_shape (by simpa using hc1') | exact ask_twice hsx hc2' | ((first | rw [ask_on hsx hc2', askG_none hown] | rw [ask_on hsx hc2', askG_some hown]); (repeat' split) <;> first | rfl | (exfalso; simp_all; done) | (exfalso; simp_all; omega))) | (refine ⟨_, _, _, _, _, _, _, _, _, _, ?_, rfl, hoh3, hoq3, List.Perm.refl _⟩; first | exact ask_shape (by simpa using hc1') | exact ask_twice hsx hc2' | ((first | rw [ask_on hsx hc2', askG_none hown] | rw [ask_on hsx hc2', askG_some hown]); (repeat' split) <;> first | rfl | (exfalso; simp_all; done) | (exfalso; simp_all; omega))) | skip
          · exact absurd hc3 (by first | (simp at hc3; done) | (simp at hc3; omega))

end Go.Proofs.YtcogdagfcndbfaaDoor.Lk

namespace Go.Proofs.YtcogdagfcndbfaaDoor.Tab
open Go.RowKit Go.ChangeShapes

theorem chunks {α : Type} {g : α → List Value} {c : Nat} : ∀ (rs : List α) (cs : List Value), cs.length = rs.length * c → (∀ i (h : i < rs.length), (cs.drop (i * c)).take c = g rs[i]) → cs = rs.flatMap g
  | [], cs, hl, _ => by
    have : cs = [] := List.length_eq_zero_iff.1 (by simpa using hl)
    simp [this]
  | r :: rs, cs, hl, h => by
    have h0 : cs.take c = g r := by
      have h1 := h 0 (by simp)
      simp only [Nat.zero_mul, List.drop_zero] at h1
      exact h1
    have ih := chunks (c := c) rs (cs.drop c) (by rw [List.length_drop, hl, List.length_cons, Nat.add_mul]; omega) (fun i hi => by
      have h1 := h (i + 1) (by simpa using hi)
      rw [List.drop_drop, show c + i * c = (i + 1) * c from by rw [Nat.add_mul]; omega]
      exact h1)
    rw [List.flatMap_cons, ← h0, ← ih, List.take_append_drop]

variable {H : Type} {enc : TypeId × Value → H} {P : Program} {w : World} {base : Nat} {sp : Nat → Bool} {held : Bool}

/-- Whoever reads as 'f r' at type e has the cells 'g r'. -/
def Reads (enc : TypeId × Value → H) (P : Program) (w : World) (base : Nat) (sp : Nat → Bool) (held : Bool) (e : TypeId) {α : Type} (f : α → DataW H) (g : α → List Value) : Prop :=
  ∀ (fuel : Nat) (cs : List Value) (x : DataW H × List MemPlace), DataW.trod enc P w base sp held fuel e cs = some x → ∀ r, x.1 = f r → cs = g r

theorem reads_bool {e : TypeId} (he : P.underlying e = some .bool) : Reads enc P w base sp held e (fun b : Bool => .lit (.bool b)) (fun b => [.bool b]) := by
  intro fuel cs x h r hr
  obtain ⟨b, rfl, rfl⟩ := DataW.trod_bool he h
  simp at hr
  rw [hr]

theorem reads_int {e : TypeId} {k : IntKind} (he : P.underlying e = some (.int k)) : Reads enc P w base sp held e (fun b : Int => .lit (.int k b)) (fun b => [.int k b]) := by
  intro fuel cs x h r hr
  obtain ⟨b, rfl, rfl, _⟩ := DataW.trod_int he h
  simp at hr
  rw [hr]

theorem reads_arr {α : Type} {f : α → DataW H} {g : α → List Value} {t e : TypeId} {n : Nat} (ht : P.underlying t = some (.array n e)) (hct : P.cellsOf t = n * P.cellsOf e)
    (hin : Reads enc P w base sp held e f g) : Reads enc P w base sp held t (fun rs : List α => .agg (rs.map f)) (fun rs => rs.flatMap g) := by
  intro fuel cs x h rs hr
  obtain ⟨xs, m, _, rfl, hl, hn, hi⟩ := DataW.trod_array ht h
  simp only [DataW.agg.injEq] at hr
  have hrl : rs.length = n := by have := congrArg List.length hr; simp at this; omega
  refine chunks rs cs (by rw [hl, hct, hrl]) fun i hi' => ?_
  have h1 := hi i (by omega)
  rw [List.getElem?_eq_getElem (by omega)] at h1
  refine hin m _ _ h1 _ ?_
  have := congrArg (fun l => l[i]?) hr
  simpa [List.getElem?_eq_getElem hi', List.getElem?_eq_getElem (show i < xs.length by omega)] using this

/-- The cells of a listed variable. -/
theorem var_cells {α : Type} {f : α → DataW Unit} {g : α → List Value} {W : World} {n : String} {gi : Nat} {t : TypeId} {cs : Array Value} {fuel : Nat} {p : List MemPlace} {r : α}
    (hg : P.globalNamed n = some gi) (hv : W.var? P n = some cs) (hd : DataW.trod (fun _ => ()) P W 0 (fun _ => true) false fuel t cs.toList = some (f r, p))
    (hin : Reads (fun _ => ()) P W 0 (fun _ => true) false t f g) (i : Nat) (v : Value) (hi : (g r)[i]? = some v) : W.cell? ⟨gi, i, none⟩ = some v := by
  have h := hin _ _ _ hd r rfl
  rw [World.var?_cell hg hv i, ← Array.getElem?_toList, h, hi]

/-- A row of cells lies at the head of a block. -/
def TabAt (w : World) (g : Nat) (l : List Value) : Prop := ∀ i v, l[i]? = some v → w.cell? ⟨g, i, none⟩ = some v

end Go.Proofs.YtcogdagfcndbfaaDoor.Tab

namespace Go.Proofs.YtcogdagfcndbfaaDoor.V
open Go.RowKit
set_option linter.unusedVariables false

theorem VP.run {P : Program} {G : List (Nat × List Value)} {f : FuncId} {args : List D} {vs : List Value} {r : Value} {w : World} (h : VP P G f args (.v r))
    (hG : ∀ g ∈ G, g.2 ≠ [] ∧ Tab.TabAt w g.1 g.2) (hr : RepL w (live (fun _ => False) []) args vs) : Calls P f vs.toArray w fun e w' => e = .returned r ∧ Below w.heap.size w w' := by
  have hp : Pre G (fun _ => False) w [] args vs := by
    refine ⟨fun _ h => h.elim, fun g hg => ⟨⟨?_, by simp [bks], fun h => h⟩, (hG g hg).2⟩, ⟨fun B hB => by simp at hB, by simp [bks]⟩, hr⟩
    obtain ⟨h1, h2⟩ := hG g hg
    cases hl : g.2 with
    | nil => exact absurd hl h1
    | cons v l => exact World.block_lt_of_cell? w _ (h2 0 v (by rw [hl]; rfl))
  refine (h _ w vs hp).mono fun e w' ⟨v, r', S', h1, ⟨h2, h3⟩, h4, h5, h6⟩ => ?_
  subst h2
  rw [h5.v_eq] at h1
  exact ⟨h1, h6.os, h6.tape, h6.output, h6.size, fun k hk => (h6.block k hk (by simp [bks])).1⟩

theorem RepL.vs (w : World) (L : Nat → Prop) (vs : List Value) : RepL w L (vs.map .v) vs := ⟨by simp, fun i h1 h2 => by rw [List.getElem_map]; exact .v _⟩
theorem wf_bd {a : Int} (h : (Lit.int .i64 a).wf = true) : -9223372036854775808 ≤ a ∧ a ≤ 9223372036854775807 := bounds_i64 h
end Go.Proofs.YtcogdagfcndbfaaDoor.V

namespace Go.Proofs.YtcogdagfcndbfaaDoor.Lk
open Go.RowKit V
set_option linter.unusedVariables false
set_option linter.unusedSimpArgs false

theorem view_res {S Sh Sq : List Blk} {h' q' : List L} {ah aq : Option Addr} {ch cq : Nat} {ds : List D} (hh : OwnK h' ah ch Sh) (hq : OwnK q' aq cq Sq) (hp : S.Perm (Sq ++ Sh)) {ds' : List D} (hv : Views S ds ds') :
    View S (.tup (.agg [.v (.slice ah h'.length ch), .v (.slice aq q'.length cq)] :: ds)) (.tup (locksS h' q' :: ds')) :=
  view_tup (ds := _ :: _) ⟨view_agg (ds := [_, _]) ⟨view_own hh (cells_len _) (fun B hB => hp.mem_iff.2 (by simp [hB])), view_own hq (cells_len _) (fun B hB => hp.mem_iff.2 (by simp [hB])), trivial⟩, hv⟩

theorem ask_vp {held queue : List L} {x : L} (g : Good held queue) {h' q' : List L} {b : Bool} {e : Int} (he : askF held queue x = (h', q', b, e)) : VP Tryd.prog TG 15 [locksS held queue, lockD x] (.tup [locksS h' q', .v (.bool b), .v (.int .i64 e)]) :=
  (ask_vc held queue x g).cover fun r S hr => by
    obtain ⟨h1, q1, b1, e1, ah, ch, aq, cq, Sh, Sq, h, rfl, hh, hq, hp⟩ := hr
    rw [he] at h
    obtain ⟨rfl, rfl, rfl, rfl⟩ := h
    exact view_res hh hq hp ⟨view_same, view_same, trivial⟩

theorem pickedF_bd (n : Int) {m : Int} (hm : 1 ≤ m) : 0 ≤ pickedF n m ∧ pickedF n m < m := by
  unfold pickedF
  split
  · exact ⟨Int.tmod_nonneg _ (by omega), Int.tmod_lt_of_pos _ (by omega)⟩
  · exact ⟨Int.tmod_nonneg _ (by omega), Int.tmod_lt_of_pos _ (by omega)⟩
def FitsTab (w : World) : Prop := Tab.TabAt w 1 fitsC
def JoinsTab (w : World) : Prop := Tab.TabAt w 0 joinsC
theorem tabs {w : World} (h1 : FitsTab w) (h2 : JoinsTab w) : ∀ g ∈ TG, g.2 ≠ [] ∧ Tab.TabAt w g.1 g.2 := by
  intro g hg
  rcases List.mem_cons.1 hg with rfl | hg
  · exact ⟨by decide, h1⟩
  · rcases List.mem_cons.1 hg with rfl | hg
    · exact ⟨by decide, h2⟩
    · cases hg
end Go.Proofs.YtcogdagfcndbfaaDoor.Lk
