/-
  Locks: Leave sealed; walks of modeOf, Join, Fits.
-/
import Derived.Test.YtcogdagfcndbfaaDoorLk8
import Derived.Test.YtcogdagfcndbfaaDoorLkG
namespace Go.Proofs.YtcogdagfcndbfaaDoor.Lk
open Go.RowKit V
set_option linter.unusedVariables false
set_option linter.unusedSimpArgs false

def intsD (ws : List Int) : D := .list 1 (ws.flatMap cI) ws.length
theorem leave_vp {held queue : List L} {t : Int} (g : Good held queue) {h' q' : List L} {ws : List Int} {e : Int} (he : leaveF held queue t = (h', q', ws, e)) : VP Tryd.prog TG 17 [locksS held queue, .v (.int .i64 t)] (.tup [locksS h' q', intsD ws, .v (.int .i64 e)]) :=
  (leave_vc held queue t g).cover fun r S hr => by
    obtain ⟨h1, q1, ws1, e1, ah, ch, aq, cq, aw, cw, Sh, Sq, Sw, h, rfl, hh, hq, hw, hp⟩ := hr
    rw [he] at h
    obtain ⟨rfl, rfl, rfl, rfl⟩ := h
    exact view_tup (ds := [_, _, _]) ⟨view_agg (ds := [_, _]) ⟨view_own hh (cells_len _) (fun B hB => hp.mem_iff.2 (by simp [hB])), view_own hq (cells_len _) (fun B hB => hp.mem_iff.2 (by simp [hB])), trivial⟩, view_own hw (fm_len cI_len _) (fun B hB => hp.mem_iff.2 (by simp [hB])), view_same, trivial⟩

def modeF (l : List L) (t : Int) (th : ByteArray) : Int := ((l.find? (hasK t th)).map (·.m)).getD 0
theorem modeF_hit {l : List L} {t : Int} {th : ByteArray} {k : Nat} (hk : k < l.length) (h0 : ∀ x ∈ l.take k, hasK t th x = false) (h : hasK t th l[k] = true) : modeF l t th = l[k].m := by
  unfold modeF
  have : l.find? (hasK t th) = some l[k] := by
    rw [List.find?_eq_some_iff_getElem]
    exact ⟨h, k, hk, rfl, fun j hj => by rw [h0 _ (List.mem_iff_getElem.2 ⟨j, by rw [List.length_take]; omega, by rw [List.getElem_take]⟩)]; rfl⟩
  rw [this]; rfl
theorem modeF_none {l : List L} {t : Int} {th : ByteArray} {k : Nat} (hk : l.length ≤ k) (h0 : ∀ x ∈ l.take k, hasK t th x = false) : modeF l t th = 0 := by
  rw [List.take_of_length_le hk] at h0
  unfold modeF
  rw [List.find?_eq_none.2 (fun x hx => by rw [h0 x hx]; exact Bool.false_ne_true)]; rfl
variable (G : List (Nat × List Value))

set_option maxRecDepth 100000 in
theorem modeOf_vp (held queue : List L) (t : Int) (th : ByteArray) (hlen : held.length ≤ 1000000) : VP Tryd.prog G 19 [locksS held queue, .v (.int .i64 t), .v (.string th)] (.v (.int .i64 (modeF held t th))) := by
  refine VC.body Tryd.func19 rfl Tryd.ntmps19 (Nat.le_of_ble_eq_true rfl) fun X0 w0 S00 => ?_
  unfold locksS locksD
  refine CD.seq ?_
  refine CD.region ?_
  refine OD.box (ds := [_, _]) (wants_plain rfl) rfl rfl (opd_tmp rfl (by (repeat (first | exact look_hit | (apply look_miss; focus rfl) | exact look_nil)); done)) rfl rfl (fun b3 => ?_)
  refine OD.still (wants_plain rfl) rfl (still_as rfl opd_const) ?_
  refine OD.wk (Wk.as_ (n := 39) (l' := [(1, _), (2, _), (3, _)]) (S' := [⟨b3, 25, 2, [_, _]⟩]) rfl rfl ⟨(by (repeat (first | exact look_hit | (apply look_miss; focus rfl) | exact look_nil)); done), (by (repeat (first | exact look_hit | (apply look_miss; focus rfl) | exact look_nil)); done), (by (repeat (first | exact look_hit | (apply look_miss; focus rfl) | exact look_nil)); done), trivial⟩) ?_
  refine OD.nil ?_
  refine CD.seq ?_
  refine CD.seq ?_
  refine CD.region ?_
  refine OD.still (wants_plain rfl) rfl (still_as rfl opd_const) ?_
  refine OD.wk (Wk.as_ (n := 39) (l' := [(1, _), (2, _), (3, _), (7, _)]) (S' := [⟨b3, 25, 2, [_, _]⟩]) rfl rfl ⟨(by (repeat (first | exact look_hit | (apply look_miss; focus rfl) | exact look_nil)); done), (by (repeat (first | exact look_hit | (apply look_miss; focus rfl) | exact look_nil)); done), (by (repeat (first | exact look_hit | (apply look_miss; focus rfl) | exact look_nil)); done), (by (repeat (first | exact look_hit | (apply look_miss; focus rfl) | exact look_nil)); done), trivial⟩) ?_
  refine OD.nil ?_
  refine CD.block ?_
  refine CD.wk (Wk.asS (n := 39) (l' := [(1, .v (.int .i64 t)), (2, .v (.string th)), (3, .v (.pointer (some ⟨b3, 0, none⟩))), (7, .v (.int .i64 ((0) : Nat)))]) (S' := [⟨b3, 25, 2, [.list 3 (held.flatMap cL) held.length, .list 3 (queue.flatMap cL) queue.length]⟩]) rfl (by repeat (first | exact List.Sublist.refl _ | apply List.Sublist.cons)) ⟨(by (repeat (first | exact look_hit | (apply look_at; focus (first | rfl | (simp; done) | (congr 2; omega))) | (apply look_miss; focus rfl))); done), (by (repeat (first | exact look_hit | (apply look_at; focus (first | rfl | (simp; done) | (congr 2; omega))) | (apply look_miss; focus rfl))); done), (by (repeat (first | exact look_hit | (apply look_at; focus (first | rfl | (simp; done) | (congr 2; omega))) | (apply look_miss; focus rfl))); done), (by (repeat (first | exact look_hit | (apply look_at; focus (first | rfl | (simp; done) | (congr 2; omega))) | (apply look_miss; focus rfl))); done), trivial⟩) (CD.loop (fun (k : Nat) y__ => (k ≤ held.length) ∧ (∀ x ∈ held.take k, hasK t th x = false) ∧ y__ = (⟨39, [(1, .v (.int .i64 t)), (2, .v (.string th)), (3, .v (.pointer (some ⟨b3, 0, none⟩))), (7, .v (.int .i64 (k : Nat)))], [⟨b3, 25, 2, [.list 3 (held.flatMap cL) held.length, .list 3 (queue.flatMap cL) queue.length]⟩]⟩ : St)) (fun (k : Nat) => held.length - k) 0 ⟨Nat.zero_le _, (by simp), rfl⟩ ?_)
  rintro k _ ⟨hk, h0, rfl⟩
  refine CD.seq ?_
  refine CD.seq ?_
  refine CD.region ?_
  refine OD.still (wants_plain rfl) rfl (still_mv rfl (opd_tmp rfl (by (repeat (first | exact look_hit | (apply look_miss; focus rfl) | exact look_nil)); done))) ?_
  refine OD.still (wants_plain rfl) rfl (still_r1 (mk := fun y => Op.fieldAddr 25 y 0) rfl (opd_tmp rfl (by (repeat (first | exact look_hit | (apply look_miss; focus rfl) | exact look_nil)); done)) (by first | exact fa_ptr (off := 0) Tryd.runUnderlying25 rfl Tryd.sizeOf23 rfl | exact fa_iptr (off := 0) Tryd.runUnderlying25 rfl Tryd.sizeOf23 rfl)) ?_
  refine OD.still (wants_plain rfl) rfl (still_r1 (mk := Op.load 23) rfl (opd_tmp rfl (by (repeat (first | exact look_hit | (apply look_miss; focus rfl) | exact look_nil)); done)) (by first | exact ld_blk (k := 0) rfl rfl Tryd.isAgg23 rfl | exact ld_fm cL_len Tryd.isAgg23 (by first | assumption | omega) rfl | exact ld_fm0 cL_len Tryd.isAgg23 (by first | assumption | omega) rfl | exact ld_row (k := 0) cL_len rfl rfl rfl Tryd.isAgg23 (by first | assumption | omega) rfl | exact ld_row0 (k := 0) cL_len rfl rfl rfl Tryd.isAgg23 (by first | assumption | omega) rfl | exact ld_i Tryd.isAgg23 rfl)) ?_
  refine OD.still (wants_plain rfl) rfl (still_r1 (mk := fun y => .call { callee := .builtin .len, args := #[y], argTypes := #[23] }) rfl (opd_tmp rfl (by (repeat (first | exact look_hit | (apply look_miss; focus rfl) | exact look_nil)); done)) (by first | exact len_list rfl Tryd.runUnderlying23 | exact len_row rfl Tryd.runUnderlying23)) ?_
  refine OD.still (wants_plain rfl) rfl (still_bin rfl (opd_tmp rfl (by (repeat (first | exact look_hit | (apply look_miss; focus rfl) | exact look_nil)); done)) (opd_tmp rfl (by (repeat (first | exact look_hit | (apply look_miss; focus rfl) | exact look_nil)); done)) bin_lss) ?_
  refine OD.wk (Wk.as_ (n := 39) (l' := [(1, _), (2, _), (3, _), (7, _), (12, _)]) (S' := [⟨b3, 25, 2, [_, _]⟩]) rfl rfl ⟨(by (repeat (first | exact look_hit | (apply look_miss; focus rfl) | exact look_nil)); done), (by (repeat (first | exact look_hit | (apply look_miss; focus rfl) | exact look_nil)); done), (by (repeat (first | exact look_hit | (apply look_miss; focus rfl) | exact look_nil)); done), (by (repeat (first | exact look_hit | (apply look_miss; focus rfl) | exact look_nil)); done), (by (repeat (first | exact look_hit | (apply look_miss; focus rfl) | exact look_nil)); done), trivial⟩) ?_
  refine OD.nil ?_
  refine CD.cond (opd_tmp rfl (by (repeat (first | exact look_hit | (apply look_miss; focus rfl) | exact look_nil)); done)) (fun hc0 => ?_) (fun hc0 => ?_)
  · have hc0' := hc0
    (try simp only [decide_eq_true_eq, decide_eq_false_iff_not, beq_iff_eq, bne_iff_ne, Bool.not_eq_true', Bool.not_eq_false', Bool.not_eq_true, Bool.not_eq_false, beq_eq_false_iff_ne, ne_eq, bne_eq_false_iff_eq, Bool.and_eq_true, Bool.or_eq_true, Bool.not_not, Bool.and_eq_false_iff, Bool.or_eq_false_iff, Int.not_lt, Int.not_le] at hc0')
    have hkl : k < held.length := by omega
    refine CD.skip ?_
    refine CD.seq ?_
    refine CD.block ?_
    refine CD.seq ?_
    refine CD.region ?_
    refine OD.still (wants_plain rfl) rfl (still_r1 (mk := fun y => Op.fieldAddr 25 y 0) rfl (opd_tmp rfl (by (repeat (first | exact look_hit | (apply look_miss; focus rfl) | exact look_nil)); done)) (by first | exact fa_ptr (off := 0) Tryd.runUnderlying25 rfl Tryd.sizeOf23 rfl | exact fa_iptr (off := 0) Tryd.runUnderlying25 rfl Tryd.sizeOf23 rfl)) ?_
    refine OD.still (wants_plain rfl) rfl (still_r1 (mk := Op.load 23) rfl (opd_tmp rfl (by (repeat (first | exact look_hit | (apply look_miss; focus rfl) | exact look_nil)); done)) (by first | exact ld_blk (k := 0) rfl rfl Tryd.isAgg23 rfl | exact ld_fm cL_len Tryd.isAgg23 (by first | assumption | omega) rfl | exact ld_fm0 cL_len Tryd.isAgg23 (by first | assumption | omega) rfl | exact ld_row (k := 0) cL_len rfl rfl rfl Tryd.isAgg23 (by first | assumption | omega) rfl | exact ld_row0 (k := 0) cL_len rfl rfl rfl Tryd.isAgg23 (by first | assumption | omega) rfl | exact ld_i Tryd.isAgg23 rfl)) ?_
    refine OD.still (wants_plain rfl) rfl (still_mv rfl (opd_tmp rfl (by (repeat (first | exact look_hit | (apply look_miss; focus rfl) | exact look_nil)); done))) ?_
    refine OD.still (wants_plain rfl) rfl (still_r2 (mk := Op.indexAddr 23) rfl (opd_tmp rfl (by (repeat (first | exact look_hit | (apply look_miss; focus rfl) | exact look_nil)); done)) (opd_tmp rfl (by (repeat (first | exact look_hit | (apply look_miss; focus rfl) | exact look_nil)); done)) (by first | exact ix_list Tryd.runUnderlying23 Tryd.sizeOf27 rfl (by first | assumption | omega) | exact ix_list (j := Int.toNat _) Tryd.runUnderlying23 Tryd.sizeOf27 (Int.toNat_of_nonneg (by omega)).symm (by omega) | exact ix_row Tryd.runUnderlying23 Tryd.sizeOf27 rfl (by first | assumption | omega) | exact ix_row (j := Int.toNat _) Tryd.runUnderlying23 Tryd.sizeOf27 (Int.toNat_of_nonneg (by omega)).symm (by omega))) ?_
    refine OD.still (wants_plain rfl) rfl (still_r1 (mk := fun y => Op.fieldAddr 27 y 0) rfl (opd_tmp rfl (by (repeat (first | exact look_hit | (apply look_miss; focus rfl) | exact look_nil)); done)) (by first | exact fa_ptr (off := 0) Tryd.runUnderlying27 rfl Tryd.sizeOf3 rfl | exact fa_iptr (off := 0) Tryd.runUnderlying27 rfl Tryd.sizeOf3 rfl)) ?_
    refine OD.still (wants_plain rfl) rfl (still_r1 (mk := Op.load 3) rfl (opd_tmp rfl (by (repeat (first | exact look_hit | (apply look_miss; focus rfl) | exact look_nil)); done)) (by first | exact ld_blk (k := 0) rfl rfl Tryd.isAgg3 rfl | exact ld_fm cL_len Tryd.isAgg3 (by first | assumption | omega) rfl | exact ld_fm0 cL_len Tryd.isAgg3 (by first | assumption | omega) rfl | exact ld_row (k := 0) cL_len rfl rfl rfl Tryd.isAgg3 (by first | assumption | omega) rfl | exact ld_row0 (k := 0) cL_len rfl rfl rfl Tryd.isAgg3 (by first | assumption | omega) rfl | exact ld_i Tryd.isAgg3 rfl)) ?_
    refine OD.still (wants_plain rfl) rfl (still_mv rfl (opd_tmp rfl (by (repeat (first | exact look_hit | (apply look_miss; focus rfl) | exact look_nil)); done))) ?_
    refine OD.still (wants_plain rfl) rfl (still_bin rfl (opd_tmp rfl (by (repeat (first | exact look_hit | (apply look_miss; focus rfl) | exact look_nil)); done)) (opd_tmp rfl (by (repeat (first | exact look_hit | (apply look_miss; focus rfl) | exact look_nil)); done)) bin_eql) ?_
    refine OD.still (wants_plain rfl) rfl (still_mv rfl (opd_tmp rfl (by (repeat (first | exact look_hit | (apply look_miss; focus rfl) | exact look_nil)); done))) ?_
    refine OD.split (t := 23) (by (repeat (first | exact look_hit | (apply look_miss; focus rfl) | exact look_nil)); done) (fun hg23 => ?_) (fun hg23 => ?_)
    · have hg23' := hg23; simp only [decide_eq_true_eq, decide_eq_false_iff_not, beq_iff_eq, bne_iff_ne, Bool.not_eq_true', Bool.not_eq_false', Bool.not_eq_true, Bool.not_eq_false, beq_eq_false_iff_ne, ne_eq, bne_eq_false_iff_eq, Bool.and_eq_true, Bool.or_eq_true, Bool.not_not] at hg23'
      refine OD.still (wants_T rfl rfl rfl (by (repeat (first | exact look_hit | (apply look_miss; focus rfl) | exact look_nil)); done) (by first | rfl | assumption)) rfl (still_r1 (mk := fun y => Op.fieldAddr 25 y 0) rfl (opd_tmp rfl (by (repeat (first | exact look_hit | (apply look_miss; focus rfl) | exact look_nil)); done)) (by first | exact fa_ptr (off := 0) Tryd.runUnderlying25 rfl Tryd.sizeOf23 rfl | exact fa_iptr (off := 0) Tryd.runUnderlying25 rfl Tryd.sizeOf23 rfl)) ?_
      refine OD.still (wants_T rfl rfl rfl (by (repeat (first | exact look_hit | (apply look_miss; focus rfl) | exact look_nil)); done) (by first | rfl | assumption)) rfl (still_r1 (mk := Op.load 23) rfl (opd_tmp rfl (by (repeat (first | exact look_hit | (apply look_miss; focus rfl) | exact look_nil)); done)) (by first | exact ld_blk (k := 0) rfl rfl Tryd.isAgg23 rfl | exact ld_fm cL_len Tryd.isAgg23 (by first | assumption | omega) rfl | exact ld_fm0 cL_len Tryd.isAgg23 (by first | assumption | omega) rfl | exact ld_row (k := 0) cL_len rfl rfl rfl Tryd.isAgg23 (by first | assumption | omega) rfl | exact ld_row0 (k := 0) cL_len rfl rfl rfl Tryd.isAgg23 (by first | assumption | omega) rfl | exact ld_i Tryd.isAgg23 rfl)) ?_
      refine OD.still (wants_T rfl rfl rfl (by (repeat (first | exact look_hit | (apply look_miss; focus rfl) | exact look_nil)); done) (by first | rfl | assumption)) rfl (still_mv rfl (opd_tmp rfl (by (repeat (first | exact look_hit | (apply look_miss; focus rfl) | exact look_nil)); done))) ?_
      refine OD.still (wants_T rfl rfl rfl (by (repeat (first | exact look_hit | (apply look_miss; focus rfl) | exact look_nil)); done) (by first | rfl | assumption)) rfl (still_r2 (mk := Op.indexAddr 23) rfl (opd_tmp rfl (by (repeat (first | exact look_hit | (apply look_miss; focus rfl) | exact look_nil)); done)) (opd_tmp rfl (by (repeat (first | exact look_hit | (apply look_miss; focus rfl) | exact look_nil)); done)) (by first | exact ix_list Tryd.runUnderlying23 Tryd.sizeOf27 rfl (by first | assumption | omega) | exact ix_list (j := Int.toNat _) Tryd.runUnderlying23 Tryd.sizeOf27 (Int.toNat_of_nonneg (by omega)).symm (by omega) | exact ix_row Tryd.runUnderlying23 Tryd.sizeOf27 rfl (by first | assumption | omega) | exact ix_row (j := Int.toNat _) Tryd.runUnderlying23 Tryd.sizeOf27 (Int.toNat_of_nonneg (by omega)).symm (by omega))) ?_
      refine OD.still (wants_T rfl rfl rfl (by (repeat (first | exact look_hit | (apply look_miss; focus rfl) | exact look_nil)); done) (by first | rfl | assumption)) rfl (still_r1 (mk := fun y => Op.fieldAddr 27 y 1) rfl (opd_tmp rfl (by (repeat (first | exact look_hit | (apply look_miss; focus rfl) | exact look_nil)); done)) (by first | exact fa_ptr (off := 1) Tryd.runUnderlying27 rfl Tryd.sizeOf9 rfl | exact fa_iptr (off := 1) Tryd.runUnderlying27 rfl Tryd.sizeOf9 rfl)) ?_
      refine OD.still (wants_T rfl rfl rfl (by (repeat (first | exact look_hit | (apply look_miss; focus rfl) | exact look_nil)); done) (by first | rfl | assumption)) rfl (still_r1 (mk := Op.load 9) rfl (opd_tmp rfl (by (repeat (first | exact look_hit | (apply look_miss; focus rfl) | exact look_nil)); done)) (by first | exact ld_blk (k := 0) rfl rfl Tryd.isAgg9 rfl | exact ld_fm cL_len Tryd.isAgg9 (by first | assumption | omega) rfl | exact ld_fm0 cL_len Tryd.isAgg9 (by first | assumption | omega) rfl | exact ld_row (k := 0) cL_len rfl rfl rfl Tryd.isAgg9 (by first | assumption | omega) rfl | exact ld_row0 (k := 0) cL_len rfl rfl rfl Tryd.isAgg9 (by first | assumption | omega) rfl | exact ld_i Tryd.isAgg9 rfl)) ?_
      refine OD.still (wants_T rfl rfl rfl (by (repeat (first | exact look_hit | (apply look_miss; focus rfl) | exact look_nil)); done) (by first | rfl | assumption)) rfl (still_mv rfl (opd_tmp rfl (by (repeat (first | exact look_hit | (apply look_miss; focus rfl) | exact look_nil)); done))) ?_
      refine OD.still (wants_T rfl rfl rfl (by (repeat (first | exact look_hit | (apply look_miss; focus rfl) | exact look_nil)); done) (by first | rfl | assumption)) rfl (still_bin rfl (opd_tmp rfl (by (repeat (first | exact look_hit | (apply look_miss; focus rfl) | exact look_nil)); done)) (opd_tmp rfl (by (repeat (first | exact look_hit | (apply look_miss; focus rfl) | exact look_nil)); done)) bin_seql) ?_
      refine OD.still (wants_plain rfl) rfl (still_pickT rfl (opd_tmp rfl (by (repeat (first | exact look_hit | (apply look_miss; focus rfl) | exact look_nil)); done)) (by first | rfl | assumption) (opd_tmp rfl (by (repeat (first | exact look_hit | (apply look_miss; focus rfl) | exact look_nil)); done))) ?_
      refine OD.wk (Wk.as_ (n := 39) (l' := [(1, _), (2, _), (3, _), (7, _), (32, _)]) (S' := [⟨b3, 25, 2, [_, _]⟩]) rfl rfl ⟨(by (repeat (first | exact look_hit | (apply look_miss; focus rfl) | exact look_nil)); done), (by (repeat (first | exact look_hit | (apply look_miss; focus rfl) | exact look_nil)); done), (by (repeat (first | exact look_hit | (apply look_miss; focus rfl) | exact look_nil)); done), (by (repeat (first | exact look_hit | (apply look_miss; focus rfl) | exact look_nil)); done), (by (repeat (first | exact look_hit | (apply look_miss; focus rfl) | exact look_nil)); done), trivial⟩) ?_
      refine OD.nil ?_
      refine CD.cond (opd_tmp rfl (by (repeat (first | exact look_hit | (apply look_miss; focus rfl) | exact look_nil)); done)) (fun hc1 => ?_) (fun hc1 => ?_)
      · have hc1' := hc1
        (try simp only [decide_eq_true_eq, decide_eq_false_iff_not, beq_iff_eq, bne_iff_ne, Bool.not_eq_true', Bool.not_eq_false', Bool.not_eq_true, Bool.not_eq_false, beq_eq_false_iff_ne, ne_eq, bne_eq_false_iff_eq, Bool.and_eq_true, Bool.or_eq_true, Bool.not_not, Bool.and_eq_false_iff, Bool.or_eq_false_iff, Int.not_lt, Int.not_le] at hc1')
        refine CD.seq ?_
        refine CD.region ?_
        refine OD.still (wants_plain rfl) rfl (still_r1 (mk := fun y => Op.fieldAddr 25 y 0) rfl (opd_tmp rfl (by (repeat (first | exact look_hit | (apply look_miss; focus rfl) | exact look_nil)); done)) (by first | exact fa_ptr (off := 0) Tryd.runUnderlying25 rfl Tryd.sizeOf23 rfl | exact fa_iptr (off := 0) Tryd.runUnderlying25 rfl Tryd.sizeOf23 rfl)) ?_
        refine OD.still (wants_plain rfl) rfl (still_r1 (mk := Op.load 23) rfl (opd_tmp rfl (by (repeat (first | exact look_hit | (apply look_miss; focus rfl) | exact look_nil)); done)) (by first | exact ld_blk (k := 0) rfl rfl Tryd.isAgg23 rfl | exact ld_fm cL_len Tryd.isAgg23 (by first | assumption | omega) rfl | exact ld_fm0 cL_len Tryd.isAgg23 (by first | assumption | omega) rfl | exact ld_row (k := 0) cL_len rfl rfl rfl Tryd.isAgg23 (by first | assumption | omega) rfl | exact ld_row0 (k := 0) cL_len rfl rfl rfl Tryd.isAgg23 (by first | assumption | omega) rfl | exact ld_i Tryd.isAgg23 rfl)) ?_
        refine OD.still (wants_plain rfl) rfl (still_mv rfl (opd_tmp rfl (by (repeat (first | exact look_hit | (apply look_miss; focus rfl) | exact look_nil)); done))) ?_
        refine OD.still (wants_plain rfl) rfl (still_r2 (mk := Op.indexAddr 23) rfl (opd_tmp rfl (by (repeat (first | exact look_hit | (apply look_miss; focus rfl) | exact look_nil)); done)) (opd_tmp rfl (by (repeat (first | exact look_hit | (apply look_miss; focus rfl) | exact look_nil)); done)) (by first | exact ix_list Tryd.runUnderlying23 Tryd.sizeOf27 rfl (by first | assumption | omega) | exact ix_list (j := Int.toNat _) Tryd.runUnderlying23 Tryd.sizeOf27 (Int.toNat_of_nonneg (by omega)).symm (by omega) | exact ix_row Tryd.runUnderlying23 Tryd.sizeOf27 rfl (by first | assumption | omega) | exact ix_row (j := Int.toNat _) Tryd.runUnderlying23 Tryd.sizeOf27 (Int.toNat_of_nonneg (by omega)).symm (by omega))) ?_
        refine OD.still (wants_plain rfl) rfl (still_r1 (mk := fun y => Op.fieldAddr 27 y 2) rfl (opd_tmp rfl (by (repeat (first | exact look_hit | (apply look_miss; focus rfl) | exact look_nil)); done)) (by first | exact fa_ptr (off := 2) Tryd.runUnderlying27 rfl Tryd.sizeOf3 rfl | exact fa_iptr (off := 2) Tryd.runUnderlying27 rfl Tryd.sizeOf3 rfl)) ?_
        refine OD.still (wants_plain rfl) rfl (still_r1 (mk := Op.load 3) rfl (opd_tmp rfl (by (repeat (first | exact look_hit | (apply look_miss; focus rfl) | exact look_nil)); done)) (by first | exact ld_blk (k := 0) rfl rfl Tryd.isAgg3 rfl | exact ld_fm cL_len Tryd.isAgg3 (by first | assumption | omega) rfl | exact ld_fm0 cL_len Tryd.isAgg3 (by first | assumption | omega) rfl | exact ld_row (k := 0) cL_len rfl rfl rfl Tryd.isAgg3 (by first | assumption | omega) rfl | exact ld_row0 (k := 0) cL_len rfl rfl rfl Tryd.isAgg3 (by first | assumption | omega) rfl | exact ld_i Tryd.isAgg3 rfl)) ?_
        refine OD.still (wants_plain rfl) rfl (still_as rfl (opd_tmp rfl (by (repeat (first | exact look_hit | (apply look_miss; focus rfl) | exact look_nil)); done))) ?_
        refine OD.wk (Wk.as_ (n := 39) (l' := [(6, _)]) (S' := [⟨b3, 25, 2, [_, _]⟩]) rfl rfl ⟨(by (repeat (first | exact look_hit | (apply look_miss; focus rfl) | exact look_nil)); done), trivial⟩) ?_
        refine OD.nil ?_
        refine CD.ret ?_
        refine ⟨.inr rfl, _, [], List.nil_sublist _, ret_one Tryd.results19 (res_tmp (Nat.le_of_ble_eq_true rfl) (by (repeat (first | exact look_hit | (apply look_miss; focus rfl) | exact look_nil)); done)), ?_⟩
        refine ⟨?_, rfl⟩; first | (rw [modeF_hit hkl h0 (by unfold hasK; simp_all)]) | (rw [modeF_none (by omega) h0])
      · have hc1' := hc1
        (try simp only [decide_eq_true_eq, decide_eq_false_iff_not, beq_iff_eq, bne_iff_ne, Bool.not_eq_true', Bool.not_eq_false', Bool.not_eq_true, Bool.not_eq_false, beq_eq_false_iff_ne, ne_eq, bne_eq_false_iff_eq, Bool.and_eq_true, Bool.or_eq_true, Bool.not_not, Bool.and_eq_false_iff, Bool.or_eq_false_iff, Int.not_lt, Int.not_le] at hc1')
        refine CD.skip ?_
        refine CD.region ?_
        refine OD.still (wants_plain rfl) rfl (still_mv rfl (opd_tmp rfl (by (repeat (first | exact look_hit | (apply look_miss; focus rfl) | exact look_nil)); done))) ?_
        refine OD.still (wants_plain rfl) rfl (still_bin rfl (opd_tmp rfl (by (repeat (first | exact look_hit | (apply look_miss; focus rfl) | exact look_nil)); done)) opd_const (bin_add (wrap_i64 (by omega) (by omega)))) ?_
        refine OD.still (wants_plain rfl) rfl (still_as rfl (opd_tmp rfl (by (repeat (first | exact look_hit | (apply look_miss; focus rfl) | exact look_nil)); done))) ?_
        refine OD.wk (Wk.as_ (n := 39) (l' := [(1, _), (2, _), (3, _), (7, _)]) (S' := [⟨b3, 25, 2, [_, _]⟩]) rfl rfl ⟨(by (repeat (first | exact look_hit | (apply look_miss; focus rfl) | exact look_nil)); done), (by (repeat (first | exact look_hit | (apply look_miss; focus rfl) | exact look_nil)); done), (by (repeat (first | exact look_hit | (apply look_miss; focus rfl) | exact look_nil)); done), (by (repeat (first | exact look_hit | (apply look_miss; focus rfl) | exact look_nil)); done), trivial⟩) ?_
        refine OD.nil ?_
        refine ⟨k + 1, ⟨39, [(1, .v (.int .i64 t)), (2, .v (.string th)), (3, .v (.pointer (some ⟨b3, 0, none⟩))), (7, .v (.int .i64 ((k + 1) : Nat)))], [⟨b3, 25, 2, [.list 3 (held.flatMap cL) held.length, .list 3 (queue.flatMap cL) queue.length]⟩]⟩, ?_, Wk.asS (n := 39) rfl (by repeat (first | exact List.Sublist.refl _ | apply List.Sublist.cons)) ⟨(by (repeat (first | exact look_hit | (apply look_at; focus (first | rfl | (simp; done) | (congr 2; omega))) | (apply look_miss; focus rfl))); done), (by (repeat (first | exact look_hit | (apply look_at; focus (first | rfl | (simp; done) | (congr 2; omega))) | (apply look_miss; focus rfl))); done), (by (repeat (first | exact look_hit | (apply look_at; focus (first | rfl | (simp; done) | (congr 2; omega))) | (apply look_miss; focus rfl))); done), (by (repeat (first | exact look_hit | (apply look_at; focus (first | rfl | (simp; done) | (congr 2; omega))) | (apply look_miss; focus rfl))); done), trivial⟩, (by omega), (by rw [List.take_succ_eq_append_getElem hkl]; intro x hx; rcases List.mem_append.1 hx with hx | hx; exact h0 x hx; simp only [List.mem_singleton] at hx; subst hx; unfold hasK; simp_all), rfl⟩
        first | omega | (simp only []; omega)
    · have hg23' := hg23; simp only [decide_eq_true_eq, decide_eq_false_iff_not, beq_iff_eq, bne_iff_ne, Bool.not_eq_true', Bool.not_eq_false', Bool.not_eq_true, Bool.not_eq_false, beq_eq_false_iff_ne, ne_eq, bne_eq_false_iff_eq, Bool.and_eq_true, Bool.or_eq_true, Bool.not_not] at hg23'
      refine OD.skip (wants_F rfl rfl rfl (by (repeat (first | exact look_hit | (apply look_miss; focus rfl) | exact look_nil)); done) (by first | rfl | assumption)) rfl ?_
      refine OD.skip (wants_F rfl rfl rfl (by (repeat (first | exact look_hit | (apply look_miss; focus rfl) | exact look_nil)); done) (by first | rfl | assumption)) rfl ?_
      refine OD.skip (wants_F rfl rfl rfl (by (repeat (first | exact look_hit | (apply look_miss; focus rfl) | exact look_nil)); done) (by first | rfl | assumption)) rfl ?_
      refine OD.skip (wants_F rfl rfl rfl (by (repeat (first | exact look_hit | (apply look_miss; focus rfl) | exact look_nil)); done) (by first | rfl | assumption)) rfl ?_
      refine OD.skip (wants_F rfl rfl rfl (by (repeat (first | exact look_hit | (apply look_miss; focus rfl) | exact look_nil)); done) (by first | rfl | assumption)) rfl ?_
      refine OD.skip (wants_F rfl rfl rfl (by (repeat (first | exact look_hit | (apply look_miss; focus rfl) | exact look_nil)); done) (by first | rfl | assumption)) rfl ?_
      refine OD.skip (wants_F rfl rfl rfl (by (repeat (first | exact look_hit | (apply look_miss; focus rfl) | exact look_nil)); done) (by first | rfl | assumption)) rfl ?_
      refine OD.skip (wants_F rfl rfl rfl (by (repeat (first | exact look_hit | (apply look_miss; focus rfl) | exact look_nil)); done) (by first | rfl | assumption)) rfl ?_
      first | refine OD.still (wants_plain rfl) rfl (still_pickT rfl (opd_tmp rfl (by (repeat (first | exact look_hit | (apply look_miss; focus rfl) | exact look_nil)); done)) (by first | rfl | assumption) (opd_tmp rfl (by (repeat (first | exact look_hit | (apply look_miss; focus rfl) | exact look_nil)); done))) ?_ | refine OD.still (wants_plain rfl) rfl (still_pickF rfl (opd_tmp rfl (by (repeat (first | exact look_hit | (apply look_miss; focus rfl) | exact look_nil)); done)) (by first | rfl | assumption) opd_const) ?_
      refine OD.wk (Wk.as_ (n := 39) (l' := [(1, _), (2, _), (3, _), (7, _), (32, _)]) (S' := [⟨b3, 25, 2, [_, _]⟩]) rfl rfl ⟨(by (repeat (first | exact look_hit | (apply look_miss; focus rfl) | exact look_nil)); done), (by (repeat (first | exact look_hit | (apply look_miss; focus rfl) | exact look_nil)); done), (by (repeat (first | exact look_hit | (apply look_miss; focus rfl) | exact look_nil)); done), (by (repeat (first | exact look_hit | (apply look_miss; focus rfl) | exact look_nil)); done), (by (repeat (first | exact look_hit | (apply look_miss; focus rfl) | exact look_nil)); done), trivial⟩) ?_
      refine OD.nil ?_
      refine CD.cond (opd_tmp rfl (by (repeat (first | exact look_hit | (apply look_miss; focus rfl) | exact look_nil)); done)) (fun hc1 => ?_) (fun hc1 => ?_)
      · have hc1' := hc1
        (try simp only [decide_eq_true_eq, decide_eq_false_iff_not, beq_iff_eq, bne_iff_ne, Bool.not_eq_true', Bool.not_eq_false', Bool.not_eq_true, Bool.not_eq_false, beq_eq_false_iff_ne, ne_eq, bne_eq_false_iff_eq, Bool.and_eq_true, Bool.or_eq_true, Bool.not_not, Bool.and_eq_false_iff, Bool.or_eq_false_iff, Int.not_lt, Int.not_le] at hc1')
        refine CD.seq ?_
        refine CD.region ?_
        refine OD.still (wants_plain rfl) rfl (still_r1 (mk := fun y => Op.fieldAddr 25 y 0) rfl (opd_tmp rfl (by (repeat (first | exact look_hit | (apply look_miss; focus rfl) | exact look_nil)); done)) (by first | exact fa_ptr (off := 0) Tryd.runUnderlying25 rfl Tryd.sizeOf23 rfl | exact fa_iptr (off := 0) Tryd.runUnderlying25 rfl Tryd.sizeOf23 rfl)) ?_
        refine OD.still (wants_plain rfl) rfl (still_r1 (mk := Op.load 23) rfl (opd_tmp rfl (by (repeat (first | exact look_hit | (apply look_miss; focus rfl) | exact look_nil)); done)) (by first | exact ld_blk (k := 0) rfl rfl Tryd.isAgg23 rfl | exact ld_fm cL_len Tryd.isAgg23 (by first | assumption | omega) rfl | exact ld_fm0 cL_len Tryd.isAgg23 (by first | assumption | omega) rfl | exact ld_row (k := 0) cL_len rfl rfl rfl Tryd.isAgg23 (by first | assumption | omega) rfl | exact ld_row0 (k := 0) cL_len rfl rfl rfl Tryd.isAgg23 (by first | assumption | omega) rfl | exact ld_i Tryd.isAgg23 rfl)) ?_
        refine OD.still (wants_plain rfl) rfl (still_mv rfl (opd_tmp rfl (by (repeat (first | exact look_hit | (apply look_miss; focus rfl) | exact look_nil)); done))) ?_
        refine OD.still (wants_plain rfl) rfl (still_r2 (mk := Op.indexAddr 23) rfl (opd_tmp rfl (by (repeat (first | exact look_hit | (apply look_miss; focus rfl) | exact look_nil)); done)) (opd_tmp rfl (by (repeat (first | exact look_hit | (apply look_miss; focus rfl) | exact look_nil)); done)) (by first | exact ix_list Tryd.runUnderlying23 Tryd.sizeOf27 rfl (by first | assumption | omega) | exact ix_list (j := Int.toNat _) Tryd.runUnderlying23 Tryd.sizeOf27 (Int.toNat_of_nonneg (by omega)).symm (by omega) | exact ix_row Tryd.runUnderlying23 Tryd.sizeOf27 rfl (by first | assumption | omega) | exact ix_row (j := Int.toNat _) Tryd.runUnderlying23 Tryd.sizeOf27 (Int.toNat_of_nonneg (by omega)).symm (by omega))) ?_
        refine OD.still (wants_plain rfl) rfl (still_r1 (mk := fun y => Op.fieldAddr 27 y 2) rfl (opd_tmp rfl (by (repeat (first | exact look_hit | (apply look_miss; focus rfl) | exact look_nil)); done)) (by first | exact fa_ptr (off := 2) Tryd.runUnderlying27 rfl Tryd.sizeOf3 rfl | exact fa_iptr (off := 2) Tryd.runUnderlying27 rfl Tryd.sizeOf3 rfl)) ?_
        refine OD.still (wants_plain rfl) rfl (still_r1 (mk := Op.load 3) rfl (opd_tmp rfl (by (repeat (first | exact look_hit | (apply look_miss; focus rfl) | exact look_nil)); done)) (by first | exact ld_blk (k := 0) rfl rfl Tryd.isAgg3 rfl | exact ld_fm cL_len Tryd.isAgg3 (by first | assumption | omega) rfl | exact ld_fm0 cL_len Tryd.isAgg3 (by first | assumption | omega) rfl | exact ld_row (k := 0) cL_len rfl rfl rfl Tryd.isAgg3 (by first | assumption | omega) rfl | exact ld_row0 (k := 0) cL_len rfl rfl rfl Tryd.isAgg3 (by first | assumption | omega) rfl | exact ld_i Tryd.isAgg3 rfl)) ?_
        refine OD.still (wants_plain rfl) rfl (still_as rfl (opd_tmp rfl (by (repeat (first | exact look_hit | (apply look_miss; focus rfl) | exact look_nil)); done))) ?_
        refine OD.wk (Wk.as_ (n := 39) (l' := [(6, _)]) (S' := [⟨b3, 25, 2, [_, _]⟩]) rfl rfl ⟨(by (repeat (first | exact look_hit | (apply look_miss; focus rfl) | exact look_nil)); done), trivial⟩) ?_
        refine OD.nil ?_
        refine CD.ret ?_
        refine ⟨.inr rfl, _, [], List.nil_sublist _, ret_one Tryd.results19 (res_tmp (Nat.le_of_ble_eq_true rfl) (by (repeat (first | exact look_hit | (apply look_miss; focus rfl) | exact look_nil)); done)), ?_⟩
        refine ⟨?_, rfl⟩; first | (rw [modeF_hit hkl h0 (by unfold hasK; simp_all)]) | (rw [modeF_none (by omega) h0])
      · have hc1' := hc1
        (try simp only [decide_eq_true_eq, decide_eq_false_iff_not, beq_iff_eq, bne_iff_ne, Bool.not_eq_true', Bool.not_eq_false', Bool.not_eq_true, Bool.not_eq_false, beq_eq_false_iff_ne, ne_eq, bne_eq_false_iff_eq, Bool.and_eq_true, Bool.or_eq_true, Bool.not_not, Bool.and_eq_false_iff, Bool.or_eq_false_iff, Int.not_lt, Int.not_le] at hc1')
        refine CD.skip ?_
        refine CD.region ?_
        refine OD.still (wants_plain rfl) rfl (still_mv rfl (opd_tmp rfl (by (repeat (first | exact look_hit | (apply look_miss; focus rfl) | exact look_nil)); done))) ?_
        refine OD.still (wants_plain rfl) rfl (still_bin rfl (opd_tmp rfl (by (repeat (first | exact look_hit | (apply look_miss; focus rfl) | exact look_nil)); done)) opd_const (bin_add (wrap_i64 (by omega) (by omega)))) ?_
        refine OD.still (wants_plain rfl) rfl (still_as rfl (opd_tmp rfl (by (repeat (first | exact look_hit | (apply look_miss; focus rfl) | exact look_nil)); done))) ?_
        refine OD.wk (Wk.as_ (n := 39) (l' := [(1, _), (2, _), (3, _), (7, _)]) (S' := [⟨b3, 25, 2, [_, _]⟩]) rfl rfl ⟨(by (repeat (first | exact look_hit | (apply look_miss; focus rfl) | exact look_nil)); done), (by (repeat (first | exact look_hit | (apply look_miss; focus rfl) | exact look_nil)); done), (by (repeat (first | exact look_hit | (apply look_miss; focus rfl) | exact look_nil)); done), (by (repeat (first | exact look_hit | (apply look_miss; focus rfl) | exact look_nil)); done), trivial⟩) ?_
        refine OD.nil ?_
        refine ⟨k + 1, ⟨39, [(1, .v (.int .i64 t)), (2, .v (.string th)), (3, .v (.pointer (some ⟨b3, 0, none⟩))), (7, .v (.int .i64 ((k + 1) : Nat)))], [⟨b3, 25, 2, [.list 3 (held.flatMap cL) held.length, .list 3 (queue.flatMap cL) queue.length]⟩]⟩, ?_, Wk.asS (n := 39) rfl (by repeat (first | exact List.Sublist.refl _ | apply List.Sublist.cons)) ⟨(by (repeat (first | exact look_hit | (apply look_at; focus (first | rfl | (simp; done) | (congr 2; omega))) | (apply look_miss; focus rfl))); done), (by (repeat (first | exact look_hit | (apply look_at; focus (first | rfl | (simp; done) | (congr 2; omega))) | (apply look_miss; focus rfl))); done), (by (repeat (first | exact look_hit | (apply look_at; focus (first | rfl | (simp; done) | (congr 2; omega))) | (apply look_miss; focus rfl))); done), (by (repeat (first | exact look_hit | (apply look_at; focus (first | rfl | (simp; done) | (congr 2; omega))) | (apply look_miss; focus rfl))); done), trivial⟩, (by omega), (by rw [List.take_succ_eq_append_getElem hkl]; intro x hx; rcases List.mem_append.1 hx with hx | hx; exact h0 x hx; simp only [List.mem_singleton] at hx; subst hx; unfold hasK; simp_all), rfl⟩
        first | omega | (simp only []; omega)
  · have hc0' := hc0
    (try simp only [decide_eq_true_eq, decide_eq_false_iff_not, beq_iff_eq, bne_iff_ne, Bool.not_eq_true', Bool.not_eq_false', Bool.not_eq_true, Bool.not_eq_false, beq_eq_false_iff_ne, ne_eq, bne_eq_false_iff_eq, Bool.and_eq_true, Bool.or_eq_true, Bool.not_not, Bool.and_eq_false_iff, Bool.or_eq_false_iff, Int.not_lt, Int.not_le] at hc0')
    refine CD.exit ?_
    refine CD.seq ?_
    refine CD.region ?_
    refine OD.still (wants_plain rfl) rfl (still_as rfl opd_const) ?_
    refine OD.wk (Wk.as_ (n := 39) (l' := [(6, _)]) (S' := [⟨b3, 25, 2, [_, _]⟩]) rfl rfl ⟨(by (repeat (first | exact look_hit | (apply look_miss; focus rfl) | exact look_nil)); done), trivial⟩) ?_
    refine OD.nil ?_
    refine CD.ret ?_
    refine ⟨.inr rfl, _, [], List.nil_sublist _, ret_one Tryd.results19 (res_tmp (Nat.le_of_ble_eq_true rfl) (by (repeat (first | exact look_hit | (apply look_miss; focus rfl) | exact look_nil)); done)), ?_⟩
    refine ⟨?_, rfl⟩; first | (rw [modeF_hit hkl h0 (by unfold hasK; simp_all)]) | (rw [modeF_none (by omega) h0])

theorem join_vp (a b : Int) (ha : modeB a = true) (hb : modeB b = true) : VP Tryd.prog TG 22 [.v (.int .i64 a), .v (.int .i64 b)] (.tup [.v (.int .i64 (joinsF a b)), .v (.int .i64 0)]) := by
  refine VC.body Tryd.func22 rfl Tryd.ntmps22 (Nat.le_of_ble_eq_true rfl) fun X0 w0 S00 => ?_
  have ha2 := modeB_bd ha
  have hb2 := modeB_bd hb
  refine CD.seq ?_
  refine CD.region ?_
  refine OD.still (wants_plain rfl) rfl (still_as rfl opd_const) ?_
  refine OD.still (wants_plain rfl) rfl (still_as rfl opd_const) ?_
  refine OD.wk (Wk.as_ (n := 19) (l' := [(0, _), (1, _)]) (S' := []) rfl rfl ⟨(by (repeat (first | exact look_hit | (apply look_miss; focus rfl) | exact look_nil)); done), (by (repeat (first | exact look_hit | (apply look_miss; focus rfl) | exact look_nil)); done), trivial⟩) ?_
  refine OD.nil ?_
  refine CD.seq ?_
  refine CD.seq ?_
  refine CD.region ?_
  refine OD.still (wants_plain rfl) rfl (still_mv rfl (opd_tmp rfl (by (repeat (first | exact look_hit | (apply look_miss; focus rfl) | exact look_nil)); done))) ?_
  refine OD.callP (wants_plain rfl) rfl rfl rfl Tryd.call38 (mode_vp _ _) ⟨(opd_tmp rfl (by (repeat (first | exact look_hit | (apply look_miss; focus rfl) | exact look_nil)); done)), trivial⟩ ?_
  refine OD.still (wants_plain rfl) rfl (still_un rfl (opd_tmp rfl (by (repeat (first | exact look_hit | (apply look_miss; focus rfl) | exact look_nil)); done)) un_not) ?_
  refine OD.still (wants_plain rfl) rfl (still_mv rfl (opd_tmp rfl (by (repeat (first | exact look_hit | (apply look_miss; focus rfl) | exact look_nil)); done))) ?_
  refine OD.split (t := 9) (by (repeat (first | exact look_hit | (apply look_miss; focus rfl) | exact look_nil)); done) (fun hg9 => ?_) (fun hg9 => ?_)
  · exact absurd hg9 (by simp [ha] at hg9)
  · have hg9' := hg9; simp only [decide_eq_true_eq, decide_eq_false_iff_not, beq_iff_eq, bne_iff_ne, Bool.not_eq_true', Bool.not_eq_false', Bool.not_eq_true, Bool.not_eq_false, beq_eq_false_iff_ne, ne_eq, bne_eq_false_iff_eq, Bool.and_eq_true, Bool.or_eq_true, Bool.not_not] at hg9'
    refine OD.still (wants_T rfl rfl rfl (by (repeat (first | exact look_hit | (apply look_miss; focus rfl) | exact look_nil)); done) (by first | rfl | assumption)) rfl (still_mv rfl (opd_tmp rfl (by (repeat (first | exact look_hit | (apply look_miss; focus rfl) | exact look_nil)); done))) ?_
    refine OD.callP (wants_T rfl rfl rfl (by (repeat (first | exact look_hit | (apply look_miss; focus rfl) | exact look_nil)); done) (by first | rfl | assumption)) rfl rfl rfl Tryd.call38 (mode_vp _ _) ⟨(opd_tmp rfl (by (repeat (first | exact look_hit | (apply look_miss; focus rfl) | exact look_nil)); done)), trivial⟩ ?_
    refine OD.still (wants_T rfl rfl rfl (by (repeat (first | exact look_hit | (apply look_miss; focus rfl) | exact look_nil)); done) (by first | rfl | assumption)) rfl (still_un rfl (opd_tmp rfl (by (repeat (first | exact look_hit | (apply look_miss; focus rfl) | exact look_nil)); done)) un_not) ?_
    refine OD.still (wants_plain rfl) rfl (still_pickF rfl (opd_tmp rfl (by (repeat (first | exact look_hit | (apply look_miss; focus rfl) | exact look_nil)); done)) (by first | rfl | assumption) (opd_tmp rfl (by (repeat (first | exact look_hit | (apply look_miss; focus rfl) | exact look_nil)); done))) ?_
    refine OD.wk (Wk.as_ (n := 19) (l' := [(0, _), (1, _), (13, _)]) (S' := []) rfl rfl ⟨(by (repeat (first | exact look_hit | (apply look_miss; focus rfl) | exact look_nil)); done), (by (repeat (first | exact look_hit | (apply look_miss; focus rfl) | exact look_nil)); done), (by (repeat (first | exact look_hit | (apply look_miss; focus rfl) | exact look_nil)); done), trivial⟩) ?_
    refine OD.nil ?_
    refine CD.cond (opd_tmp rfl (by (repeat (first | exact look_hit | (apply look_miss; focus rfl) | exact look_nil)); done)) (fun hc0 => ?_) (fun hc0 => ?_)
    · exact absurd hc0 (by simp_all)
    · have hc0' := hc0
      (try simp only [decide_eq_true_eq, decide_eq_false_iff_not, beq_iff_eq, bne_iff_ne, Bool.not_eq_true', Bool.not_eq_false', Bool.not_eq_true, Bool.not_eq_false, beq_eq_false_iff_ne, ne_eq, bne_eq_false_iff_eq, Bool.and_eq_true, Bool.or_eq_true, Bool.not_not, Bool.and_eq_false_iff, Bool.or_eq_false_iff, Int.not_lt, Int.not_le] at hc0')
      refine CD.skip ?_
      refine CD.seq ?_
      refine CD.region ?_
      refine OD.still (wants_plain rfl) rfl (still_mv rfl (opd_tmp rfl (by (repeat (first | exact look_hit | (apply look_miss; focus rfl) | exact look_nil)); done))) ?_
      refine OD.still (wants_plain rfl) rfl (still_mv rfl (opd_tmp rfl (by (repeat (first | exact look_hit | (apply look_miss; focus rfl) | exact look_nil)); done))) ?_
      refine OD.still (wants_plain rfl) rfl (still_r2 (mk := Op.indexAddr 60) rfl opd_glob (opd_tmp rfl (by (repeat (first | exact look_hit | (apply look_miss; focus rfl) | exact look_nil)); done)) (by first | exact ix_arr Tryd.runUnderlying60 Tryd.sizeOf59 rfl (by first | assumption | omega) | exact ix_arr (j := Int.toNat _) Tryd.runUnderlying60 Tryd.sizeOf59 (Int.toNat_of_nonneg (by omega)).symm (by omega))) ?_
      refine OD.still (wants_plain rfl) rfl (still_r2 (mk := Op.indexAddr 59) rfl (opd_tmp rfl (by (repeat (first | exact look_hit | (apply look_miss; focus rfl) | exact look_nil)); done)) (opd_tmp rfl (by (repeat (first | exact look_hit | (apply look_miss; focus rfl) | exact look_nil)); done)) (by first | exact ix_arr Tryd.runUnderlying59 Tryd.sizeOf3 rfl (by first | assumption | omega) | exact ix_arr (j := Int.toNat _) Tryd.runUnderlying59 Tryd.sizeOf3 (Int.toNat_of_nonneg (by omega)).symm (by omega))) ?_
      refine OD.still (wants_plain rfl) rfl (still_r1 (mk := Op.load 3) rfl (opd_tmp rfl (by (repeat (first | exact look_hit | (apply look_miss; focus rfl) | exact look_nil)); done)) (by first | exact ld_i Tryd.isAgg3 rfl | exact ld_tab (List.mem_cons_self) Tryd.isAgg3 (fitsC_off (by omega) (by omega) (by omega) (by omega)) | exact ld_tab (List.mem_cons_of_mem _ List.mem_cons_self) Tryd.isAgg3 (joinsC_off (by omega) (by omega) (by omega) (by omega)))) ?_
      refine OD.still (wants_plain rfl) rfl (still_as rfl (opd_tmp rfl (by (repeat (first | exact look_hit | (apply look_miss; focus rfl) | exact look_nil)); done))) ?_
      refine OD.still (wants_plain rfl) rfl (still_as rfl opd_const) ?_
      refine OD.wk (Wk.as_ (n := 19) (l' := [(4, _), (5, _)]) (S' := []) rfl rfl ⟨(by (repeat (first | exact look_hit | (apply look_miss; focus rfl) | exact look_nil)); done), (by (repeat (first | exact look_hit | (apply look_miss; focus rfl) | exact look_nil)); done), trivial⟩) ?_
      refine OD.nil ?_
      refine CD.ret ?_
      refine ⟨.inr rfl, _, [], List.nil_sublist _, ret_two Tryd.results22 (res_tmp (Nat.le_of_ble_eq_true rfl) (by (repeat (first | exact look_hit | (apply look_miss; focus rfl) | exact look_nil)); done)) (res_tmp (Nat.le_of_ble_eq_true rfl) (by (repeat (first | exact look_hit | (apply look_miss; focus rfl) | exact look_nil)); done)), ?_⟩
      exact ⟨by first | rfl | (simp [*]; done), rfl⟩

theorem fits_vp (a b : Int) (ha : modeB a = true) (hb : modeB b = true) : VP Tryd.prog TG 20 [.v (.int .i64 a), .v (.int .i64 b)] (.tup [.v (.bool (fitsF a b)), .v (.int .i64 0)]) := by
  refine VC.body Tryd.func20 rfl Tryd.ntmps20 (Nat.le_of_ble_eq_true rfl) fun X0 w0 S00 => ?_
  have ha2 := modeB_bd ha
  have hb2 := modeB_bd hb
  refine CD.seq ?_
  refine CD.region ?_
  refine OD.still (wants_plain rfl) rfl (still_as rfl opd_const) ?_
  refine OD.still (wants_plain rfl) rfl (still_as rfl opd_const) ?_
  refine OD.wk (Wk.as_ (n := 19) (l' := [(0, _), (1, _)]) (S' := []) rfl rfl ⟨(by (repeat (first | exact look_hit | (apply look_miss; focus rfl) | exact look_nil)); done), (by (repeat (first | exact look_hit | (apply look_miss; focus rfl) | exact look_nil)); done), trivial⟩) ?_
  refine OD.nil ?_
  refine CD.seq ?_
  refine CD.seq ?_
  refine CD.region ?_
  refine OD.still (wants_plain rfl) rfl (still_mv rfl (opd_tmp rfl (by (repeat (first | exact look_hit | (apply look_miss; focus rfl) | exact look_nil)); done))) ?_
  refine OD.callP (wants_plain rfl) rfl rfl rfl Tryd.call38 (mode_vp _ _) ⟨(opd_tmp rfl (by (repeat (first | exact look_hit | (apply look_miss; focus rfl) | exact look_nil)); done)), trivial⟩ ?_
  refine OD.still (wants_plain rfl) rfl (still_un rfl (opd_tmp rfl (by (repeat (first | exact look_hit | (apply look_miss; focus rfl) | exact look_nil)); done)) un_not) ?_
  refine OD.still (wants_plain rfl) rfl (still_mv rfl (opd_tmp rfl (by (repeat (first | exact look_hit | (apply look_miss; focus rfl) | exact look_nil)); done))) ?_
  refine OD.split (t := 9) (by (repeat (first | exact look_hit | (apply look_miss; focus rfl) | exact look_nil)); done) (fun hg9 => ?_) (fun hg9 => ?_)
  · exact absurd hg9 (by simp [ha] at hg9)
  · have hg9' := hg9; simp only [decide_eq_true_eq, decide_eq_false_iff_not, beq_iff_eq, bne_iff_ne, Bool.not_eq_true', Bool.not_eq_false', Bool.not_eq_true, Bool.not_eq_false, beq_eq_false_iff_ne, ne_eq, bne_eq_false_iff_eq, Bool.and_eq_true, Bool.or_eq_true, Bool.not_not] at hg9'
    refine OD.still (wants_T rfl rfl rfl (by (repeat (first | exact look_hit | (apply look_miss; focus rfl) | exact look_nil)); done) (by first | rfl | assumption)) rfl (still_mv rfl (opd_tmp rfl (by (repeat (first | exact look_hit | (apply look_miss; focus rfl) | exact look_nil)); done))) ?_
    refine OD.callP (wants_T rfl rfl rfl (by (repeat (first | exact look_hit | (apply look_miss; focus rfl) | exact look_nil)); done) (by first | rfl | assumption)) rfl rfl rfl Tryd.call38 (mode_vp _ _) ⟨(opd_tmp rfl (by (repeat (first | exact look_hit | (apply look_miss; focus rfl) | exact look_nil)); done)), trivial⟩ ?_
    refine OD.still (wants_T rfl rfl rfl (by (repeat (first | exact look_hit | (apply look_miss; focus rfl) | exact look_nil)); done) (by first | rfl | assumption)) rfl (still_un rfl (opd_tmp rfl (by (repeat (first | exact look_hit | (apply look_miss; focus rfl) | exact look_nil)); done)) un_not) ?_
    refine OD.still (wants_plain rfl) rfl (still_pickF rfl (opd_tmp rfl (by (repeat (first | exact look_hit | (apply look_miss; focus rfl) | exact look_nil)); done)) (by first | rfl | assumption) (opd_tmp rfl (by (repeat (first | exact look_hit | (apply look_miss; focus rfl) | exact look_nil)); done))) ?_
    refine OD.wk (Wk.as_ (n := 19) (l' := [(0, _), (1, _), (13, _)]) (S' := []) rfl rfl ⟨(by (repeat (first | exact look_hit | (apply look_miss; focus rfl) | exact look_nil)); done), (by (repeat (first | exact look_hit | (apply look_miss; focus rfl) | exact look_nil)); done), (by (repeat (first | exact look_hit | (apply look_miss; focus rfl) | exact look_nil)); done), trivial⟩) ?_
    refine OD.nil ?_
    refine CD.cond (opd_tmp rfl (by (repeat (first | exact look_hit | (apply look_miss; focus rfl) | exact look_nil)); done)) (fun hc0 => ?_) (fun hc0 => ?_)
    · exact absurd hc0 (by simp_all)
    · have hc0' := hc0
      (try simp only [decide_eq_true_eq, decide_eq_false_iff_not, beq_iff_eq, bne_iff_ne, Bool.not_eq_true', Bool.not_eq_false', Bool.not_eq_true, Bool.not_eq_false, beq_eq_false_iff_ne, ne_eq, bne_eq_false_iff_eq, Bool.and_eq_true, Bool.or_eq_true, Bool.not_not, Bool.and_eq_false_iff, Bool.or_eq_false_iff, Int.not_lt, Int.not_le] at hc0')
      refine CD.skip ?_
      refine CD.seq ?_
      refine CD.region ?_
      refine OD.still (wants_plain rfl) rfl (still_mv rfl (opd_tmp rfl (by (repeat (first | exact look_hit | (apply look_miss; focus rfl) | exact look_nil)); done))) ?_
      refine OD.still (wants_plain rfl) rfl (still_mv rfl (opd_tmp rfl (by (repeat (first | exact look_hit | (apply look_miss; focus rfl) | exact look_nil)); done))) ?_
      refine OD.still (wants_plain rfl) rfl (still_r2 (mk := Op.indexAddr 68) rfl opd_glob (opd_tmp rfl (by (repeat (first | exact look_hit | (apply look_miss; focus rfl) | exact look_nil)); done)) (by first | exact ix_arr Tryd.runUnderlying68 Tryd.sizeOf67 rfl (by first | assumption | omega) | exact ix_arr (j := Int.toNat _) Tryd.runUnderlying68 Tryd.sizeOf67 (Int.toNat_of_nonneg (by omega)).symm (by omega))) ?_
      refine OD.still (wants_plain rfl) rfl (still_r2 (mk := Op.indexAddr 67) rfl (opd_tmp rfl (by (repeat (first | exact look_hit | (apply look_miss; focus rfl) | exact look_nil)); done)) (opd_tmp rfl (by (repeat (first | exact look_hit | (apply look_miss; focus rfl) | exact look_nil)); done)) (by first | exact ix_arr Tryd.runUnderlying67 Tryd.sizeOf4 rfl (by first | assumption | omega) | exact ix_arr (j := Int.toNat _) Tryd.runUnderlying67 Tryd.sizeOf4 (Int.toNat_of_nonneg (by omega)).symm (by omega))) ?_
      refine OD.still (wants_plain rfl) rfl (still_r1 (mk := Op.load 4) rfl (opd_tmp rfl (by (repeat (first | exact look_hit | (apply look_miss; focus rfl) | exact look_nil)); done)) (by first | exact ld_i Tryd.isAgg4 rfl | exact ld_tab (List.mem_cons_self) Tryd.isAgg4 (fitsC_off (by omega) (by omega) (by omega) (by omega)) | exact ld_tab (List.mem_cons_of_mem _ List.mem_cons_self) Tryd.isAgg4 (joinsC_off (by omega) (by omega) (by omega) (by omega)))) ?_
      refine OD.still (wants_plain rfl) rfl (still_as rfl (opd_tmp rfl (by (repeat (first | exact look_hit | (apply look_miss; focus rfl) | exact look_nil)); done))) ?_
      refine OD.still (wants_plain rfl) rfl (still_as rfl opd_const) ?_
      refine OD.wk (Wk.as_ (n := 19) (l' := [(4, _), (5, _)]) (S' := []) rfl rfl ⟨(by (repeat (first | exact look_hit | (apply look_miss; focus rfl) | exact look_nil)); done), (by (repeat (first | exact look_hit | (apply look_miss; focus rfl) | exact look_nil)); done), trivial⟩) ?_
      refine OD.nil ?_
      refine CD.ret ?_
      refine ⟨.inr rfl, _, [], List.nil_sublist _, ret_two Tryd.results20 (res_tmp (Nat.le_of_ble_eq_true rfl) (by (repeat (first | exact look_hit | (apply look_miss; focus rfl) | exact look_nil)); done)) (res_tmp (Nat.le_of_ble_eq_true rfl) (by (repeat (first | exact look_hit | (apply look_miss; focus rfl) | exact look_nil)); done)), ?_⟩
      exact ⟨by first | rfl | (simp [*]; done), rfl⟩

end Go.Proofs.YtcogdagfcndbfaaDoor.Lk
