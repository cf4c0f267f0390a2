/-
  What the proof of WaitsSomebody leans on, part 4 of 4: walks of the program's functions at the level of values, and plain facts of what they compute.
-/
import Derived.Test.YtcogdagfcndbfaaDoorPWaitsSomebody3
namespace Go.Proofs.YtcogdagfcndbfaaDoor.Lk
open Go.RowKit V
set_option linter.unusedVariables false
set_option linter.unusedSimpArgs false

/-- For whom one waits: who holds the thing and does not go with it, and, if one holds nothing of it, who stands ahead. -/
def waitsL (held pre : List L) (q : L) : List Int := (held.filter (clash q)).map L.t ++ (if findI held q.t q.th < 0 then (pre.filter (onTh q)).map L.t else [])
theorem filt_hit {p : L → Bool} {base : List Int} {l : List L} {i : Nat} (hi : i < l.length) (h : p l[i] = true) : (base ++ ((l.take i).filter p).map L.t) ++ [l[i].t] = base ++ ((l.take (i + 1)).filter p).map L.t := by
  rw [List.take_succ_eq_append_getElem hi, List.filter_append, List.map_append, List.append_assoc]; simp [h]
theorem filt_miss {p : L → Bool} {base : List Int} {l : List L} {i : Nat} (hi : i < l.length) (h : ¬ p l[i] = true) : base ++ ((l.take i).filter p).map L.t = base ++ ((l.take (i + 1)).filter p).map L.t := by
  rw [List.take_succ_eq_append_getElem hi, List.filter_append, List.map_append]; simp [h]
theorem filt_len {p : L → Bool} {l : List L} {i : Nat} : (((l.take i).filter p).map L.t).length ≤ l.length := by
  rw [List.length_map]; exact Nat.le_trans (List.length_filter_le _ _) (by rw [List.length_take]; omega)

theorem info3_Lkj : (Tryd.prog.info? 3).map (fun i => (i.zero, i.size, i.bytes)) = some (some (.int .i64 0), 1, 8) := by kernel_rfl

set_option maxHeartbeats 4000000 in
set_option maxRecDepth 100000 in
theorem waits_vc (held queue : List L) (i : Nat) (hi : i < queue.length) (hhs : ∀ h ∈ held, modeB h.m = true) (hqs : ∀ h ∈ queue, modeB h.m = true) (hh : held.length ≤ 1000) (hqq : queue.length ≤ 1000) : VC Tryd.prog TG 39 [locksS held queue, .v (.int .i64 (i : Int))] [] (RetL cI 3 1 (waitsL held (queue.take i) queue[i])) := by
  refine VC.body Tryd.func39 rfl Tryd.ntmps39 (Nat.le_of_ble_eq_true rfl) fun X0 w0 S00 => ?_
  have hmx : maxLen = 9223372036854775807 := rfl
  unfold locksS locksD
  obtain ⟨q, hq⟩ : ∃ q, queue[i] = q := ⟨_, rfl⟩
  obtain ⟨pre, hpre⟩ : ∃ p, queue.take i = p := ⟨_, rfl⟩
  have hqm := modeB_bd (hqs _ (List.getElem_mem hi))
  have hqm0 := hqm
  have hti : (queue.take i).length = i := by rw [List.length_take]; omega
  rw [hq] at hqm
  refine CD.seq ?_
  refine CD.region ?_
  refine OD.box (ds := [_, _]) (wants_plain rfl) rfl rfl ot rfl rfl (fun b2 => ?_)
  refine OD.still (wants_plain rfl) rfl (still_as rfl opd_const) ?_
  refine OD.wk (Wk.as_ (n := 80) (l' := [(1, _), (2, _)]) (S' := [⟨b2, 25, 2, [_, _]⟩]) rfl rfl ⟨lk, lk, trivial⟩) ?_
  refine OD.nil ?_
  refine CD.seq ?_
  refine CD.region ?_
  refine OD.still (wants_plain rfl) rfl (still_r1 (mk := fun y => Op.fieldAddr 25 y 1) rfl ot (by first | exact fa_ptr (off := 1) Tryd.runUnderlying25 rfl Tryd.sizeOf23 rfl | exact fa_iptr (off := 1) Tryd.runUnderlying25 rfl Tryd.sizeOf23 rfl)) ?_
  refine OD.still (wants_plain rfl) rfl (still_r1 (mk := Op.load 23) rfl ot (by first | exact ld_blk (k := 0) rfl rfl Tryd.isAgg23 rfl | exact ld_fm cL_len Tryd.isAgg23 (by first | assumption | omega) rfl | exact ld_fm0 cL_len Tryd.isAgg23 (by first | assumption | omega) rfl | exact ld_row (k := 0) cL_len rfl rfl rfl Tryd.isAgg23 (by first | assumption | omega) rfl | exact ld_row0 (k := 0) cL_len rfl rfl rfl Tryd.isAgg23 (by first | assumption | omega) rfl | exact ld_i Tryd.isAgg23 rfl | exact ld_tab (List.mem_cons_self) Tryd.isAgg23 (fitsC_off (by omega) (by omega) (by omega) (by omega)))) ?_
  refine OD.still (wants_plain rfl) rfl (still_mv rfl ot) ?_
  refine OD.still (wants_plain rfl) rfl (still_r2 (mk := Op.indexAddr 23) rfl ot ot (by first | exact ix_list Tryd.runUnderlying23 Tryd.sizeOf27 rfl (by first | assumption | omega) | exact ix_list (j := Int.toNat _) Tryd.runUnderlying23 Tryd.sizeOf27 (Int.toNat_of_nonneg (by omega)).symm (by omega) | exact ix_row Tryd.runUnderlying23 Tryd.sizeOf27 rfl (by first | assumption | omega) | exact ix_row (j := Int.toNat _) Tryd.runUnderlying23 Tryd.sizeOf27 (Int.toNat_of_nonneg (by omega)).symm (by omega))) ?_
  refine OD.still (wants_plain rfl) rfl (still_r1 (mk := Op.load 27) rfl ot (by first | exact ld_blks (k := 0) (ds := [_, _, _]) rfl rfl Tryd.isAgg27 Tryd.sizeOf27 rfl rfl | exact ld_fms cL_len Tryd.isAgg27 Tryd.sizeOf27 (by first | assumption | omega) | exact ld_rows (k := 0) cL_len rfl rfl rfl Tryd.isAgg27 Tryd.sizeOf27 (by first | assumption | omega) | exact ld_is (ds := [_, _, _]) Tryd.isAgg27 Tryd.sizeOf27 rfl rfl)) ?_
  refine OD.alloc (ds := [_, _, _]) (wants_plain rfl) rfl rfl Tryd.zeroValue27 rfl (fun b5 => ?_)
  refine OD.store (k := 0) (cs' := [_, _, _]) (wants_plain rfl) rfl rfl ot rfl rfl ot rfl rfl Tryd.sizeOf27 rfl rfl rfl ?_
  refine OD.wk (Wk.as_ (n := 80) (l' := [(1, _), (2, _), (5, _)]) (S' := [⟨b5, 27, 3, [_, _, _]⟩, ⟨b2, 25, 2, [_, _]⟩]) rfl rfl ⟨lk, lk, lk, trivial⟩) ?_
  refine OD.nil ?_
  refine CD.seq ?_
  refine CD.region ?_
  refine OD.still (wants_plain rfl) rfl (still_as rfl opd_const) ?_
  refine OD.wk (Wk.as_ (n := 80) (l' := [(1, _), (2, _), (5, _), (6, _)]) (S' := (⟨b5, 27, 3, [_, _, _]⟩ :: ⟨b2, 25, 2, [_, _]⟩ :: [])) rfl rfl ⟨lk, lk, lk, lk, trivial⟩) ?_
  refine OD.nil ?_
  refine CD.seq ?_
  refine CD.seq ?_
  refine CD.region ?_
  refine OD.still (wants_plain rfl) rfl (still_r1 (mk := fun y => Op.fieldAddr 25 y 0) rfl ot (by first | exact fa_ptr (off := 0) Tryd.runUnderlying25 rfl Tryd.sizeOf23 rfl | exact fa_iptr (off := 0) Tryd.runUnderlying25 rfl Tryd.sizeOf23 rfl)) ?_
  refine OD.still (wants_plain rfl) rfl (still_r1 (mk := Op.load 23) rfl ot (by first | exact ld_blk (k := 1) rfl rfl Tryd.isAgg23 rfl | exact ld_fm cL_len Tryd.isAgg23 (by first | assumption | omega) rfl | exact ld_fm0 cL_len Tryd.isAgg23 (by first | assumption | omega) rfl | exact ld_row (k := 0) cL_len rfl rfl rfl Tryd.isAgg23 (by first | assumption | omega) rfl | exact ld_row0 (k := 0) cL_len rfl rfl rfl Tryd.isAgg23 (by first | assumption | omega) rfl | exact ld_row (k := 1) cL_len rfl rfl rfl Tryd.isAgg23 (by first | assumption | omega) rfl | exact ld_row0 (k := 1) cL_len rfl rfl rfl Tryd.isAgg23 (by first | assumption | omega) rfl | exact ld_i Tryd.isAgg23 rfl | exact ld_tab (List.mem_cons_self) Tryd.isAgg23 (fitsC_off (by omega) (by omega) (by omega) (by omega)))) ?_
  refine OD.still (wants_plain rfl) rfl (still_r1 (mk := fun y => .call { callee := .builtin .len, args := #[y], argTypes := #[23] }) rfl ot (by first | exact len_list rfl Tryd.runUnderlying23 | exact len_row rfl Tryd.runUnderlying23)) ?_
  refine OD.still (wants_plain rfl) rfl (still_mv rfl opd_const) ?_
  refine OD.wk (Wk.as_ (n := 80) (l' := [(1, _), (2, _), (5, _), (6, _), (17, _), (18, _), (19, _)]) (S' := (⟨b5, 27, 3, [_, _, _]⟩ :: ⟨b2, 25, 2, [_, _]⟩ :: [])) rfl rfl ⟨lk, lk, lk, lk, lk, lk, lk, trivial⟩) ?_
  refine OD.nil ?_
  refine CD.block ?_
  refine CD.wk (Wk.asS (n := 80) (l' := [(1, .v (.int .i64 (i : Int))), (2, .v (.pointer (some ⟨b2, 0, none⟩))), (5, .v (.pointer (some ⟨b5, 0, none⟩))), (6, .v (.slice none (([] ++ ((held.take (0)).filter (clash q)).map L.t)).length (0))), (17, .list 3 (held.flatMap cL) held.length), (18, .v (.int .i64 (held.length : Nat))), (19, .v (.int .i64 ((0) : Nat)))]) (S' := ((⟨b5, 27, 3, cL queue[i]⟩ : Blk) :: (⟨b2, 25, 2, [.list 3 (held.flatMap cL) held.length, .list 3 (queue.flatMap cL) queue.length]⟩ : Blk) :: ([]))) rfl (by repeat (first | exact List.Sublist.refl _ | apply List.Sublist.cons_cons | apply List.Sublist.cons)) ⟨(by (repeat (first | exact look_hit | (apply look_at; focus (first | rfl | (simp; done) | (congr 2; omega) | (apply row_eq; first | exact filt_hit hlt hcl | exact filt_miss hlt hcl) | (apply row_eq; simp; done))) | (apply look_miss; focus rfl))); done), (by (repeat (first | exact look_hit | (apply look_at; focus (first | rfl | (simp; done) | (congr 2; omega) | (apply row_eq; first | exact filt_hit hlt hcl | exact filt_miss hlt hcl) | (apply row_eq; simp; done))) | (apply look_miss; focus rfl))); done), (by (repeat (first | exact look_hit | (apply look_at; focus (first | rfl | (simp; done) | (congr 2; omega) | (apply row_eq; first | exact filt_hit hlt hcl | exact filt_miss hlt hcl) | (apply row_eq; simp; done))) | (apply look_miss; focus rfl))); done), (by (repeat (first | exact look_hit | (apply look_at; focus (first | rfl | (simp; done) | (congr 2; omega) | (apply row_eq; first | exact filt_hit hlt hcl | exact filt_miss hlt hcl) | (apply row_eq; simp; done))) | (apply look_miss; focus rfl))); done), (by (repeat (first | exact look_hit | (apply look_at; focus (first | rfl | (simp; done) | (congr 2; omega) | (apply row_eq; first | exact filt_hit hlt hcl | exact filt_miss hlt hcl) | (apply row_eq; simp; done))) | (apply look_miss; focus rfl))); done), (by (repeat (first | exact look_hit | (apply look_at; focus (first | rfl | (simp; done) | (congr 2; omega) | (apply row_eq; first | exact filt_hit hlt hcl | exact filt_miss hlt hcl) | (apply row_eq; simp; done))) | (apply look_miss; focus rfl))); done), (by (repeat (first | exact look_hit | (apply look_at; focus (first | rfl | (simp; done) | (congr 2; omega) | (apply row_eq; first | exact filt_hit hlt hcl | exact filt_miss hlt hcl) | (apply row_eq; simp; done))) | (apply look_miss; focus rfl))); done), trivial⟩) (CD.loop (fun (gh__ : Nat × Option Addr × Nat × List Blk) y__ => match gh__ with | (k, adw, cpw, Sw) => (k ≤ held.length) ∧ (OwnL 3 1 ((([] ++ ((held.take k).filter (clash q)).map L.t)).flatMap cI) (([] ++ ((held.take k).filter (clash q)).map L.t)).length adw cpw Sw) ∧ y__ = (⟨80, [(1, .v (.int .i64 (i : Int))), (2, .v (.pointer (some ⟨b2, 0, none⟩))), (5, .v (.pointer (some ⟨b5, 0, none⟩))), (6, .v (.slice adw (([] ++ ((held.take k).filter (clash q)).map L.t)).length cpw)), (17, .list 3 (held.flatMap cL) held.length), (18, .v (.int .i64 (held.length : Nat))), (19, .v (.int .i64 (k : Nat)))], ((⟨b5, 27, 3, cL queue[i]⟩ : Blk) :: (⟨b2, 25, 2, [.list 3 (held.flatMap cL) held.length, .list 3 (queue.flatMap cL) queue.length]⟩ : Blk) :: Sw)⟩ : St)) (fun (gh__ : Nat × Option Addr × Nat × List Blk) => match gh__ with | (k, adw, cpw, Sw) => held.length - k) (0, none, 0, []) ⟨(Nat.zero_le _), (OwnL.cast ownL_nil (by first | rfl | simp)), rfl⟩ ?_)
  rintro ⟨k, adw, cpw, Sw⟩ _ ⟨hk, how, rfl⟩
  refine CD.seq ?_
  refine CD.region ?_
  refine OD.still (wants_plain rfl) rfl (still_bin rfl ot ot bin_lss) ?_
  refine OD.wk (Wk.as_ (n := 80) (l' := [(1, _), (2, _), (5, _), (6, _), (17, _), (18, _), (19, _), (20, _)]) (S' := (⟨b5, 27, 3, [_, _, _]⟩ :: ⟨b2, 25, 2, [_, _]⟩ :: Sw)) rfl rfl ⟨lk, lk, lk, lk, lk, lk, lk, lk, trivial⟩) ?_
  refine OD.nil ?_
  refine CD.seq ?_
  refine CD.cond ot (fun hc0 => ?_) (fun hc0 => ?_)
  · have hc0' := hc0
    (try simp only [decide_eq_true_eq, decide_eq_false_iff_not, beq_iff_eq, bne_iff_ne, Bool.not_eq_true', Bool.not_eq_false', Bool.not_eq_true, Bool.not_eq_false, beq_eq_false_iff_ne, ne_eq, bne_eq_false_iff_eq, Bool.and_eq_true, Bool.or_eq_true, Bool.not_not, Bool.and_eq_false_iff, Bool.or_eq_false_iff, Int.not_lt, Int.not_le] at hc0')
    have hlt : k < held.length := by omega
    have hhm := modeB_bd (hhs _ (List.getElem_mem hlt))
    refine CD.skip ?_
    refine CD.seq ?_
    refine CD.block ?_
    refine CD.seq ?_
    refine CD.region ?_
    refine OD.still (wants_plain rfl) rfl (still_r2 (mk := Op.indexAddr 23) rfl ot ot (by first | exact ix_list Tryd.runUnderlying23 Tryd.sizeOf27 rfl (by first | assumption | omega) | exact ix_list (j := Int.toNat _) Tryd.runUnderlying23 Tryd.sizeOf27 (Int.toNat_of_nonneg (by omega)).symm (by omega) | exact ix_row Tryd.runUnderlying23 Tryd.sizeOf27 rfl (by first | assumption | omega) | exact ix_row (j := Int.toNat _) Tryd.runUnderlying23 Tryd.sizeOf27 (Int.toNat_of_nonneg (by omega)).symm (by omega))) ?_
    refine OD.still (wants_plain rfl) rfl (still_r1 (mk := Op.load 27) rfl ot (by first | exact ld_blks (k := 0) (ds := [_, _, _]) rfl rfl Tryd.isAgg27 Tryd.sizeOf27 rfl rfl | exact ld_blks (k := 1) (ds := [_, _, _]) rfl rfl Tryd.isAgg27 Tryd.sizeOf27 rfl rfl | exact ld_fms cL_len Tryd.isAgg27 Tryd.sizeOf27 (by first | assumption | omega) | exact ld_rows (k := 0) cL_len rfl rfl rfl Tryd.isAgg27 Tryd.sizeOf27 (by first | assumption | omega) | exact ld_rows (k := 1) cL_len rfl rfl rfl Tryd.isAgg27 Tryd.sizeOf27 (by first | assumption | omega) | exact ld_is (ds := [_, _, _]) Tryd.isAgg27 Tryd.sizeOf27 rfl rfl)) ?_
    refine OD.alloc (ds := [_, _, _]) (wants_plain rfl) rfl rfl Tryd.zeroValue27 rfl (fun b8 => ?_)
    refine OD.store (k := 0) (cs' := [_, _, _]) (wants_plain rfl) rfl rfl ot rfl rfl ot rfl rfl Tryd.sizeOf27 rfl rfl rfl ?_
    refine OD.wk (Wk.as_ (n := 80) (l' := [(1, _), (2, _), (5, _), (6, _), (8, _), (17, _), (18, _), (19, _)]) (S' := (⟨b8, 27, 3, [_, _, _]⟩ :: ⟨b5, 27, 3, [_, _, _]⟩ :: ⟨b2, 25, 2, [_, _]⟩ :: Sw)) rfl rfl ⟨lk, lk, lk, lk, lk, lk, lk, lk, trivial⟩) ?_
    refine OD.nil ?_
    refine CD.seq ?_
    refine CD.draw (bks _) (by kernel_rfl) (fun _ h => h) ?_
    refine AD0.take (i := 0) rfl (by kernel_rfl) (by kernel_rfl) (by kernel_rfl) (by repeat (first | exact NP.body | apply NP.then | apply NP.cut | apply NP.inBlock | apply NP.round)) (wants_plain rfl) rfl (still_r1 (mk := fun y => Op.fieldAddr 27 y 1) rfl ot (by first | exact fa_ptr (off := 1) Tryd.runUnderlying27 rfl Tryd.sizeOf9 rfl | exact fa_iptr (off := 1) Tryd.runUnderlying27 rfl Tryd.sizeOf9 rfl)) (by exact trivial) ?_
    refine AD0.take (i := 1) rfl (by kernel_rfl) (by kernel_rfl) (by kernel_rfl) (by repeat (first | exact NP.body | apply NP.then | apply NP.cut | apply NP.inBlock | apply NP.round)) (wants_plain rfl) rfl (still_r1 (mk := Op.load 9) rfl ot (by first | exact ld_blk (k := 0) rfl rfl Tryd.isAgg9 rfl | exact ld_fm cL_len Tryd.isAgg9 (by first | assumption | omega) rfl | exact ld_fm0 cL_len Tryd.isAgg9 (by first | assumption | omega) rfl | exact ld_row (k := 0) cL_len rfl rfl rfl Tryd.isAgg9 (by first | assumption | omega) rfl | exact ld_row0 (k := 0) cL_len rfl rfl rfl Tryd.isAgg9 (by first | assumption | omega) rfl | exact ld_row (k := 1) cL_len rfl rfl rfl Tryd.isAgg9 (by first | assumption | omega) rfl | exact ld_row0 (k := 1) cL_len rfl rfl rfl Tryd.isAgg9 (by first | assumption | omega) rfl | exact ld_row (k := 2) cL_len rfl rfl rfl Tryd.isAgg9 (by first | assumption | omega) rfl | exact ld_row0 (k := 2) cL_len rfl rfl rfl Tryd.isAgg9 (by first | assumption | omega) rfl | exact ld_i Tryd.isAgg9 rfl | exact ld_tab (List.mem_cons_self) Tryd.isAgg9 (fitsC_off (by omega) (by omega) (by omega) (by omega)))) (by first | exact trivial | exact safe_blk (k0 := 0) rfl rfl | exact safe_blk (k0 := 1) rfl rfl | exact safe_blk (k0 := 2) rfl rfl) ?_
    refine AD0.take (i := 2) rfl (by kernel_rfl) (by kernel_rfl) (by kernel_rfl) (by repeat (first | exact NP.body | apply NP.then | apply NP.cut | apply NP.inBlock | apply NP.round)) (wants_plain rfl) rfl (still_r1 (mk := fun y => Op.fieldAddr 27 y 1) rfl ot (by first | exact fa_ptr (off := 1) Tryd.runUnderlying27 rfl Tryd.sizeOf9 rfl | exact fa_iptr (off := 1) Tryd.runUnderlying27 rfl Tryd.sizeOf9 rfl)) (by exact trivial) ?_
    refine AD0.take (i := 3) rfl (by kernel_rfl) (by kernel_rfl) (by kernel_rfl) (by repeat (first | exact NP.body | apply NP.then | apply NP.cut | apply NP.inBlock | apply NP.round)) (wants_plain rfl) rfl (still_r1 (mk := Op.load 9) rfl ot (by first | exact ld_blk (k := 1) rfl rfl Tryd.isAgg9 rfl | exact ld_fm cL_len Tryd.isAgg9 (by first | assumption | omega) rfl | exact ld_fm0 cL_len Tryd.isAgg9 (by first | assumption | omega) rfl | exact ld_row (k := 0) cL_len rfl rfl rfl Tryd.isAgg9 (by first | assumption | omega) rfl | exact ld_row0 (k := 0) cL_len rfl rfl rfl Tryd.isAgg9 (by first | assumption | omega) rfl | exact ld_row (k := 1) cL_len rfl rfl rfl Tryd.isAgg9 (by first | assumption | omega) rfl | exact ld_row0 (k := 1) cL_len rfl rfl rfl Tryd.isAgg9 (by first | assumption | omega) rfl | exact ld_row (k := 2) cL_len rfl rfl rfl Tryd.isAgg9 (by first | assumption | omega) rfl | exact ld_row0 (k := 2) cL_len rfl rfl rfl Tryd.isAgg9 (by first | assumption | omega) rfl | exact ld_i Tryd.isAgg9 rfl | exact ld_tab (List.mem_cons_self) Tryd.isAgg9 (fitsC_off (by omega) (by omega) (by omega) (by omega)))) (by first | exact trivial | exact safe_blk (k0 := 0) rfl rfl | exact safe_blk (k0 := 1) rfl rfl | exact safe_blk (k0 := 2) rfl rfl) ?_
    refine AD0.take (i := 4) rfl (by kernel_rfl) (by kernel_rfl) (by kernel_rfl) (by repeat (first | exact NP.body | apply NP.then | apply NP.cut | apply NP.inBlock | apply NP.round)) (wants_plain rfl) rfl (still_bin rfl ot ot bin_seql) (by exact trivial) ?_
    refine AD0.take (i := 5) rfl (by kernel_rfl) (by kernel_rfl) (by kernel_rfl) (by repeat (first | exact NP.body | apply NP.then | apply NP.cut | apply NP.inBlock | apply NP.round)) (wants_plain rfl) rfl (still_mv rfl ot) (by exact trivial) ?_
    refine AD0.split (t := 28) lk (fun hg28 => ?_) (fun hg28 => ?_)
    · have hg28' := hg28; (try simp only [decide_eq_true_eq, decide_eq_false_iff_not, beq_iff_eq, bne_iff_ne, Bool.not_eq_true', Bool.not_eq_false', Bool.not_eq_true, Bool.not_eq_false, beq_eq_false_iff_ne, ne_eq, bne_eq_false_iff_eq, Bool.and_eq_true, Bool.or_eq_true, Bool.not_not, Bool.and_eq_false_iff, Bool.or_eq_false_iff, Int.not_lt, Int.not_le] at hg28')
      refine AD0.take (i := 6) rfl (by kernel_rfl) (by kernel_rfl) (by kernel_rfl) (by repeat (first | exact NP.body | apply NP.then | apply NP.cut | apply NP.inBlock | apply NP.round)) (wants_T rfl rfl rfl lk (by first | rfl | assumption)) rfl (still_r1 (mk := fun y => Op.fieldAddr 27 y 0) rfl ot (by first | exact fa_ptr (off := 0) Tryd.runUnderlying27 rfl Tryd.sizeOf3 rfl | exact fa_iptr (off := 0) Tryd.runUnderlying27 rfl Tryd.sizeOf3 rfl)) (by exact trivial) ?_
      refine AD0.take (i := 7) rfl (by kernel_rfl) (by kernel_rfl) (by kernel_rfl) (by repeat (first | exact NP.body | apply NP.then | apply NP.cut | apply NP.inBlock | apply NP.round)) (wants_T rfl rfl rfl lk (by first | rfl | assumption)) rfl (still_r1 (mk := Op.load 3) rfl ot (by first | exact ld_blk (k := 0) rfl rfl Tryd.isAgg3 rfl | exact ld_fm cL_len Tryd.isAgg3 (by first | assumption | omega) rfl | exact ld_fm0 cL_len Tryd.isAgg3 (by first | assumption | omega) rfl | exact ld_row (k := 0) cL_len rfl rfl rfl Tryd.isAgg3 (by first | assumption | omega) rfl | exact ld_row0 (k := 0) cL_len rfl rfl rfl Tryd.isAgg3 (by first | assumption | omega) rfl | exact ld_row (k := 1) cL_len rfl rfl rfl Tryd.isAgg3 (by first | assumption | omega) rfl | exact ld_row0 (k := 1) cL_len rfl rfl rfl Tryd.isAgg3 (by first | assumption | omega) rfl | exact ld_row (k := 2) cL_len rfl rfl rfl Tryd.isAgg3 (by first | assumption | omega) rfl | exact ld_row0 (k := 2) cL_len rfl rfl rfl Tryd.isAgg3 (by first | assumption | omega) rfl | exact ld_i Tryd.isAgg3 rfl | exact ld_tab (List.mem_cons_self) Tryd.isAgg3 (fitsC_off (by omega) (by omega) (by omega) (by omega)))) (by first | exact trivial | exact safe_blk (k0 := 0) rfl rfl | exact safe_blk (k0 := 1) rfl rfl | exact safe_blk (k0 := 2) rfl rfl) ?_
      refine AD0.take (i := 8) rfl (by kernel_rfl) (by kernel_rfl) (by kernel_rfl) (by repeat (first | exact NP.body | apply NP.then | apply NP.cut | apply NP.inBlock | apply NP.round)) (wants_T rfl rfl rfl lk (by first | rfl | assumption)) rfl (still_r1 (mk := fun y => Op.fieldAddr 27 y 0) rfl ot (by first | exact fa_ptr (off := 0) Tryd.runUnderlying27 rfl Tryd.sizeOf3 rfl | exact fa_iptr (off := 0) Tryd.runUnderlying27 rfl Tryd.sizeOf3 rfl)) (by exact trivial) ?_
      refine AD0.take (i := 9) rfl (by kernel_rfl) (by kernel_rfl) (by kernel_rfl) (by repeat (first | exact NP.body | apply NP.then | apply NP.cut | apply NP.inBlock | apply NP.round)) (wants_T rfl rfl rfl lk (by first | rfl | assumption)) rfl (still_r1 (mk := Op.load 3) rfl ot (by first | exact ld_blk (k := 1) rfl rfl Tryd.isAgg3 rfl | exact ld_fm cL_len Tryd.isAgg3 (by first | assumption | omega) rfl | exact ld_fm0 cL_len Tryd.isAgg3 (by first | assumption | omega) rfl | exact ld_row (k := 0) cL_len rfl rfl rfl Tryd.isAgg3 (by first | assumption | omega) rfl | exact ld_row0 (k := 0) cL_len rfl rfl rfl Tryd.isAgg3 (by first | assumption | omega) rfl | exact ld_row (k := 1) cL_len rfl rfl rfl Tryd.isAgg3 (by first | assumption | omega) rfl | exact ld_row0 (k := 1) cL_len rfl rfl rfl Tryd.isAgg3 (by first | assumption | omega) rfl | exact ld_row (k := 2) cL_len rfl rfl rfl Tryd.isAgg3 (by first | assumption | omega) rfl | exact ld_row0 (k := 2) cL_len rfl rfl rfl Tryd.isAgg3 (by first | assumption | omega) rfl | exact ld_i Tryd.isAgg3 rfl | exact ld_tab (List.mem_cons_self) Tryd.isAgg3 (fitsC_off (by omega) (by omega) (by omega) (by omega)))) (by first | exact trivial | exact safe_blk (k0 := 0) rfl rfl | exact safe_blk (k0 := 1) rfl rfl | exact safe_blk (k0 := 2) rfl rfl) ?_
      refine AD0.take (i := 10) rfl (by kernel_rfl) (by kernel_rfl) (by kernel_rfl) (by repeat (first | exact NP.body | apply NP.then | apply NP.cut | apply NP.inBlock | apply NP.round)) (wants_T rfl rfl rfl lk (by first | rfl | assumption)) rfl (still_bin rfl ot ot bin_neq) (by exact trivial) ?_
      refine AD0.take (i := 11) rfl (by kernel_rfl) (by kernel_rfl) (by kernel_rfl) (by repeat (first | exact NP.body | apply NP.then | apply NP.cut | apply NP.inBlock | apply NP.round)) (wants_plain rfl) rfl (still_pickT rfl ot (by first | rfl | assumption) ot) (by exact trivial) ?_
      refine AD0.take (i := 12) rfl (by kernel_rfl) (by kernel_rfl) (by kernel_rfl) (by repeat (first | exact NP.body | apply NP.then | apply NP.cut | apply NP.inBlock | apply NP.round)) (wants_plain rfl) rfl (still_mv rfl ot) (by exact trivial) ?_
      refine AD0.split (t := 35) lk (fun hg35 => ?_) (fun hg35 => ?_)
      · have hg35' := hg35; (try simp only [decide_eq_true_eq, decide_eq_false_iff_not, beq_iff_eq, bne_iff_ne, Bool.not_eq_true', Bool.not_eq_false', Bool.not_eq_true, Bool.not_eq_false, beq_eq_false_iff_ne, ne_eq, bne_eq_false_iff_eq, Bool.and_eq_true, Bool.or_eq_true, Bool.not_not, Bool.and_eq_false_iff, Bool.or_eq_false_iff, Int.not_lt, Int.not_le] at hg35')
        refine AD0.take (i := 13) rfl (by kernel_rfl) (by kernel_rfl) (by kernel_rfl) (by repeat (first | exact NP.body | apply NP.then | apply NP.cut | apply NP.inBlock | apply NP.round)) (wants_T rfl rfl rfl lk (by first | rfl | assumption)) rfl (still_r1 (mk := fun y => Op.fieldAddr 27 y 2) rfl ot (by first | exact fa_ptr (off := 2) Tryd.runUnderlying27 rfl Tryd.sizeOf3 rfl | exact fa_iptr (off := 2) Tryd.runUnderlying27 rfl Tryd.sizeOf3 rfl)) (by exact trivial) ?_
        refine AD0.take (i := 14) rfl (by kernel_rfl) (by kernel_rfl) (by kernel_rfl) (by repeat (first | exact NP.body | apply NP.then | apply NP.cut | apply NP.inBlock | apply NP.round)) (wants_T rfl rfl rfl lk (by first | rfl | assumption)) rfl (still_r1 (mk := Op.load 3) rfl ot (by first | exact ld_blk (k := 0) rfl rfl Tryd.isAgg3 rfl | exact ld_fm cL_len Tryd.isAgg3 (by first | assumption | omega) rfl | exact ld_fm0 cL_len Tryd.isAgg3 (by first | assumption | omega) rfl | exact ld_row (k := 0) cL_len rfl rfl rfl Tryd.isAgg3 (by first | assumption | omega) rfl | exact ld_row0 (k := 0) cL_len rfl rfl rfl Tryd.isAgg3 (by first | assumption | omega) rfl | exact ld_row (k := 1) cL_len rfl rfl rfl Tryd.isAgg3 (by first | assumption | omega) rfl | exact ld_row0 (k := 1) cL_len rfl rfl rfl Tryd.isAgg3 (by first | assumption | omega) rfl | exact ld_row (k := 2) cL_len rfl rfl rfl Tryd.isAgg3 (by first | assumption | omega) rfl | exact ld_row0 (k := 2) cL_len rfl rfl rfl Tryd.isAgg3 (by first | assumption | omega) rfl | exact ld_i Tryd.isAgg3 rfl | exact ld_tab (List.mem_cons_self) Tryd.isAgg3 (fitsC_off (by omega) (by omega) (by omega) (by omega)))) (by first | exact trivial | exact safe_blk (k0 := 0) rfl rfl | exact safe_blk (k0 := 1) rfl rfl | exact safe_blk (k0 := 2) rfl rfl) ?_
        refine AD0.take (i := 15) rfl (by kernel_rfl) (by kernel_rfl) (by kernel_rfl) (by repeat (first | exact NP.body | apply NP.then | apply NP.cut | apply NP.inBlock | apply NP.round)) (wants_T rfl rfl rfl lk (by first | rfl | assumption)) rfl (still_r1 (mk := fun y => Op.fieldAddr 27 y 2) rfl ot (by first | exact fa_ptr (off := 2) Tryd.runUnderlying27 rfl Tryd.sizeOf3 rfl | exact fa_iptr (off := 2) Tryd.runUnderlying27 rfl Tryd.sizeOf3 rfl)) (by exact trivial) ?_
        refine AD0.take (i := 16) rfl (by kernel_rfl) (by kernel_rfl) (by kernel_rfl) (by repeat (first | exact NP.body | apply NP.then | apply NP.cut | apply NP.inBlock | apply NP.round)) (wants_T rfl rfl rfl lk (by first | rfl | assumption)) rfl (still_r1 (mk := Op.load 3) rfl ot (by first | exact ld_blk (k := 1) rfl rfl Tryd.isAgg3 rfl | exact ld_fm cL_len Tryd.isAgg3 (by first | assumption | omega) rfl | exact ld_fm0 cL_len Tryd.isAgg3 (by first | assumption | omega) rfl | exact ld_row (k := 0) cL_len rfl rfl rfl Tryd.isAgg3 (by first | assumption | omega) rfl | exact ld_row0 (k := 0) cL_len rfl rfl rfl Tryd.isAgg3 (by first | assumption | omega) rfl | exact ld_row (k := 1) cL_len rfl rfl rfl Tryd.isAgg3 (by first | assumption | omega) rfl | exact ld_row0 (k := 1) cL_len rfl rfl rfl Tryd.isAgg3 (by first | assumption | omega) rfl | exact ld_row (k := 2) cL_len rfl rfl rfl Tryd.isAgg3 (by first | assumption | omega) rfl | exact ld_row0 (k := 2) cL_len rfl rfl rfl Tryd.isAgg3 (by first | assumption | omega) rfl | exact ld_i Tryd.isAgg3 rfl | exact ld_tab (List.mem_cons_self) Tryd.isAgg3 (fitsC_off (by omega) (by omega) (by omega) (by omega)))) (by first | exact trivial | exact safe_blk (k0 := 0) rfl rfl | exact safe_blk (k0 := 1) rfl rfl | exact safe_blk (k0 := 2) rfl rfl) ?_
        refine AD0.take (i := 17) rfl (by kernel_rfl) (by kernel_rfl) (by kernel_rfl) (by repeat (first | exact NP.body | apply NP.then | apply NP.cut | apply NP.inBlock | apply NP.round)) (wants_T rfl rfl rfl lk (by first | rfl | assumption)) rfl (still_r2 (mk := Op.indexAddr 68) rfl opd_glob ot (by first | exact ix_arr Tryd.runUnderlying68 Tryd.sizeOf67 rfl (by first | assumption | omega) | exact ix_arr (j := Int.toNat _) Tryd.runUnderlying68 Tryd.sizeOf67 (Int.toNat_of_nonneg (by omega)).symm (by omega))) (by exact trivial) ?_
        refine AD0.take (i := 18) rfl (by kernel_rfl) (by kernel_rfl) (by kernel_rfl) (by repeat (first | exact NP.body | apply NP.then | apply NP.cut | apply NP.inBlock | apply NP.round)) (wants_T rfl rfl rfl lk (by first | rfl | assumption)) rfl (still_r2 (mk := Op.indexAddr 67) rfl ot ot (by first | exact ix_arr Tryd.runUnderlying67 Tryd.sizeOf4 rfl (by first | assumption | omega) | exact ix_arr (j := Int.toNat _) Tryd.runUnderlying67 Tryd.sizeOf4 (Int.toNat_of_nonneg (by omega)).symm (by omega))) (by exact trivial) ?_
        refine AD0.take (i := 19) rfl (by kernel_rfl) (by kernel_rfl) (by kernel_rfl) (by repeat (first | exact NP.body | apply NP.then | apply NP.cut | apply NP.inBlock | apply NP.round)) (wants_T rfl rfl rfl lk (by first | rfl | assumption)) rfl (still_r1 (mk := Op.load 4) rfl ot (by first | exact ld_blk (k := 0) rfl rfl Tryd.isAgg4 rfl | exact ld_blk (k := 1) rfl rfl Tryd.isAgg4 rfl | exact ld_blk (k := 2) rfl rfl Tryd.isAgg4 rfl | exact ld_fm cL_len Tryd.isAgg4 (by first | assumption | omega) rfl | exact ld_fm0 cL_len Tryd.isAgg4 (by first | assumption | omega) rfl | exact ld_row (k := 0) cL_len rfl rfl rfl Tryd.isAgg4 (by first | assumption | omega) rfl | exact ld_row0 (k := 0) cL_len rfl rfl rfl Tryd.isAgg4 (by first | assumption | omega) rfl | exact ld_row (k := 1) cL_len rfl rfl rfl Tryd.isAgg4 (by first | assumption | omega) rfl | exact ld_row0 (k := 1) cL_len rfl rfl rfl Tryd.isAgg4 (by first | assumption | omega) rfl | exact ld_row (k := 2) cL_len rfl rfl rfl Tryd.isAgg4 (by first | assumption | omega) rfl | exact ld_row0 (k := 2) cL_len rfl rfl rfl Tryd.isAgg4 (by first | assumption | omega) rfl | exact ld_i Tryd.isAgg4 rfl | exact ld_tab (List.mem_cons_self) Tryd.isAgg4 (fitsC_off (by omega) (by omega) (by omega) (by omega)))) (by first | exact trivial | exact safe_blk (k0 := 0) rfl rfl | exact safe_blk (k0 := 1) rfl rfl | exact safe_blk (k0 := 2) rfl rfl) ?_
        refine AD0.take (i := 20) rfl (by kernel_rfl) (by kernel_rfl) (by kernel_rfl) (by repeat (first | exact NP.body | apply NP.then | apply NP.cut | apply NP.inBlock | apply NP.round)) (wants_T rfl rfl rfl lk (by first | rfl | assumption)) rfl (still_un rfl ot un_not) (by exact trivial) ?_
        refine AD0.take (i := 21) rfl (by kernel_rfl) (by kernel_rfl) (by kernel_rfl) (by repeat (first | exact NP.body | apply NP.then | apply NP.cut | apply NP.inBlock | apply NP.round)) (wants_plain rfl) rfl (still_pickT rfl ot (by first | rfl | assumption) ot) (by exact trivial) ?_
        refine AD0.later rfl ?_
        refine AD.wk (y := ⟨80, [(1, _), (2, _), (5, _), (6, _), (8, _), (17, _), (18, _), (19, _), (44, _)], (⟨b8, 27, 3, [_, _, _]⟩ :: ⟨b5, 27, 3, [_, _, _]⟩ :: ⟨b2, 25, 2, [_, _]⟩ :: Sw)⟩) (Wk.as_ rfl rfl ⟨lk, lk, lk, lk, lk, lk, lk, lk, lk, trivial⟩) rfl ?_
        refine AD.done (by kernel_rfl) ?_
        refine CD.cond ot (fun hc1 => ?_) (fun hc1 => ?_)
        · have hc1' := hc1
          (try simp only [decide_eq_true_eq, decide_eq_false_iff_not, beq_iff_eq, bne_iff_ne, Bool.not_eq_true', Bool.not_eq_false', Bool.not_eq_true, Bool.not_eq_false, beq_eq_false_iff_ne, ne_eq, bne_eq_false_iff_eq, Bool.and_eq_true, Bool.or_eq_true, Bool.not_not, Bool.and_eq_false_iff, Bool.or_eq_false_iff, Int.not_lt, Int.not_le] at hc1')
          have hcl : clash q held[k] = true := by unfold clash; subst hq; simp_all
          refine CD.region ?_
          refine OD.still (wants_plain rfl) rfl (still_mv rfl ot) ?_
          refine OD.still (wants_plain rfl) rfl (still_r1 (mk := fun y => Op.fieldAddr 27 y 0) rfl ot (by first | exact fa_ptr (off := 0) Tryd.runUnderlying27 rfl Tryd.sizeOf3 rfl | exact fa_iptr (off := 0) Tryd.runUnderlying27 rfl Tryd.sizeOf3 rfl)) ?_
          refine OD.still (wants_plain rfl) rfl (still_r1 (mk := Op.load 3) rfl ot (by first | exact ld_blk (k := 0) rfl rfl Tryd.isAgg3 rfl | exact ld_fm cL_len Tryd.isAgg3 (by first | assumption | omega) rfl | exact ld_fm0 cL_len Tryd.isAgg3 (by first | assumption | omega) rfl | exact ld_row (k := 0) cL_len rfl rfl rfl Tryd.isAgg3 (by first | assumption | omega) rfl | exact ld_row0 (k := 0) cL_len rfl rfl rfl Tryd.isAgg3 (by first | assumption | omega) rfl | exact ld_row (k := 1) cL_len rfl rfl rfl Tryd.isAgg3 (by first | assumption | omega) rfl | exact ld_row0 (k := 1) cL_len rfl rfl rfl Tryd.isAgg3 (by first | assumption | omega) rfl | exact ld_row (k := 2) cL_len rfl rfl rfl Tryd.isAgg3 (by first | assumption | omega) rfl | exact ld_row0 (k := 2) cL_len rfl rfl rfl Tryd.isAgg3 (by first | assumption | omega) rfl | exact ld_i Tryd.isAgg3 rfl | exact ld_tab (List.mem_cons_self) Tryd.isAgg3 (fitsC_off (by omega) (by omega) (by omega) (by omega)))) ?_
          refine OD.bldS (pl := [(0, _)]) (zvs := [.int .i64 0]) (ds := [_]) (wants_plain rfl) rfl rfl Tryd.zeroValue3 Tryd.runUnderlying34 Tryd.sizeOf3 rfl rfl (by kernel_rfl) ⟨rfl, ot, trivial⟩ rfl rfl (fun b48 => ?_)
          refine OD.give (k := 0) (t := 48) (sz := 1) (m := 1) rfl lk rfl rfl rfl (Nat.le_refl _) (by decide) ?_
          refine OD.appendG (ls := (([] ++ ((held.take k).filter (clash q)).map L.t))) (new := [held[k].t]) (Sq := Sw) cI_len cI_one (wants_plain rfl) rfl rfl Tryd.underlying34 info3_Lkj rfl (by decide) ot how (perm_r11 (A := [_, _, _])) ot (by simp) (by have hmx : maxLen = 9223372036854775807 := rfl; have q1 := filt_len (p := clash q) (l := held) (i := held.length); have q2 := filt_len (p := clash q) (l := held) (i := k); (try have q3 := filt_len (p := onTh q) (l := pre) (i := j)); (try simp only [List.length_append, List.length_cons, List.length_nil]); omega) (by have hmx : maxLen = 9223372036854775807 := rfl; have q1 := filt_len (p := clash q) (l := held) (i := held.length); have q2 := filt_len (p := clash q) (l := held) (i := k); (try have q3 := filt_len (p := onTh q) (l := pre) (i := j)); (try simp only [List.length_append, List.length_cons, List.length_nil]); omega) (fun b49 cp49 h149 h249 => ?_)
          refine OD.perm (perm_q11 (S1 := [⟨b49, 3, cp49 * 1, List.flatMap cI ((([] ++ ((held.take k).filter (clash q)).map L.t)) ++ [held[k].t])⟩]) (A := [_, _, _])) ?_
          refine OD.still (wants_plain rfl) rfl (still_as rfl ot) ?_
          refine OD.wk (Wk.as_ (n := 80) (l' := [(1, _), (2, _), (5, _), (6, _), (17, _), (18, _), (19, _)]) (S' := (⟨b8, 27, 3, [_, _, _]⟩ :: ⟨b5, 27, 3, [_, _, _]⟩ :: ⟨b2, 25, 2, [_, _]⟩ :: [⟨b49, 3, cp49 * 1, List.flatMap cI ((([] ++ ((held.take k).filter (clash q)).map L.t)) ++ [held[k].t])⟩])) rfl rfl ⟨lk, lk, lk, lk, lk, lk, lk, trivial⟩) ?_
          refine OD.nil ?_
          refine CD.region ?_
          refine OD.still (wants_plain rfl) rfl (still_bin rfl ot opd_const (bin_add (wrap_i64 (by omega) (by omega)))) ?_
          refine OD.still (wants_plain rfl) rfl (still_mv rfl ot) ?_
          refine OD.wk (Wk.as_ (n := 80) (l' := [(1, _), (2, _), (5, _), (6, _), (17, _), (18, _), (19, _)]) (S' := (⟨b8, 27, 3, [_, _, _]⟩ :: ⟨b5, 27, 3, [_, _, _]⟩ :: ⟨b2, 25, 2, [_, _]⟩ :: [⟨b49, 3, cp49 * 1, List.flatMap cI ((([] ++ ((held.take k).filter (clash q)).map L.t)) ++ [held[k].t])⟩])) rfl rfl ⟨lk, lk, lk, lk, lk, lk, lk, trivial⟩) ?_
          refine OD.nil ?_
          refine ⟨((k + 1), (some ⟨b49, 0, none⟩), cp49, [⟨b49, 3, cp49 * 1, List.flatMap cI ((([] ++ ((held.take k).filter (clash q)).map L.t)) ++ [held[k].t])⟩]), ⟨80, [(1, .v (.int .i64 (i : Int))), (2, .v (.pointer (some ⟨b2, 0, none⟩))), (5, .v (.pointer (some ⟨b5, 0, none⟩))), (6, .v (.slice ((some ⟨b49, 0, none⟩)) (([] ++ ((held.take ((k + 1))).filter (clash q)).map L.t)).length cp49)), (17, .list 3 (held.flatMap cL) held.length), (18, .v (.int .i64 (held.length : Nat))), (19, .v (.int .i64 (((k + 1)) : Nat)))], ((⟨b5, 27, 3, cL queue[i]⟩ : Blk) :: (⟨b2, 25, 2, [.list 3 (held.flatMap cL) held.length, .list 3 (queue.flatMap cL) queue.length]⟩ : Blk) :: ([⟨b49, 3, cp49 * 1, List.flatMap cI ((([] ++ ((held.take k).filter (clash q)).map L.t)) ++ [held[k].t])⟩]))⟩, ?_, Wk.asS (n := 80) rfl (by repeat (first | exact List.Sublist.refl _ | apply List.Sublist.cons_cons | apply List.Sublist.cons)) ⟨(by (repeat (first | exact look_hit | (apply look_at; focus (first | rfl | (simp; done) | (congr 2; omega) | (apply row_eq; first | exact filt_hit hlt hcl | exact filt_miss hlt hcl) | (apply row_eq; simp; done))) | (apply look_miss; focus rfl))); done), (by (repeat (first | exact look_hit | (apply look_at; focus (first | rfl | (simp; done) | (congr 2; omega) | (apply row_eq; first | exact filt_hit hlt hcl | exact filt_miss hlt hcl) | (apply row_eq; simp; done))) | (apply look_miss; focus rfl))); done), (by (repeat (first | exact look_hit | (apply look_at; focus (first | rfl | (simp; done) | (congr 2; omega) | (apply row_eq; first | exact filt_hit hlt hcl | exact filt_miss hlt hcl) | (apply row_eq; simp; done))) | (apply look_miss; focus rfl))); done), (by (repeat (first | exact look_hit | (apply look_at; focus (first | rfl | (simp; done) | (congr 2; omega) | (apply row_eq; first | exact filt_hit hlt hcl | exact filt_miss hlt hcl) | (apply row_eq; simp; done))) | (apply look_miss; focus rfl))); done), (by (repeat (first | exact look_hit | (apply look_at; focus (first | rfl | (simp; done) | (congr 2; omega) | (apply row_eq; first | exact filt_hit hlt hcl | exact filt_miss hlt hcl) | (apply row_eq; simp; done))) | (apply look_miss; focus rfl))); done), (by (repeat (first | exact look_hit | (apply look_at; focus (first | rfl | (simp; done) | (congr 2; omega) | (apply row_eq; first | exact filt_hit hlt hcl | exact filt_miss hlt hcl) | (apply row_eq; simp; done))) | (apply look_miss; focus rfl))); done), (by (repeat (first | exact look_hit | (apply look_at; focus (first | rfl | (simp; done) | (congr 2; omega) | (apply row_eq; first | exact filt_hit hlt hcl | exact filt_miss hlt hcl) | (apply row_eq; simp; done))) | (apply look_miss; focus rfl))); done), trivial⟩, (by omega), (OwnL.cast (ownL_row h149 h249) (by first | exact filt_hit hlt hcl | exact filt_miss hlt hcl)), rfl⟩
          first | omega | (simp only []; omega)
        · have hc1' := hc1
          (try simp only [decide_eq_true_eq, decide_eq_false_iff_not, beq_iff_eq, bne_iff_ne, Bool.not_eq_true', Bool.not_eq_false', Bool.not_eq_true, Bool.not_eq_false, beq_eq_false_iff_ne, ne_eq, bne_eq_false_iff_eq, Bool.and_eq_true, Bool.or_eq_true, Bool.not_not, Bool.and_eq_false_iff, Bool.or_eq_false_iff, Int.not_lt, Int.not_le] at hc1')
          have hcl : ¬ clash q held[k] = true := by unfold clash; subst hq; simp_all
          refine CD.skip ?_
          refine CD.region ?_
          refine OD.still (wants_plain rfl) rfl (still_bin rfl ot opd_const (bin_add (wrap_i64 (by omega) (by omega)))) ?_
          refine OD.still (wants_plain rfl) rfl (still_mv rfl ot) ?_
          refine OD.wk (Wk.as_ (n := 80) (l' := [(1, _), (2, _), (5, _), (6, _), (17, _), (18, _), (19, _)]) (S' := (⟨b8, 27, 3, [_, _, _]⟩ :: ⟨b5, 27, 3, [_, _, _]⟩ :: ⟨b2, 25, 2, [_, _]⟩ :: Sw)) rfl rfl ⟨lk, lk, lk, lk, lk, lk, lk, trivial⟩) ?_
          refine OD.nil ?_
          refine ⟨((k + 1), adw, cpw, Sw), ⟨80, [(1, .v (.int .i64 (i : Int))), (2, .v (.pointer (some ⟨b2, 0, none⟩))), (5, .v (.pointer (some ⟨b5, 0, none⟩))), (6, .v (.slice adw (([] ++ ((held.take ((k + 1))).filter (clash q)).map L.t)).length cpw)), (17, .list 3 (held.flatMap cL) held.length), (18, .v (.int .i64 (held.length : Nat))), (19, .v (.int .i64 (((k + 1)) : Nat)))], ((⟨b5, 27, 3, cL queue[i]⟩ : Blk) :: (⟨b2, 25, 2, [.list 3 (held.flatMap cL) held.length, .list 3 (queue.flatMap cL) queue.length]⟩ : Blk) :: Sw)⟩, ?_, Wk.asS (n := 80) rfl (by repeat (first | exact List.Sublist.refl _ | apply List.Sublist.cons_cons | apply List.Sublist.cons)) ⟨(by (repeat (first | exact look_hit | (apply look_at; focus (first | rfl | (simp; done) | (congr 2; omega) | (apply row_eq; first | exact filt_hit hlt hcl | exact filt_miss hlt hcl) | (apply row_eq; simp; done))) | (apply look_miss; focus rfl))); done), (by (repeat (first | exact look_hit | (apply look_at; focus (first | rfl | (simp; done) | (congr 2; omega) | (apply row_eq; first | exact filt_hit hlt hcl | exact filt_miss hlt hcl) | (apply row_eq; simp; done))) | (apply look_miss; focus rfl))); done), (by (repeat (first | exact look_hit | (apply look_at; focus (first | rfl | (simp; done) | (congr 2; omega) | (apply row_eq; first | exact filt_hit hlt hcl | exact filt_miss hlt hcl) | (apply row_eq; simp; done))) | (apply look_miss; focus rfl))); done), (by (repeat (first | exact look_hit | (apply look_at; focus (first | rfl | (simp; done) | (congr 2; omega) | (apply row_eq; first | exact filt_hit hlt hcl | exact filt_miss hlt hcl) | (apply row_eq; simp; done))) | (apply look_miss; focus rfl))); done), (by (repeat (first | exact look_hit | (apply look_at; focus (first | rfl | (simp; done) | (congr 2; omega) | (apply row_eq; first | exact filt_hit hlt hcl | exact filt_miss hlt hcl) | (apply row_eq; simp; done))) | (apply look_miss; focus rfl))); done), (by (repeat (first | exact look_hit | (apply look_at; focus (first | rfl | (simp; done) | (congr 2; omega) | (apply row_eq; first | exact filt_hit hlt hcl | exact filt_miss hlt hcl) | (apply row_eq; simp; done))) | (apply look_miss; focus rfl))); done), (by (repeat (first | exact look_hit | (apply look_at; focus (first | rfl | (simp; done) | (congr 2; omega) | (apply row_eq; first | exact filt_hit hlt hcl | exact filt_miss hlt hcl) | (apply row_eq; simp; done))) | (apply look_miss; focus rfl))); done), trivial⟩, (by omega), (OwnL.cast how (by first | exact filt_hit hlt hcl | exact filt_miss hlt hcl)), rfl⟩
          first | omega | (simp only []; omega)
      · have hg35' := hg35; (try simp only [decide_eq_true_eq, decide_eq_false_iff_not, beq_iff_eq, bne_iff_ne, Bool.not_eq_true', Bool.not_eq_false', Bool.not_eq_true, Bool.not_eq_false, beq_eq_false_iff_ne, ne_eq, bne_eq_false_iff_eq, Bool.and_eq_true, Bool.or_eq_true, Bool.not_not, Bool.and_eq_false_iff, Bool.or_eq_false_iff, Int.not_lt, Int.not_le] at hg35')
        refine AD0.takeSkip (i := 13) rfl (by kernel_rfl) (by kernel_rfl) (by kernel_rfl) (by repeat (first | exact NP.body | apply NP.then | apply NP.cut | apply NP.inBlock | apply NP.round)) (wants_F rfl rfl rfl lk (by first | rfl | assumption)) rfl ?_
        refine AD0.takeSkip (i := 14) rfl (by kernel_rfl) (by kernel_rfl) (by kernel_rfl) (by repeat (first | exact NP.body | apply NP.then | apply NP.cut | apply NP.inBlock | apply NP.round)) (wants_F rfl rfl rfl lk (by first | rfl | assumption)) rfl ?_
        refine AD0.takeSkip (i := 15) rfl (by kernel_rfl) (by kernel_rfl) (by kernel_rfl) (by repeat (first | exact NP.body | apply NP.then | apply NP.cut | apply NP.inBlock | apply NP.round)) (wants_F rfl rfl rfl lk (by first | rfl | assumption)) rfl ?_
        refine AD0.takeSkip (i := 16) rfl (by kernel_rfl) (by kernel_rfl) (by kernel_rfl) (by repeat (first | exact NP.body | apply NP.then | apply NP.cut | apply NP.inBlock | apply NP.round)) (wants_F rfl rfl rfl lk (by first | rfl | assumption)) rfl ?_
        refine AD0.takeSkip (i := 17) rfl (by kernel_rfl) (by kernel_rfl) (by kernel_rfl) (by repeat (first | exact NP.body | apply NP.then | apply NP.cut | apply NP.inBlock | apply NP.round)) (wants_F rfl rfl rfl lk (by first | rfl | assumption)) rfl ?_
        refine AD0.takeSkip (i := 18) rfl (by kernel_rfl) (by kernel_rfl) (by kernel_rfl) (by repeat (first | exact NP.body | apply NP.then | apply NP.cut | apply NP.inBlock | apply NP.round)) (wants_F rfl rfl rfl lk (by first | rfl | assumption)) rfl ?_
        refine AD0.takeSkip (i := 19) rfl (by kernel_rfl) (by kernel_rfl) (by kernel_rfl) (by repeat (first | exact NP.body | apply NP.then | apply NP.cut | apply NP.inBlock | apply NP.round)) (wants_F rfl rfl rfl lk (by first | rfl | assumption)) rfl ?_
        refine AD0.takeSkip (i := 20) rfl (by kernel_rfl) (by kernel_rfl) (by kernel_rfl) (by repeat (first | exact NP.body | apply NP.then | apply NP.cut | apply NP.inBlock | apply NP.round)) (wants_F rfl rfl rfl lk (by first | rfl | assumption)) rfl ?_
        refine AD0.take (i := 21) rfl (by kernel_rfl) (by kernel_rfl) (by kernel_rfl) (by repeat (first | exact NP.body | apply NP.then | apply NP.cut | apply NP.inBlock | apply NP.round)) (wants_plain rfl) rfl (still_pickF rfl ot (by first | rfl | assumption) opd_const) (by exact trivial) ?_
        refine AD0.later rfl ?_
        refine AD.wk (y := ⟨80, [(1, _), (2, _), (5, _), (6, _), (8, _), (17, _), (18, _), (19, _), (44, _)], (⟨b8, 27, 3, [_, _, _]⟩ :: ⟨b5, 27, 3, [_, _, _]⟩ :: ⟨b2, 25, 2, [_, _]⟩ :: Sw)⟩) (Wk.as_ rfl rfl ⟨lk, lk, lk, lk, lk, lk, lk, lk, lk, trivial⟩) rfl ?_
        refine AD.done (by kernel_rfl) ?_
        refine CD.condF ot (by first | rfl | assumption) ?_
        have hcl : ¬ clash q held[k] = true := by unfold clash; subst hq; simp_all
        refine CD.skip ?_
        refine CD.region ?_
        refine OD.still (wants_plain rfl) rfl (still_bin rfl ot opd_const (bin_add (wrap_i64 (by omega) (by omega)))) ?_
        refine OD.still (wants_plain rfl) rfl (still_mv rfl ot) ?_
        refine OD.wk (Wk.as_ (n := 80) (l' := [(1, _), (2, _), (5, _), (6, _), (17, _), (18, _), (19, _)]) (S' := (⟨b8, 27, 3, [_, _, _]⟩ :: ⟨b5, 27, 3, [_, _, _]⟩ :: ⟨b2, 25, 2, [_, _]⟩ :: Sw)) rfl rfl ⟨lk, lk, lk, lk, lk, lk, lk, trivial⟩) ?_
        refine OD.nil ?_
        refine ⟨((k + 1), adw, cpw, Sw), ⟨80, [(1, .v (.int .i64 (i : Int))), (2, .v (.pointer (some ⟨b2, 0, none⟩))), (5, .v (.pointer (some ⟨b5, 0, none⟩))), (6, .v (.slice adw (([] ++ ((held.take ((k + 1))).filter (clash q)).map L.t)).length cpw)), (17, .list 3 (held.flatMap cL) held.length), (18, .v (.int .i64 (held.length : Nat))), (19, .v (.int .i64 (((k + 1)) : Nat)))], ((⟨b5, 27, 3, cL queue[i]⟩ : Blk) :: (⟨b2, 25, 2, [.list 3 (held.flatMap cL) held.length, .list 3 (queue.flatMap cL) queue.length]⟩ : Blk) :: Sw)⟩, ?_, Wk.asS (n := 80) rfl (by repeat (first | exact List.Sublist.refl _ | apply List.Sublist.cons_cons | apply List.Sublist.cons)) ⟨(by (repeat (first | exact look_hit | (apply look_at; focus (first | rfl | (simp; done) | (congr 2; omega) | (apply row_eq; first | exact filt_hit hlt hcl | exact filt_miss hlt hcl) | (apply row_eq; simp; done))) | (apply look_miss; focus rfl))); done), (by (repeat (first | exact look_hit | (apply look_at; focus (first | rfl | (simp; done) | (congr 2; omega) | (apply row_eq; first | exact filt_hit hlt hcl | exact filt_miss hlt hcl) | (apply row_eq; simp; done))) | (apply look_miss; focus rfl))); done), (by (repeat (first | exact look_hit | (apply look_at; focus (first | rfl | (simp; done) | (congr 2; omega) | (apply row_eq; first | exact filt_hit hlt hcl | exact filt_miss hlt hcl) | (apply row_eq; simp; done))) | (apply look_miss; focus rfl))); done), (by (repeat (first | exact look_hit | (apply look_at; focus (first | rfl | (simp; done) | (congr 2; omega) | (apply row_eq; first | exact filt_hit hlt hcl | exact filt_miss hlt hcl) | (apply row_eq; simp; done))) | (apply look_miss; focus rfl))); done), (by (repeat (first | exact look_hit | (apply look_at; focus (first | rfl | (simp; done) | (congr 2; omega) | (apply row_eq; first | exact filt_hit hlt hcl | exact filt_miss hlt hcl) | (apply row_eq; simp; done))) | (apply look_miss; focus rfl))); done), (by (repeat (first | exact look_hit | (apply look_at; focus (first | rfl | (simp; done) | (congr 2; omega) | (apply row_eq; first | exact filt_hit hlt hcl | exact filt_miss hlt hcl) | (apply row_eq; simp; done))) | (apply look_miss; focus rfl))); done), (by (repeat (first | exact look_hit | (apply look_at; focus (first | rfl | (simp; done) | (congr 2; omega) | (apply row_eq; first | exact filt_hit hlt hcl | exact filt_miss hlt hcl) | (apply row_eq; simp; done))) | (apply look_miss; focus rfl))); done), trivial⟩, (by omega), (OwnL.cast how (by first | exact filt_hit hlt hcl | exact filt_miss hlt hcl)), rfl⟩
        first | omega | (simp only []; omega)
    · have hg28' := hg28; (try simp only [decide_eq_true_eq, decide_eq_false_iff_not, beq_iff_eq, bne_iff_ne, Bool.not_eq_true', Bool.not_eq_false', Bool.not_eq_true, Bool.not_eq_false, beq_eq_false_iff_ne, ne_eq, bne_eq_false_iff_eq, Bool.and_eq_true, Bool.or_eq_true, Bool.not_not, Bool.and_eq_false_iff, Bool.or_eq_false_iff, Int.not_lt, Int.not_le] at hg28')
      refine AD0.takeSkip (i := 6) rfl (by kernel_rfl) (by kernel_rfl) (by kernel_rfl) (by repeat (first | exact NP.body | apply NP.then | apply NP.cut | apply NP.inBlock | apply NP.round)) (wants_F rfl rfl rfl lk (by first | rfl | assumption)) rfl ?_
      refine AD0.takeSkip (i := 7) rfl (by kernel_rfl) (by kernel_rfl) (by kernel_rfl) (by repeat (first | exact NP.body | apply NP.then | apply NP.cut | apply NP.inBlock | apply NP.round)) (wants_F rfl rfl rfl lk (by first | rfl | assumption)) rfl ?_
      refine AD0.takeSkip (i := 8) rfl (by kernel_rfl) (by kernel_rfl) (by kernel_rfl) (by repeat (first | exact NP.body | apply NP.then | apply NP.cut | apply NP.inBlock | apply NP.round)) (wants_F rfl rfl rfl lk (by first | rfl | assumption)) rfl ?_
      refine AD0.takeSkip (i := 9) rfl (by kernel_rfl) (by kernel_rfl) (by kernel_rfl) (by repeat (first | exact NP.body | apply NP.then | apply NP.cut | apply NP.inBlock | apply NP.round)) (wants_F rfl rfl rfl lk (by first | rfl | assumption)) rfl ?_
      refine AD0.takeSkip (i := 10) rfl (by kernel_rfl) (by kernel_rfl) (by kernel_rfl) (by repeat (first | exact NP.body | apply NP.then | apply NP.cut | apply NP.inBlock | apply NP.round)) (wants_F rfl rfl rfl lk (by first | rfl | assumption)) rfl ?_
      refine AD0.take (i := 11) rfl (by kernel_rfl) (by kernel_rfl) (by kernel_rfl) (by repeat (first | exact NP.body | apply NP.then | apply NP.cut | apply NP.inBlock | apply NP.round)) (wants_plain rfl) rfl (still_pickF rfl ot (by first | rfl | assumption) opd_const) (by exact trivial) ?_
      refine AD0.take (i := 12) rfl (by kernel_rfl) (by kernel_rfl) (by kernel_rfl) (by repeat (first | exact NP.body | apply NP.then | apply NP.cut | apply NP.inBlock | apply NP.round)) (wants_plain rfl) rfl (still_mv rfl ot) (by exact trivial) ?_
      refine AD0.takeSkip (i := 13) rfl (by kernel_rfl) (by kernel_rfl) (by kernel_rfl) (by repeat (first | exact NP.body | apply NP.then | apply NP.cut | apply NP.inBlock | apply NP.round)) (wants_F rfl rfl rfl lk (by first | rfl | assumption)) rfl ?_
      refine AD0.takeSkip (i := 14) rfl (by kernel_rfl) (by kernel_rfl) (by kernel_rfl) (by repeat (first | exact NP.body | apply NP.then | apply NP.cut | apply NP.inBlock | apply NP.round)) (wants_F rfl rfl rfl lk (by first | rfl | assumption)) rfl ?_
      refine AD0.takeSkip (i := 15) rfl (by kernel_rfl) (by kernel_rfl) (by kernel_rfl) (by repeat (first | exact NP.body | apply NP.then | apply NP.cut | apply NP.inBlock | apply NP.round)) (wants_F rfl rfl rfl lk (by first | rfl | assumption)) rfl ?_
      refine AD0.takeSkip (i := 16) rfl (by kernel_rfl) (by kernel_rfl) (by kernel_rfl) (by repeat (first | exact NP.body | apply NP.then | apply NP.cut | apply NP.inBlock | apply NP.round)) (wants_F rfl rfl rfl lk (by first | rfl | assumption)) rfl ?_
      refine AD0.takeSkip (i := 17) rfl (by kernel_rfl) (by kernel_rfl) (by kernel_rfl) (by repeat (first | exact NP.body | apply NP.then | apply NP.cut | apply NP.inBlock | apply NP.round)) (wants_F rfl rfl rfl lk (by first | rfl | assumption)) rfl ?_
      refine AD0.takeSkip (i := 18) rfl (by kernel_rfl) (by kernel_rfl) (by kernel_rfl) (by repeat (first | exact NP.body | apply NP.then | apply NP.cut | apply NP.inBlock | apply NP.round)) (wants_F rfl rfl rfl lk (by first | rfl | assumption)) rfl ?_
      refine AD0.takeSkip (i := 19) rfl (by kernel_rfl) (by kernel_rfl) (by kernel_rfl) (by repeat (first | exact NP.body | apply NP.then | apply NP.cut | apply NP.inBlock | apply NP.round)) (wants_F rfl rfl rfl lk (by first | rfl | assumption)) rfl ?_
      refine AD0.takeSkip (i := 20) rfl (by kernel_rfl) (by kernel_rfl) (by kernel_rfl) (by repeat (first | exact NP.body | apply NP.then | apply NP.cut | apply NP.inBlock | apply NP.round)) (wants_F rfl rfl rfl lk (by first | rfl | assumption)) rfl ?_
      refine AD0.take (i := 21) rfl (by kernel_rfl) (by kernel_rfl) (by kernel_rfl) (by repeat (first | exact NP.body | apply NP.then | apply NP.cut | apply NP.inBlock | apply NP.round)) (wants_plain rfl) rfl (still_pickF rfl ot (by first | rfl | assumption) opd_const) (by exact trivial) ?_
      refine AD0.later rfl ?_
      refine AD.wk (y := ⟨80, [(1, _), (2, _), (5, _), (6, _), (8, _), (17, _), (18, _), (19, _), (44, _)], (⟨b8, 27, 3, [_, _, _]⟩ :: ⟨b5, 27, 3, [_, _, _]⟩ :: ⟨b2, 25, 2, [_, _]⟩ :: Sw)⟩) (Wk.as_ rfl rfl ⟨lk, lk, lk, lk, lk, lk, lk, lk, lk, trivial⟩) rfl ?_
      refine AD.done (by kernel_rfl) ?_
      refine CD.condF ot (by first | rfl | assumption) ?_
      have hcl : ¬ clash q held[k] = true := by unfold clash; subst hq; simp_all
      refine CD.skip ?_
      refine CD.region ?_
      refine OD.still (wants_plain rfl) rfl (still_bin rfl ot opd_const (bin_add (wrap_i64 (by omega) (by omega)))) ?_
      refine OD.still (wants_plain rfl) rfl (still_mv rfl ot) ?_
      refine OD.wk (Wk.as_ (n := 80) (l' := [(1, _), (2, _), (5, _), (6, _), (17, _), (18, _), (19, _)]) (S' := (⟨b8, 27, 3, [_, _, _]⟩ :: ⟨b5, 27, 3, [_, _, _]⟩ :: ⟨b2, 25, 2, [_, _]⟩ :: Sw)) rfl rfl ⟨lk, lk, lk, lk, lk, lk, lk, trivial⟩) ?_
      refine OD.nil ?_
      refine ⟨((k + 1), adw, cpw, Sw), ⟨80, [(1, .v (.int .i64 (i : Int))), (2, .v (.pointer (some ⟨b2, 0, none⟩))), (5, .v (.pointer (some ⟨b5, 0, none⟩))), (6, .v (.slice adw (([] ++ ((held.take ((k + 1))).filter (clash q)).map L.t)).length cpw)), (17, .list 3 (held.flatMap cL) held.length), (18, .v (.int .i64 (held.length : Nat))), (19, .v (.int .i64 (((k + 1)) : Nat)))], ((⟨b5, 27, 3, cL queue[i]⟩ : Blk) :: (⟨b2, 25, 2, [.list 3 (held.flatMap cL) held.length, .list 3 (queue.flatMap cL) queue.length]⟩ : Blk) :: Sw)⟩, ?_, Wk.asS (n := 80) rfl (by repeat (first | exact List.Sublist.refl _ | apply List.Sublist.cons_cons | apply List.Sublist.cons)) ⟨(by (repeat (first | exact look_hit | (apply look_at; focus (first | rfl | (simp; done) | (congr 2; omega) | (apply row_eq; first | exact filt_hit hlt hcl | exact filt_miss hlt hcl) | (apply row_eq; simp; done))) | (apply look_miss; focus rfl))); done), (by (repeat (first | exact look_hit | (apply look_at; focus (first | rfl | (simp; done) | (congr 2; omega) | (apply row_eq; first | exact filt_hit hlt hcl | exact filt_miss hlt hcl) | (apply row_eq; simp; done))) | (apply look_miss; focus rfl))); done), (by (repeat (first | exact look_hit | (apply look_at; focus (first | rfl | (simp; done) | (congr 2; omega) | (apply row_eq; first | exact filt_hit hlt hcl | exact filt_miss hlt hcl) | (apply row_eq; simp; done))) | (apply look_miss; focus rfl))); done), (by (repeat (first | exact look_hit | (apply look_at; focus (first | rfl | (simp; done) | (congr 2; omega) | (apply row_eq; first | exact filt_hit hlt hcl | exact filt_miss hlt hcl) | (apply row_eq; simp; done))) | (apply look_miss; focus rfl))); done), (by (repeat (first | exact look_hit | (apply look_at; focus (first | rfl | (simp; done) | (congr 2; omega) | (apply row_eq; first | exact filt_hit hlt hcl | exact filt_miss hlt hcl) | (apply row_eq; simp; done))) | (apply look_miss; focus rfl))); done), (by (repeat (first | exact look_hit | (apply look_at; focus (first | rfl | (simp; done) | (congr 2; omega) | (apply row_eq; first | exact filt_hit hlt hcl | exact filt_miss hlt hcl) | (apply row_eq; simp; done))) | (apply look_miss; focus rfl))); done), (by (repeat (first | exact look_hit | (apply look_at; focus (first | rfl | (simp; done) | (congr 2; omega) | (apply row_eq; first | exact filt_hit hlt hcl | exact filt_miss hlt hcl) | (apply row_eq; simp; done))) | (apply look_miss; focus rfl))); done), trivial⟩, (by omega), (OwnL.cast how (by first | exact filt_hit hlt hcl | exact filt_miss hlt hcl)), rfl⟩
      first | omega | (simp only []; omega)
  · have hc0' := hc0
    (try simp only [decide_eq_true_eq, decide_eq_false_iff_not, beq_iff_eq, bne_iff_ne, Bool.not_eq_true', Bool.not_eq_false', Bool.not_eq_true, Bool.not_eq_false, beq_eq_false_iff_ne, ne_eq, bne_eq_false_iff_eq, Bool.and_eq_true, Bool.or_eq_true, Bool.not_not, Bool.and_eq_false_iff, Bool.or_eq_false_iff, Int.not_lt, Int.not_le] at hc0')
    have hfull : held.take k = held := List.take_of_length_le (by omega)
    refine CD.exit ?_
    refine CD.seq ?_
    refine CD.seq ?_
    refine CD.region ?_
    refine OD.still (wants_plain rfl) rfl (still_r1 (mk := fun y => Op.fieldAddr 25 y 0) rfl ot (by first | exact fa_ptr (off := 0) Tryd.runUnderlying25 rfl Tryd.sizeOf23 rfl | exact fa_iptr (off := 0) Tryd.runUnderlying25 rfl Tryd.sizeOf23 rfl)) ?_
    refine OD.still (wants_plain rfl) rfl (still_r1 (mk := Op.load 23) rfl ot (by first | exact ld_blk (k := 1) rfl rfl Tryd.isAgg23 rfl | exact ld_fm cL_len Tryd.isAgg23 (by first | assumption | omega) rfl | exact ld_fm0 cL_len Tryd.isAgg23 (by first | assumption | omega) rfl | exact ld_row (k := 0) cL_len rfl rfl rfl Tryd.isAgg23 (by first | assumption | omega) rfl | exact ld_row0 (k := 0) cL_len rfl rfl rfl Tryd.isAgg23 (by first | assumption | omega) rfl | exact ld_row (k := 1) cL_len rfl rfl rfl Tryd.isAgg23 (by first | assumption | omega) rfl | exact ld_row0 (k := 1) cL_len rfl rfl rfl Tryd.isAgg23 (by first | assumption | omega) rfl | exact ld_i Tryd.isAgg23 rfl | exact ld_tab (List.mem_cons_self) Tryd.isAgg23 (fitsC_off (by omega) (by omega) (by omega) (by omega)))) ?_
    refine OD.still (wants_plain rfl) rfl (still_r1 (mk := fun y => Op.fieldAddr 27 y 0) rfl ot (by first | exact fa_ptr (off := 0) Tryd.runUnderlying27 rfl Tryd.sizeOf3 rfl | exact fa_iptr (off := 0) Tryd.runUnderlying27 rfl Tryd.sizeOf3 rfl)) ?_
    refine OD.still (wants_plain rfl) rfl (still_r1 (mk := Op.load 3) rfl ot (by first | exact ld_blk (k := 0) rfl rfl Tryd.isAgg3 rfl | exact ld_fm cL_len Tryd.isAgg3 (by first | assumption | omega) rfl | exact ld_fm0 cL_len Tryd.isAgg3 (by first | assumption | omega) rfl | exact ld_row (k := 0) cL_len rfl rfl rfl Tryd.isAgg3 (by first | assumption | omega) rfl | exact ld_row0 (k := 0) cL_len rfl rfl rfl Tryd.isAgg3 (by first | assumption | omega) rfl | exact ld_row (k := 1) cL_len rfl rfl rfl Tryd.isAgg3 (by first | assumption | omega) rfl | exact ld_row0 (k := 1) cL_len rfl rfl rfl Tryd.isAgg3 (by first | assumption | omega) rfl | exact ld_i Tryd.isAgg3 rfl | exact ld_tab (List.mem_cons_self) Tryd.isAgg3 (fitsC_off (by omega) (by omega) (by omega) (by omega)))) ?_
    refine OD.still (wants_plain rfl) rfl (still_r1 (mk := fun y => Op.fieldAddr 27 y 1) rfl ot (by first | exact fa_ptr (off := 1) Tryd.runUnderlying27 rfl Tryd.sizeOf9 rfl | exact fa_iptr (off := 1) Tryd.runUnderlying27 rfl Tryd.sizeOf9 rfl)) ?_
    refine OD.still (wants_plain rfl) rfl (still_r1 (mk := Op.load 9) rfl ot (by first | exact ld_blk (k := 0) rfl rfl Tryd.isAgg9 rfl | exact ld_fm cL_len Tryd.isAgg9 (by first | assumption | omega) rfl | exact ld_fm0 cL_len Tryd.isAgg9 (by first | assumption | omega) rfl | exact ld_row (k := 0) cL_len rfl rfl rfl Tryd.isAgg9 (by first | assumption | omega) rfl | exact ld_row0 (k := 0) cL_len rfl rfl rfl Tryd.isAgg9 (by first | assumption | omega) rfl | exact ld_row (k := 1) cL_len rfl rfl rfl Tryd.isAgg9 (by first | assumption | omega) rfl | exact ld_row0 (k := 1) cL_len rfl rfl rfl Tryd.isAgg9 (by first | assumption | omega) rfl | exact ld_i Tryd.isAgg9 rfl | exact ld_tab (List.mem_cons_self) Tryd.isAgg9 (fitsC_off (by omega) (by omega) (by omega) (by omega)))) ?_
    refine OD.callP (wants_plain rfl) rfl rfl rfl Tryd.call29 (find_vp _ held queue[i].t queue[i].th (by omega)) ⟨ot, ot, ot, trivial⟩ ?_
    refine OD.still (wants_plain rfl) rfl (still_bin rfl ot opd_const bin_lss) ?_
    refine OD.wk (Wk.as_ (n := 80) (l' := [(1, _), (2, _), (5, _), (6, _), (58, _)]) (S' := (⟨b5, 27, 3, [_, _, _]⟩ :: ⟨b2, 25, 2, [_, _]⟩ :: Sw)) rfl rfl ⟨lk, lk, lk, lk, lk, trivial⟩) ?_
    refine OD.nil ?_
    refine CD.cond ot (fun hc2 => ?_) (fun hc2 => ?_)
    · have hc2' := hc2
      (try simp only [decide_eq_true_eq, decide_eq_false_iff_not, beq_iff_eq, bne_iff_ne, Bool.not_eq_true', Bool.not_eq_false', Bool.not_eq_true, Bool.not_eq_false, beq_eq_false_iff_ne, ne_eq, bne_eq_false_iff_eq, Bool.and_eq_true, Bool.or_eq_true, Bool.not_not, Bool.and_eq_false_iff, Bool.or_eq_false_iff, Int.not_lt, Int.not_le] at hc2')
      have hneg : findI held q.t q.th < 0 := by subst hq; simpa using hc2
      refine CD.seq ?_
      refine CD.region ?_
      refine OD.still (wants_plain rfl) rfl (still_r1 (mk := fun y => Op.fieldAddr 25 y 1) rfl ot (by first | exact fa_ptr (off := 1) Tryd.runUnderlying25 rfl Tryd.sizeOf23 rfl | exact fa_iptr (off := 1) Tryd.runUnderlying25 rfl Tryd.sizeOf23 rfl)) ?_
      refine OD.still (wants_plain rfl) rfl (still_r1 (mk := Op.load 23) rfl ot (by first | exact ld_blk (k := 1) rfl rfl Tryd.isAgg23 rfl | exact ld_fm cL_len Tryd.isAgg23 (by first | assumption | omega) rfl | exact ld_fm0 cL_len Tryd.isAgg23 (by first | assumption | omega) rfl | exact ld_row (k := 0) cL_len rfl rfl rfl Tryd.isAgg23 (by first | assumption | omega) rfl | exact ld_row0 (k := 0) cL_len rfl rfl rfl Tryd.isAgg23 (by first | assumption | omega) rfl | exact ld_row (k := 1) cL_len rfl rfl rfl Tryd.isAgg23 (by first | assumption | omega) rfl | exact ld_row0 (k := 1) cL_len rfl rfl rfl Tryd.isAgg23 (by first | assumption | omega) rfl | exact ld_i Tryd.isAgg23 rfl | exact ld_tab (List.mem_cons_self) Tryd.isAgg23 (fitsC_off (by omega) (by omega) (by omega) (by omega)))) ?_
      refine OD.still (wants_plain rfl) rfl (still_mv rfl ot) ?_
      refine OD.still (wants_plain rfl) rfl (still_rs (l := 0) rfl ot trivial ⟨_, ot⟩ (by first | exact sl_head cL_len (fun h => by cases h) Tryd.runUnderlying23 Tryd.sizeOf27 (by omega) | exact sl_row (fun h => by cases h) Tryd.runUnderlying23 Tryd.sizeOf27 (by omega) | exact sl_list (fun _ => rfl) (fun h => by cases h) Tryd.runUnderlying23 Tryd.sizeOf27 (by omega) (by omega))) ?_
      refine OD.still (wants_plain rfl) rfl (still_r1 (mk := fun y => .call { callee := .builtin .len, args := #[y], argTypes := #[23] }) rfl ot (by first | exact len_list rfl Tryd.runUnderlying23 | exact len_row rfl Tryd.runUnderlying23)) ?_
      refine OD.still (wants_plain rfl) rfl (still_mv rfl opd_const) ?_
      refine OD.wk (Wk.as_ (n := 80) (l' := [(5, _), (6, _), (62, _), (63, _), (64, _)]) (S' := (⟨b5, 27, 3, [_, _, _]⟩ :: ⟨b2, 25, 2, [_, _]⟩ :: Sw)) rfl rfl ⟨lk, lk, lk, lk, lk, trivial⟩) ?_
      refine OD.nil ?_
      refine CD.block ?_
      refine CD.wk (Wk.asS (n := 80) (l' := [(5, .v (.pointer (some ⟨b5, 0, none⟩))), (6, .v (.slice adw (((([] ++ ((held.take k).filter (clash q)).map L.t)) ++ (((queue.take i).take (0)).filter (onTh q)).map L.t)).length cpw)), (62, .list 3 ((queue.take i).flatMap cL) (queue.take i).length), (63, .v (.int .i64 ((queue.take i).length : Nat))), (64, .v (.int .i64 ((0) : Nat)))]) (S' := ((⟨b5, 27, 3, cL queue[i]⟩ : Blk) :: (⟨b2, 25, 2, [.list 3 (held.flatMap cL) held.length, .list 3 (queue.flatMap cL) queue.length]⟩ : Blk) :: Sw)) rfl (by repeat (first | exact List.Sublist.refl _ | apply List.Sublist.cons_cons | apply List.Sublist.cons)) ⟨(by (repeat (first | exact look_hit | (apply look_at; focus (first | rfl | (simp; done) | (congr 2; omega) | (apply row_eq; first | exact filt_hit hlt2 hth | exact filt_miss hlt2 hth) | (apply row_eq; simp; done))) | (apply look_miss; focus rfl))); done), (by (repeat (first | exact look_hit | (apply look_at; focus (first | rfl | (simp; done) | (congr 2; omega) | (apply row_eq; first | exact filt_hit hlt2 hth | exact filt_miss hlt2 hth) | (apply row_eq; simp; done))) | (apply look_miss; focus rfl))); done), (by (repeat (first | exact look_hit | (apply look_at; focus (first | rfl | (simp; done) | (congr 2; omega) | (apply row_eq; first | exact filt_hit hlt2 hth | exact filt_miss hlt2 hth) | (apply row_eq; simp; done))) | (apply look_miss; focus rfl))); done), (by (repeat (first | exact look_hit | (apply look_at; focus (first | rfl | (simp; done) | (congr 2; omega) | (apply row_eq; first | exact filt_hit hlt2 hth | exact filt_miss hlt2 hth) | (apply row_eq; simp; done))) | (apply look_miss; focus rfl))); done), (by (repeat (first | exact look_hit | (apply look_at; focus (first | rfl | (simp; done) | (congr 2; omega) | (apply row_eq; first | exact filt_hit hlt2 hth | exact filt_miss hlt2 hth) | (apply row_eq; simp; done))) | (apply look_miss; focus rfl))); done), trivial⟩) (CD.loop (fun (gh__ : Nat × Option Addr × Nat × List Blk) y__ => match gh__ with | (j, adw, cpw, Sw) => (j ≤ (queue.take i).length) ∧ (OwnL 3 1 ((((([] ++ ((held.take k).filter (clash q)).map L.t)) ++ (((queue.take i).take j).filter (onTh q)).map L.t)).flatMap cI) (((([] ++ ((held.take k).filter (clash q)).map L.t)) ++ (((queue.take i).take j).filter (onTh q)).map L.t)).length adw cpw Sw) ∧ y__ = (⟨80, [(5, .v (.pointer (some ⟨b5, 0, none⟩))), (6, .v (.slice adw (((([] ++ ((held.take k).filter (clash q)).map L.t)) ++ (((queue.take i).take j).filter (onTh q)).map L.t)).length cpw)), (62, .list 3 ((queue.take i).flatMap cL) (queue.take i).length), (63, .v (.int .i64 ((queue.take i).length : Nat))), (64, .v (.int .i64 (j : Nat)))], ((⟨b5, 27, 3, cL queue[i]⟩ : Blk) :: (⟨b2, 25, 2, [.list 3 (held.flatMap cL) held.length, .list 3 (queue.flatMap cL) queue.length]⟩ : Blk) :: Sw)⟩ : St)) (fun (gh__ : Nat × Option Addr × Nat × List Blk) => match gh__ with | (j, adw, cpw, Sw) => (queue.take i).length - j) (0, adw, cpw, Sw) ⟨(Nat.zero_le _), (OwnL.cast how (by first | rfl | simp)), rfl⟩ ?_)
      rintro ⟨j, adw, cpw, Sw⟩ _ ⟨hj, how, rfl⟩
      refine CD.seq ?_
      refine CD.region ?_
      refine OD.still (wants_plain rfl) rfl (still_bin rfl ot ot bin_lss) ?_
      refine OD.wk (Wk.as_ (n := 80) (l' := [(5, _), (6, _), (62, _), (63, _), (64, _), (65, _)]) (S' := (⟨b5, 27, 3, [_, _, _]⟩ :: ⟨b2, 25, 2, [_, _]⟩ :: Sw)) rfl rfl ⟨lk, lk, lk, lk, lk, lk, trivial⟩) ?_
      refine OD.nil ?_
      refine CD.seq ?_
      refine CD.cond ot (fun hc3 => ?_) (fun hc3 => ?_)
      · have hc3' := hc3
        (try simp only [decide_eq_true_eq, decide_eq_false_iff_not, beq_iff_eq, bne_iff_ne, Bool.not_eq_true', Bool.not_eq_false', Bool.not_eq_true, Bool.not_eq_false, beq_eq_false_iff_ne, ne_eq, bne_eq_false_iff_eq, Bool.and_eq_true, Bool.or_eq_true, Bool.not_not, Bool.and_eq_false_iff, Bool.or_eq_false_iff, Int.not_lt, Int.not_le] at hc3')
        have hlt2 : j < (queue.take i).length := by omega
        refine CD.skip ?_
        refine CD.seq ?_
        refine CD.block ?_
        refine CD.seq ?_
        refine CD.region ?_
        refine OD.still (wants_plain rfl) rfl (still_r2 (mk := Op.indexAddr 23) rfl ot ot (by first | exact ix_list Tryd.runUnderlying23 Tryd.sizeOf27 rfl (by first | assumption | omega) | exact ix_list (j := Int.toNat _) Tryd.runUnderlying23 Tryd.sizeOf27 (Int.toNat_of_nonneg (by omega)).symm (by omega) | exact ix_row Tryd.runUnderlying23 Tryd.sizeOf27 rfl (by first | assumption | omega) | exact ix_row (j := Int.toNat _) Tryd.runUnderlying23 Tryd.sizeOf27 (Int.toNat_of_nonneg (by omega)).symm (by omega))) ?_
        refine OD.still (wants_plain rfl) rfl (still_r1 (mk := Op.load 27) rfl ot (by first | exact ld_blks (k := 0) (ds := [_, _, _]) rfl rfl Tryd.isAgg27 Tryd.sizeOf27 rfl rfl | exact ld_blks (k := 1) (ds := [_, _, _]) rfl rfl Tryd.isAgg27 Tryd.sizeOf27 rfl rfl | exact ld_fms cL_len Tryd.isAgg27 Tryd.sizeOf27 (by first | assumption | omega) | exact ld_rows (k := 0) cL_len rfl rfl rfl Tryd.isAgg27 Tryd.sizeOf27 (by first | assumption | omega) | exact ld_rows (k := 1) cL_len rfl rfl rfl Tryd.isAgg27 Tryd.sizeOf27 (by first | assumption | omega) | exact ld_is (ds := [_, _, _]) Tryd.isAgg27 Tryd.sizeOf27 rfl rfl)) ?_
        refine OD.alloc (ds := [_, _, _]) (wants_plain rfl) rfl rfl Tryd.zeroValue27 rfl (fun b10 => ?_)
        refine OD.store (k := 0) (cs' := [_, _, _]) (wants_plain rfl) rfl rfl ot rfl rfl ot rfl rfl Tryd.sizeOf27 rfl rfl rfl ?_
        refine OD.wk (Wk.as_ (n := 80) (l' := [(5, _), (6, _), (10, _), (62, _), (63, _), (64, _)]) (S' := (⟨b10, 27, 3, [_, _, _]⟩ :: ⟨b5, 27, 3, [_, _, _]⟩ :: ⟨b2, 25, 2, [_, _]⟩ :: Sw)) rfl rfl ⟨lk, lk, lk, lk, lk, lk, trivial⟩) ?_
        refine OD.nil ?_
        refine CD.seq ?_
        refine CD.region ?_
        refine OD.still (wants_plain rfl) rfl (still_r1 (mk := fun y => Op.fieldAddr 27 y 1) rfl ot (by first | exact fa_ptr (off := 1) Tryd.runUnderlying27 rfl Tryd.sizeOf9 rfl | exact fa_iptr (off := 1) Tryd.runUnderlying27 rfl Tryd.sizeOf9 rfl)) ?_
        refine OD.still (wants_plain rfl) rfl (still_r1 (mk := Op.load 9) rfl ot (by first | exact ld_blk (k := 0) rfl rfl Tryd.isAgg9 rfl | exact ld_fm cL_len Tryd.isAgg9 (by first | assumption | omega) rfl | exact ld_fm0 cL_len Tryd.isAgg9 (by first | assumption | omega) rfl | exact ld_row (k := 0) cL_len rfl rfl rfl Tryd.isAgg9 (by first | assumption | omega) rfl | exact ld_row0 (k := 0) cL_len rfl rfl rfl Tryd.isAgg9 (by first | assumption | omega) rfl | exact ld_row (k := 1) cL_len rfl rfl rfl Tryd.isAgg9 (by first | assumption | omega) rfl | exact ld_row0 (k := 1) cL_len rfl rfl rfl Tryd.isAgg9 (by first | assumption | omega) rfl | exact ld_row (k := 2) cL_len rfl rfl rfl Tryd.isAgg9 (by first | assumption | omega) rfl | exact ld_row0 (k := 2) cL_len rfl rfl rfl Tryd.isAgg9 (by first | assumption | omega) rfl | exact ld_i Tryd.isAgg9 rfl | exact ld_tab (List.mem_cons_self) Tryd.isAgg9 (fitsC_off (by omega) (by omega) (by omega) (by omega)))) ?_
        refine OD.still (wants_plain rfl) rfl (still_r1 (mk := fun y => Op.fieldAddr 27 y 1) rfl ot (by first | exact fa_ptr (off := 1) Tryd.runUnderlying27 rfl Tryd.sizeOf9 rfl | exact fa_iptr (off := 1) Tryd.runUnderlying27 rfl Tryd.sizeOf9 rfl)) ?_
        refine OD.still (wants_plain rfl) rfl (still_r1 (mk := Op.load 9) rfl ot (by first | exact ld_blk (k := 1) rfl rfl Tryd.isAgg9 rfl | exact ld_fm cL_len Tryd.isAgg9 (by first | assumption | omega) rfl | exact ld_fm0 cL_len Tryd.isAgg9 (by first | assumption | omega) rfl | exact ld_row (k := 0) cL_len rfl rfl rfl Tryd.isAgg9 (by first | assumption | omega) rfl | exact ld_row0 (k := 0) cL_len rfl rfl rfl Tryd.isAgg9 (by first | assumption | omega) rfl | exact ld_row (k := 1) cL_len rfl rfl rfl Tryd.isAgg9 (by first | assumption | omega) rfl | exact ld_row0 (k := 1) cL_len rfl rfl rfl Tryd.isAgg9 (by first | assumption | omega) rfl | exact ld_row (k := 2) cL_len rfl rfl rfl Tryd.isAgg9 (by first | assumption | omega) rfl | exact ld_row0 (k := 2) cL_len rfl rfl rfl Tryd.isAgg9 (by first | assumption | omega) rfl | exact ld_i Tryd.isAgg9 rfl | exact ld_tab (List.mem_cons_self) Tryd.isAgg9 (fitsC_off (by omega) (by omega) (by omega) (by omega)))) ?_
        refine OD.still (wants_plain rfl) rfl (still_bin rfl ot ot bin_seql) ?_
        refine OD.wk (Wk.as_ (n := 80) (l' := [(5, _), (6, _), (10, _), (62, _), (63, _), (64, _), (72, _)]) (S' := (⟨b10, 27, 3, [_, _, _]⟩ :: ⟨b5, 27, 3, [_, _, _]⟩ :: ⟨b2, 25, 2, [_, _]⟩ :: Sw)) rfl rfl ⟨lk, lk, lk, lk, lk, lk, lk, trivial⟩) ?_
        refine OD.nil ?_
        refine CD.cond ot (fun hc4 => ?_) (fun hc4 => ?_)
        · have hc4' := hc4
          (try simp only [decide_eq_true_eq, decide_eq_false_iff_not, beq_iff_eq, bne_iff_ne, Bool.not_eq_true', Bool.not_eq_false', Bool.not_eq_true, Bool.not_eq_false, beq_eq_false_iff_ne, ne_eq, bne_eq_false_iff_eq, Bool.and_eq_true, Bool.or_eq_true, Bool.not_not, Bool.and_eq_false_iff, Bool.or_eq_false_iff, Int.not_lt, Int.not_le] at hc4')
          have hth : onTh q (queue.take i)[j] = true := by unfold onTh; subst hq; simp_all
          refine CD.region ?_
          refine OD.still (wants_plain rfl) rfl (still_mv rfl ot) ?_
          refine OD.still (wants_plain rfl) rfl (still_r1 (mk := fun y => Op.fieldAddr 27 y 0) rfl ot (by first | exact fa_ptr (off := 0) Tryd.runUnderlying27 rfl Tryd.sizeOf3 rfl | exact fa_iptr (off := 0) Tryd.runUnderlying27 rfl Tryd.sizeOf3 rfl)) ?_
          refine OD.still (wants_plain rfl) rfl (still_r1 (mk := Op.load 3) rfl ot (by first | exact ld_blk (k := 0) rfl rfl Tryd.isAgg3 rfl | exact ld_fm cL_len Tryd.isAgg3 (by first | assumption | omega) rfl | exact ld_fm0 cL_len Tryd.isAgg3 (by first | assumption | omega) rfl | exact ld_row (k := 0) cL_len rfl rfl rfl Tryd.isAgg3 (by first | assumption | omega) rfl | exact ld_row0 (k := 0) cL_len rfl rfl rfl Tryd.isAgg3 (by first | assumption | omega) rfl | exact ld_row (k := 1) cL_len rfl rfl rfl Tryd.isAgg3 (by first | assumption | omega) rfl | exact ld_row0 (k := 1) cL_len rfl rfl rfl Tryd.isAgg3 (by first | assumption | omega) rfl | exact ld_row (k := 2) cL_len rfl rfl rfl Tryd.isAgg3 (by first | assumption | omega) rfl | exact ld_row0 (k := 2) cL_len rfl rfl rfl Tryd.isAgg3 (by first | assumption | omega) rfl | exact ld_i Tryd.isAgg3 rfl | exact ld_tab (List.mem_cons_self) Tryd.isAgg3 (fitsC_off (by omega) (by omega) (by omega) (by omega)))) ?_
          refine OD.bldS (pl := [(0, _)]) (zvs := [.int .i64 0]) (ds := [_]) (wants_plain rfl) rfl rfl Tryd.zeroValue3 Tryd.runUnderlying34 Tryd.sizeOf3 rfl rfl (by kernel_rfl) ⟨rfl, ot, trivial⟩ rfl rfl (fun b76 => ?_)
          refine OD.give (k := 0) (t := 76) (sz := 1) (m := 1) rfl lk rfl rfl rfl (Nat.le_refl _) (by decide) ?_
          refine OD.appendG (ls := (((([] ++ ((held.take k).filter (clash q)).map L.t)) ++ (((queue.take i).take j).filter (onTh q)).map L.t))) (new := [(queue.take i)[j].t]) (Sq := Sw) cI_len cI_one (wants_plain rfl) rfl rfl Tryd.underlying34 info3_Lkj rfl (by decide) ot how (perm_r11 (A := [_, _, _])) ot (by simp) (by have hmx : maxLen = 9223372036854775807 := rfl; have q1 := filt_len (p := clash q) (l := held) (i := held.length); have q2 := filt_len (p := clash q) (l := held) (i := k); (try have q3 := filt_len (p := onTh q) (l := queue.take i) (i := j)); (try simp only [List.length_append, List.length_cons, List.length_nil]); omega) (by have hmx : maxLen = 9223372036854775807 := rfl; have q1 := filt_len (p := clash q) (l := held) (i := held.length); have q2 := filt_len (p := clash q) (l := held) (i := k); (try have q3 := filt_len (p := onTh q) (l := queue.take i) (i := j)); (try simp only [List.length_append, List.length_cons, List.length_nil]); omega) (fun b77 cp77 h177 h277 => ?_)
          refine OD.perm (perm_q11 (S1 := [⟨b77, 3, cp77 * 1, List.flatMap cI ((((([] ++ ((held.take k).filter (clash q)).map L.t)) ++ (((queue.take i).take j).filter (onTh q)).map L.t)) ++ [(queue.take i)[j].t])⟩]) (A := [_, _, _])) ?_
          refine OD.still (wants_plain rfl) rfl (still_as rfl ot) ?_
          refine OD.wk (Wk.as_ (n := 80) (l' := [(5, _), (6, _), (62, _), (63, _), (64, _)]) (S' := (⟨b10, 27, 3, [_, _, _]⟩ :: ⟨b5, 27, 3, [_, _, _]⟩ :: ⟨b2, 25, 2, [_, _]⟩ :: [⟨b77, 3, cp77 * 1, List.flatMap cI ((((([] ++ ((held.take k).filter (clash q)).map L.t)) ++ (((queue.take i).take j).filter (onTh q)).map L.t)) ++ [(queue.take i)[j].t])⟩])) rfl rfl ⟨lk, lk, lk, lk, lk, trivial⟩) ?_
          refine OD.nil ?_
          refine CD.region ?_
          refine OD.still (wants_plain rfl) rfl (still_bin rfl ot opd_const (bin_add (wrap_i64 (by omega) (by omega)))) ?_
          refine OD.still (wants_plain rfl) rfl (still_mv rfl ot) ?_
          refine OD.wk (Wk.as_ (n := 80) (l' := [(5, _), (6, _), (62, _), (63, _), (64, _)]) (S' := (⟨b10, 27, 3, [_, _, _]⟩ :: ⟨b5, 27, 3, [_, _, _]⟩ :: ⟨b2, 25, 2, [_, _]⟩ :: [⟨b77, 3, cp77 * 1, List.flatMap cI ((((([] ++ ((held.take k).filter (clash q)).map L.t)) ++ (((queue.take i).take j).filter (onTh q)).map L.t)) ++ [(queue.take i)[j].t])⟩])) rfl rfl ⟨lk, lk, lk, lk, lk, trivial⟩) ?_
          refine OD.nil ?_
          refine ⟨((j + 1), (some ⟨b77, 0, none⟩), cp77, [⟨b77, 3, cp77 * 1, List.flatMap cI ((((([] ++ ((held.take k).filter (clash q)).map L.t)) ++ (((queue.take i).take j).filter (onTh q)).map L.t)) ++ [(queue.take i)[j].t])⟩]), ⟨80, [(5, .v (.pointer (some ⟨b5, 0, none⟩))), (6, .v (.slice ((some ⟨b77, 0, none⟩)) (((([] ++ ((held.take k).filter (clash q)).map L.t)) ++ (((queue.take i).take ((j + 1))).filter (onTh q)).map L.t)).length cp77)), (62, .list 3 ((queue.take i).flatMap cL) (queue.take i).length), (63, .v (.int .i64 ((queue.take i).length : Nat))), (64, .v (.int .i64 (((j + 1)) : Nat)))], ((⟨b5, 27, 3, cL queue[i]⟩ : Blk) :: (⟨b2, 25, 2, [.list 3 (held.flatMap cL) held.length, .list 3 (queue.flatMap cL) queue.length]⟩ : Blk) :: ([⟨b77, 3, cp77 * 1, List.flatMap cI ((((([] ++ ((held.take k).filter (clash q)).map L.t)) ++ (((queue.take i).take j).filter (onTh q)).map L.t)) ++ [(queue.take i)[j].t])⟩]))⟩, ?_, Wk.asS (n := 80) rfl (by repeat (first | exact List.Sublist.refl _ | apply List.Sublist.cons_cons | apply List.Sublist.cons)) ⟨(by (repeat (first | exact look_hit | (apply look_at; focus (first | rfl | (simp; done) | (congr 2; omega) | (apply row_eq; first | exact filt_hit hlt2 hth | exact filt_miss hlt2 hth) | (apply row_eq; simp; done))) | (apply look_miss; focus rfl))); done), (by (repeat (first | exact look_hit | (apply look_at; focus (first | rfl | (simp; done) | (congr 2; omega) | (apply row_eq; first | exact filt_hit hlt2 hth | exact filt_miss hlt2 hth) | (apply row_eq; simp; done))) | (apply look_miss; focus rfl))); done), (by (repeat (first | exact look_hit | (apply look_at; focus (first | rfl | (simp; done) | (congr 2; omega) | (apply row_eq; first | exact filt_hit hlt2 hth | exact filt_miss hlt2 hth) | (apply row_eq; simp; done))) | (apply look_miss; focus rfl))); done), (by (repeat (first | exact look_hit | (apply look_at; focus (first | rfl | (simp; done) | (congr 2; omega) | (apply row_eq; first | exact filt_hit hlt2 hth | exact filt_miss hlt2 hth) | (apply row_eq; simp; done))) | (apply look_miss; focus rfl))); done), (by (repeat (first | exact look_hit | (apply look_at; focus (first | rfl | (simp; done) | (congr 2; omega) | (apply row_eq; first | exact filt_hit hlt2 hth | exact filt_miss hlt2 hth) | (apply row_eq; simp; done))) | (apply look_miss; focus rfl))); done), trivial⟩, (by omega), (OwnL.cast (ownL_row h177 h277) (by first | exact filt_hit hlt2 hth | exact filt_miss hlt2 hth)), rfl⟩
          first | omega | (simp only []; omega)
        · have hc4' := hc4
          (try simp only [decide_eq_true_eq, decide_eq_false_iff_not, beq_iff_eq, bne_iff_ne, Bool.not_eq_true', Bool.not_eq_false', Bool.not_eq_true, Bool.not_eq_false, beq_eq_false_iff_ne, ne_eq, bne_eq_false_iff_eq, Bool.and_eq_true, Bool.or_eq_true, Bool.not_not, Bool.and_eq_false_iff, Bool.or_eq_false_iff, Int.not_lt, Int.not_le] at hc4')
          have hth : ¬ onTh q (queue.take i)[j] = true := by unfold onTh; subst hq; simp_all
          refine CD.skip ?_
          refine CD.region ?_
          refine OD.still (wants_plain rfl) rfl (still_bin rfl ot opd_const (bin_add (wrap_i64 (by omega) (by omega)))) ?_
          refine OD.still (wants_plain rfl) rfl (still_mv rfl ot) ?_
          refine OD.wk (Wk.as_ (n := 80) (l' := [(5, _), (6, _), (62, _), (63, _), (64, _)]) (S' := (⟨b10, 27, 3, [_, _, _]⟩ :: ⟨b5, 27, 3, [_, _, _]⟩ :: ⟨b2, 25, 2, [_, _]⟩ :: Sw)) rfl rfl ⟨lk, lk, lk, lk, lk, trivial⟩) ?_
          refine OD.nil ?_
          refine ⟨((j + 1), adw, cpw, Sw), ⟨80, [(5, .v (.pointer (some ⟨b5, 0, none⟩))), (6, .v (.slice adw (((([] ++ ((held.take k).filter (clash q)).map L.t)) ++ (((queue.take i).take ((j + 1))).filter (onTh q)).map L.t)).length cpw)), (62, .list 3 ((queue.take i).flatMap cL) (queue.take i).length), (63, .v (.int .i64 ((queue.take i).length : Nat))), (64, .v (.int .i64 (((j + 1)) : Nat)))], ((⟨b5, 27, 3, cL queue[i]⟩ : Blk) :: (⟨b2, 25, 2, [.list 3 (held.flatMap cL) held.length, .list 3 (queue.flatMap cL) queue.length]⟩ : Blk) :: Sw)⟩, ?_, Wk.asS (n := 80) rfl (by repeat (first | exact List.Sublist.refl _ | apply List.Sublist.cons_cons | apply List.Sublist.cons)) ⟨(by (repeat (first | exact look_hit | (apply look_at; focus (first | rfl | (simp; done) | (congr 2; omega) | (apply row_eq; first | exact filt_hit hlt2 hth | exact filt_miss hlt2 hth) | (apply row_eq; simp; done))) | (apply look_miss; focus rfl))); done), (by (repeat (first | exact look_hit | (apply look_at; focus (first | rfl | (simp; done) | (congr 2; omega) | (apply row_eq; first | exact filt_hit hlt2 hth | exact filt_miss hlt2 hth) | (apply row_eq; simp; done))) | (apply look_miss; focus rfl))); done), (by (repeat (first | exact look_hit | (apply look_at; focus (first | rfl | (simp; done) | (congr 2; omega) | (apply row_eq; first | exact filt_hit hlt2 hth | exact filt_miss hlt2 hth) | (apply row_eq; simp; done))) | (apply look_miss; focus rfl))); done), (by (repeat (first | exact look_hit | (apply look_at; focus (first | rfl | (simp; done) | (congr 2; omega) | (apply row_eq; first | exact filt_hit hlt2 hth | exact filt_miss hlt2 hth) | (apply row_eq; simp; done))) | (apply look_miss; focus rfl))); done), (by (repeat (first | exact look_hit | (apply look_at; focus (first | rfl | (simp; done) | (congr 2; omega) | (apply row_eq; first | exact filt_hit hlt2 hth | exact filt_miss hlt2 hth) | (apply row_eq; simp; done))) | (apply look_miss; focus rfl))); done), trivial⟩, (by omega), (OwnL.cast how (by first | exact filt_hit hlt2 hth | exact filt_miss hlt2 hth)), rfl⟩
          first | omega | (simp only []; omega)
      · have hc3' := hc3
        (try simp only [decide_eq_true_eq, decide_eq_false_iff_not, beq_iff_eq, bne_iff_ne, Bool.not_eq_true', Bool.not_eq_false', Bool.not_eq_true, Bool.not_eq_false, beq_eq_false_iff_ne, ne_eq, bne_eq_false_iff_eq, Bool.and_eq_true, Bool.or_eq_true, Bool.not_not, Bool.and_eq_false_iff, Bool.or_eq_false_iff, Int.not_lt, Int.not_le] at hc3')
        have hfull2 : (queue.take i).take j = queue.take i := List.take_of_length_le (by omega)
        refine CD.exit ?_
        refine CD.seq ?_
        refine CD.region ?_
        refine OD.still (wants_plain rfl) rfl (still_mv rfl ot) ?_
        refine OD.still (wants_plain rfl) rfl (still_as rfl ot) ?_
        refine OD.wk (Wk.as_ (n := 80) (l' := [(4, _)]) (S' := (⟨b5, 27, 3, [_, _, _]⟩ :: ⟨b2, 25, 2, [_, _]⟩ :: Sw)) rfl rfl ⟨lk, trivial⟩) ?_
        refine OD.nil ?_
        refine CD.ret ?_
        refine ⟨.inr rfl, _, Sw, (List.sublist_append_right [_, _] _), ret_one Tryd.results39 (res_tmp (Nat.le_of_ble_eq_true rfl) lk), ?_⟩
        first | exact RetL.cast (RetL.mk how) (by rw [hfull, hfull2]; unfold waitsL; rw [hq, if_pos hneg]; rfl) | exact RetL.cast (RetL.mk how) (by rw [hfull]; unfold waitsL; rw [hq, if_neg hneg]; simp)
    · have hc2' := hc2
      (try simp only [decide_eq_true_eq, decide_eq_false_iff_not, beq_iff_eq, bne_iff_ne, Bool.not_eq_true', Bool.not_eq_false', Bool.not_eq_true, Bool.not_eq_false, beq_eq_false_iff_ne, ne_eq, bne_eq_false_iff_eq, Bool.and_eq_true, Bool.or_eq_true, Bool.not_not, Bool.and_eq_false_iff, Bool.or_eq_false_iff, Int.not_lt, Int.not_le] at hc2')
      have hneg : ¬ findI held q.t q.th < 0 := by subst hq; simpa using hc2
      refine CD.skip ?_
      refine CD.seq ?_
      refine CD.region ?_
      refine OD.still (wants_plain rfl) rfl (still_mv rfl ot) ?_
      refine OD.still (wants_plain rfl) rfl (still_as rfl ot) ?_
      refine OD.wk (Wk.as_ (n := 80) (l' := [(4, _)]) (S' := (⟨b5, 27, 3, [_, _, _]⟩ :: ⟨b2, 25, 2, [_, _]⟩ :: Sw)) rfl rfl ⟨lk, trivial⟩) ?_
      refine OD.nil ?_
      refine CD.ret ?_
      refine ⟨.inr rfl, _, Sw, (List.sublist_append_right [_, _] _), ret_one Tryd.results39 (res_tmp (Nat.le_of_ble_eq_true rfl) lk), ?_⟩
      first | exact RetL.cast (RetL.mk how) (by rw [hfull, hfull2]; unfold waitsL; rw [hq, if_pos hneg]; rfl) | exact RetL.cast (RetL.mk how) (by rw [hfull]; unfold waitsL; rw [hq, if_neg hneg]; simp)

end Go.Proofs.YtcogdagfcndbfaaDoor.Lk

namespace Go.Proofs
open Go.Shelf
def Tryd.lays189_ren : Go.Shelf.Ren := ⟨fun | 189 => 40 | 125 => 50 | 257 => 49 | 128 => 60 | 129 => 61 | 294 => 51 | 295 => 52 | 296 => 53 | 297 => 54 | 298 => 55 | 299 => 56 | 216 => 57 | 300 => 58 | 301 => 59 | 328 => 62 | 329 => 63 | 330 => 64 | 331 => 65 | 332 => 66 | 215 => 67 | 343 => 68 | n => n, fun | 28 => 34 | 3 => 3 | 46 => 80 | 0 => 0 | 51 => 91 | 53 => 93 | 4 => 4 | 183 => 83 | 182 => 82 | 131 => 88 | 5 => 5 | 9 => 9 | 218 => 94 | 222 => 98 | 228 => 100 | 229 => 101 | n => n, fun | n => n⟩
theorem Tryd.lays189 : Go.Proofs.Lays.n189 Tryd.prog Tryd.lays189_ren := {
  mixed := by kernel_rfl
  f125 := Tryd.func50.trans (congrArg some (by kernel_rfl))
  f128 := Tryd.func60.trans (congrArg some (by kernel_rfl))
  f129 := Tryd.func61.trans (congrArg some (by kernel_rfl))
  f189 := Tryd.func40.trans (congrArg some (by kernel_rfl))
  f215 := Tryd.func67.trans (congrArg some (by kernel_rfl))
  f216 := Tryd.func57.trans (congrArg some (by kernel_rfl))
  f257 := Tryd.func49.trans (congrArg some (by kernel_rfl))
  f294 := Tryd.func51.trans (congrArg some (by kernel_rfl))
  f295 := Tryd.func52.trans (congrArg some (by kernel_rfl))
  f296 := Tryd.func53.trans (congrArg some (by kernel_rfl))
  f297 := Tryd.func54.trans (congrArg some (by kernel_rfl))
  f298 := Tryd.func55.trans (congrArg some (by kernel_rfl))
  f299 := Tryd.func56.trans (congrArg some (by kernel_rfl))
  f300 := Tryd.func58.trans (congrArg some (by kernel_rfl))
  f301 := Tryd.func59.trans (congrArg some (by kernel_rfl))
  f328 := Tryd.func62.trans (congrArg some (by kernel_rfl))
  f329 := Tryd.func63.trans (congrArg some (by kernel_rfl))
  f330 := Tryd.func64.trans (congrArg some (by kernel_rfl))
  f331 := Tryd.func65.trans (congrArg some (by kernel_rfl))
  f332 := Tryd.func66.trans (congrArg some (by kernel_rfl))
  f343 := Tryd.func68.trans (congrArg some (by kernel_rfl))
  t0 := Tryd.underlying0
  a0 := Tryd.isAgg0
  z0 := Tryd.sizeOf0
  v0 := Tryd.zeroValue0
  t3 := Tryd.underlying3
  a3 := Tryd.isAgg3
  z3 := Tryd.sizeOf3
  v3 := Tryd.zeroValue3
  t4 := Tryd.underlying4
  a4 := Tryd.isAgg4
  z4 := Tryd.sizeOf4
  v4 := Tryd.zeroValue4
  t5 := Tryd.underlying5
  a5 := Tryd.isAgg5
  z5 := Tryd.sizeOf5
  v5 := Tryd.zeroValue5
  t9 := Tryd.underlying9
  a9 := Tryd.isAgg9
  z9 := Tryd.sizeOf9
  v9 := Tryd.zeroValue9
  t28 := Tryd.underlying34
  a28 := Tryd.isAgg34
  z28 := Tryd.sizeOf34
  v28 := Tryd.zeroValue34
  t46 := Tryd.underlying80
  a46 := Tryd.isAgg80
  z46 := Tryd.sizeOf80
  v46 := Tryd.zeroValue80
  t51 := Tryd.underlying91
  a51 := Tryd.isAgg91
  z51 := Tryd.sizeOf91
  v51 := Tryd.zeroValue91
  t53 := Tryd.underlying93
  a53 := Tryd.isAgg93
  z53 := Tryd.sizeOf93
  v53 := Tryd.zeroValue93
  t131 := Tryd.underlying88
  a131 := Tryd.isAgg88
  z131 := Tryd.sizeOf88
  v131 := Tryd.zeroValue88
  t182 := Tryd.underlying82
  a182 := Tryd.isAgg82
  z182 := Tryd.sizeOf82
  v182 := Tryd.zeroValue82
  t183 := Tryd.underlying83
  a183 := Tryd.isAgg83
  z183 := Tryd.sizeOf83
  v183 := Tryd.zeroValue83
  t218 := Tryd.underlying94
  a218 := Tryd.isAgg94
  z218 := Tryd.sizeOf94
  v218 := Tryd.zeroValue94
  t222 := Tryd.underlying98
  a222 := Tryd.isAgg98
  z222 := Tryd.sizeOf98
  v222 := Tryd.zeroValue98
  t228 := Tryd.underlying100
  a228 := Tryd.isAgg100
  z228 := Tryd.sizeOf100
  v228 := Tryd.zeroValue100
  t229 := Tryd.underlying101
  a229 := Tryd.isAgg101
  z229 := Tryd.sizeOf101
  v229 := Tryd.zeroValue101 }
open Go.Sort Go.RowKit in
theorem Tryd.slices_Sort_int (blk off cap : Nat) (zs : List Int) (w : World) (hH : Holds (Value.int .i64) w blk off zs.toArray) (hblk : blk < w.heap.size) (hsz : zs.length < 4611686018427387904) :
    Calls Tryd.prog 40 #[.slice (some ⟨blk, off, none⟩) zs.length cap] w fun e w' =>
      e = .returned (.tuple #[]) ∧ ∃ n os, w' = grow (putRow (Value.int .i64) (Sort.ahead w n) blk off (zs.mergeSort fun x y => decide (x ≤ y)).toArray) os := Any.slices_Sort_int Tryd.lays189 blk off cap zs w hH hblk hsz
def Tryd.laysNm220_ren : Go.Shelf.Ren := ⟨fun | 20 => 41 | n => n, fun | 22 => 34 | 3 => 3 | 4 => 4 | 0 => 0 | n => n, fun | n => n⟩
theorem Tryd.laysNm220 : Go.Proofs.Lays2.n20 Tryd.prog Tryd.laysNm220_ren := {
  mixed := by kernel_rfl
  f20 := Tryd.func41.trans (congrArg some (by kernel_rfl))
  t0 := Tryd.underlying0
  a0 := Tryd.isAgg0
  z0 := Tryd.sizeOf0
  v0 := Tryd.zeroValue0
  t3 := Tryd.underlying3
  a3 := Tryd.isAgg3
  z3 := Tryd.sizeOf3
  v3 := Tryd.zeroValue3
  t4 := Tryd.underlying4
  a4 := Tryd.isAgg4
  z4 := Tryd.sizeOf4
  v4 := Tryd.zeroValue4
  t22 := Tryd.underlying34
  a22 := Tryd.isAgg34
  z22 := Tryd.sizeOf34
  v22 := Tryd.zeroValue34
  i3 := by kernel_rfl }
open Go.RowKit Go.Lib Go.Sort in
/-- slices.Compact at []int: "Compact replaces consecutive runs of equal elements with a single copy. This is like the uniq command found on Unix. Compact modifies the contents of the slice s and returns the modified slice, which may have a smaller length. Compact zeroes the elements between the new length and the original length. The result preserves the nilness of s.": IT RETURNS THE SLICE CUT TO 'Lib.compact zs'; ITS CELLS HOLD 'Lib.compact zs', THEN ZERO VALUES up to the old length; all else is as it was, but for the count of draws. IN THE WORDS OF slices.Sort's CONTRACT ('Holds', 'putRow'): so the everyday 'slices.Sort(xs); xs = slices.Compact(xs)' goes from the one contract to the other. It asks 'zs.length ≤ cap' (every slice's: the reslicing 's[:k]' looks at it). Length 0, nil: '.._empty'. (LAID: no walk: one application.) -/
theorem Tryd.slices_Compact_int (blk off cap : Nat) (zs : List Int) (w : World) (hH : Holds (Value.int .i64) w blk off zs.toArray) (hsz : zs.length ≤ 9223372036854775807) (hcap : zs.length ≤ cap) :
    Calls Tryd.prog 41 #[.slice (some ⟨blk, off, none⟩) zs.length cap] w fun e w' => e = .returned (.slice (some ⟨blk, off, none⟩) (Lib.compact zs).length cap) ∧ ∃ q, w' = putRow (Value.int .i64) (Sort.ahead w q) blk off (Lib.compact zs ++ List.replicate (zs.length - (Lib.compact zs).length) 0).toArray := Any.slices_Compact_int Tryd.laysNm220 blk off cap zs w hH hsz hcap
open Go.RowKit Go.Lib Go.Sort in
/-- The same at a slice of length 0, a nil one too: it comes back as it is. (LAID: no walk: one application.) -/
theorem Tryd.slices_Compact_int_empty (a : Option Addr) (cap : Nat) (w : World) :
    Calls Tryd.prog 41 #[.slice a 0 cap] w fun e w' => e = .returned (.slice a 0 cap) ∧ w' = w := Any.slices_Compact_int_empty Tryd.laysNm220 a cap w
open Go.RowKit Go.Sort in
/-- .. and plain. (LAID: no walk: one application.) -/
theorem Tryd.slices_Sort_int_none (p : Option Addr) (cap : Nat) (w : World) :
    Calls Tryd.prog 40 #[.slice p 0 cap] w fun e w' => e = .returned (.tuple #[]) ∧ w' = w := Any.slices_Sort_int_none Tryd.lays189 p cap w
end Go.Proofs

namespace Go.Proofs.YtcogdagfcndbfaaDoor.Lk
open Go.RowKit V Go.Sort
set_option linter.unusedVariables false
set_option linter.unusedSimpArgs false

/-- A row of ints of one's own, as it lies. -/
theorem own_ints {w : World} {X : Nat → Prop} {b cap : Nat} {ls : List Int} (h : BlkAt w X ⟨b, 3, cap * 1, ls.flatMap cI⟩) :
    b < w.heap.size ∧ ∃ cur : Array Value, w.heap[b]? = some (.cells cur 3 (0, 0)) ∧ cur.size = cap * 1 ∧ ls.length ≤ cap ∧ ∀ j (hj : j < ls.length), cur[j]? = some (.int .i64 ls[j]) := by
  obtain ⟨h1, cur, h2, h3, h4, h5⟩ := h
  have hl : (ls.flatMap cI).length = ls.length := by rw [fm_len cI_len, Nat.mul_one]
  refine ⟨h1, cur, h2, h3, by have h4 : (ls.flatMap cI).length ≤ cap * 1 := h4; omega, fun j hj => ?_⟩
  obtain ⟨u, q1, q2⟩ := h5 j (by show j < (ls.flatMap cI).length; omega)
  have e : (ls.flatMap cI)[j]'(by omega) = .v (.int .i64 ls[j]) := by
    have := fm_cell cI_len hj (List.getElem?_eq_getElem (show 0 < (cI ls[j]).length from Nat.zero_lt_one))
    rw [Nat.mul_one, Nat.add_zero, List.getElem?_eq_getElem (by omega)] at this
    exact Option.some.inj this
  have q2 : Rep w X ((ls.flatMap cI)[j]'(by omega)) u := q2
  rw [e] at q2
  rw [q1, q2.v_eq]
theorem ints_hold {w : World} {b : Nat} {cur : Array Value} {ls : List Int} (h2 : w.heap[b]? = some (.cells cur 3 (0, 0))) (h5 : ∀ j (hj : j < ls.length), cur[j]? = some (.int .i64 ls[j])) : Holds (Value.int .i64) w b 0 ls.toArray := fun j hj => by
  have hj' : j < ls.length := by simpa using hj
  have e : ls.toArray[j]! = ls[j] := by simp [hj']
  refine ⟨?_, ?_⟩
  · rw [e, Nat.zero_add]
    unfold World.cell?
    simp [h2, h5 j hj']
  · unfold World.frozen?
    simp [h2]
theorem ints_put {w : World} {b n cap : Nat} {X : Nat → Prop} {cur : Array Value} {ls zs : List Int} {os : Array Obj} (h1 : b < w.heap.size) (h2 : w.heap[b]? = some (.cells cur 3 (0, 0))) (h3 : cur.size = cap * 1) (hz : zs.length ≤ cap) :
    BlkAt (grow (putRow (Value.int .i64) (Go.Sort.ahead w n) b 0 zs.toArray) os) X ⟨b, 3, cap * 1, zs.flatMap cI⟩ ∧ Fr w [b] (grow (putRow (Value.int .i64) (Go.Sort.ahead w n) b 0 zs.toArray) os) [b] := by
  have hsz : (putRow (Value.int .i64) (Go.Sort.ahead w n) b 0 zs.toArray).heap.size = w.heap.size := size_putRow _ _ _ _ _
  have hb : (grow (putRow (Value.int .i64) (Go.Sort.ahead w n) b 0 zs.toArray) os).heap[b]? = some (.cells (putCells (Value.int .i64) 0 zs.toArray cur) 3 (0, 0)) := by
    rw [heap_grow_old _ _ (by rw [hsz]; exact h1)]
    show (w.heap.modify b _)[b]? = _
    rw [Array.getElem?_modify, if_pos rfl, h2]; rfl
  have hl : (zs.flatMap cI).length = zs.length := by rw [fm_len cI_len, Nat.mul_one]
  refine ⟨⟨?_, _, hb, ?_, ?_, fun j hj => ?_⟩, ⟨rfl, rfl, rfl, ?_, fun k hk hn => ⟨?_, hn⟩⟩⟩
  · show b < (_ ++ os).size
    rw [Array.size_append, hsz]; omega
  · show (putCells _ _ _ cur).size = cap * 1
    unfold putCells; rw [Array.size_mapIdx]; exact h3
  · show (zs.flatMap cI).length ≤ cap * 1
    omega
  · have hj : j < (zs.flatMap cI).length := hj
    have hj' : j < zs.length := by omega
    have e : (zs.flatMap cI)[j] = .v (.int .i64 zs[j]) := by
      have := fm_cell cI_len hj' (List.getElem?_eq_getElem (show 0 < (cI zs[j]).length from Nat.zero_lt_one))
      rw [Nat.mul_one, Nat.add_zero, List.getElem?_eq_getElem hj] at this
      exact Option.some.inj this
    refine ⟨.int .i64 zs[j], ?_, ?_⟩
    · unfold putCells
      have hc : j < cur.size := by omega
      rw [Array.getElem?_mapIdx, Array.getElem?_eq_getElem hc]
      simp [hj']
    · show Rep _ _ (zs.flatMap cI)[j] _
      rw [e]; exact Rep.v _
  · show w.heap.size ≤ (_ ++ os).size
    rw [Array.size_append, hsz]; omega
  · rw [heap_grow_old _ _ (by rw [hsz]; exact hk)]
    show (w.heap.modify b _)[k]? = _
    rw [Array.getElem?_modify, if_neg (fun e => hn (by rw [e]; exact List.mem_singleton.2 rfl))]
def sortL (ls : List Int) : List Int := ls.mergeSort fun x y => decide (x ≤ y)
theorem sort_len (ls : List Int) : (sortL ls).length = ls.length := List.length_mergeSort _
theorem sort_vc {G : List (Nat × List Value)} (b cap : Nat) (ls : List Int) (hl : ls.length ≤ 1000000) : VC Tryd.prog G 40 [.v (.slice (some ⟨b, 0, none⟩) ls.length cap)] [⟨b, 3, cap * 1, ls.flatMap cI⟩] (fun r S => r = .tup [] ∧ S = [⟨b, 3, cap * 1, (sortL ls).flatMap cI⟩]) := fun X w vs hp => by
  obtain ⟨h1, cur, h2, h3, h4, h5⟩ := own_ints (hp.own.at_ _ List.mem_cons_self)
  have hvs : vs = [.slice (some ⟨b, 0, none⟩) ls.length cap] := by
    obtain ⟨a1, a2⟩ := hp.args
    match vs, a1, a2 with
    | [u], _, a2 => have e : u = _ := (a2 0 Nat.zero_lt_one Nat.zero_lt_one).v_eq; rw [e]
  subst hvs
  refine (Tryd.slices_Sort_int b 0 cap ls w (ints_hold h2 h5) h1 (by omega)).mono fun e w' ⟨he, n, os, hw⟩ => ?_
  subst he hw
  obtain ⟨q1, q2⟩ := ints_put (X := live X [⟨b, 3, cap * 1, (sortL ls).flatMap cI⟩]) (n := n) (os := os) (cur := cur) (ls := ls) (zs := sortL ls) h1 h2 h3 (by rw [sort_len]; exact h4)
  refine ⟨_, _, _, rfl, ⟨rfl, rfl⟩, ⟨fun B hB => ?_, by simp [bks]⟩, ?_, q2⟩
  · rw [List.mem_singleton] at hB; subst hB; exact q1
  · exact Rep.tup [] [] rfl (fun i h _ => absurd h (Nat.not_lt_zero _))

end Go.Proofs.YtcogdagfcndbfaaDoor.Lk

namespace Go.Proofs.YtcogdagfcndbfaaDoor.Lk
open Go.RowKit V Go.Sort
set_option linter.unusedVariables false
set_option linter.unusedSimpArgs false

theorem ints_cut {w : World} {X : Nat → Prop} {b cap : Nat} {a c : List Int} (h : BlkAt w X ⟨b, 3, cap * 1, (a ++ c).flatMap cI⟩) : BlkAt w X ⟨b, 3, cap * 1, a.flatMap cI⟩ := by
  obtain ⟨h1, cur, h2, h3, h4, h5⟩ := h
  have hl : ((a ++ c).flatMap cI).length = a.length + c.length := by rw [fm_len cI_len, Nat.mul_one, List.length_append]
  have hl2 : (a.flatMap cI).length = a.length := by rw [fm_len cI_len, Nat.mul_one]
  refine ⟨h1, cur, h2, h3, ?_, fun i hi => ?_⟩
  · have h4 : ((a ++ c).flatMap cI).length ≤ cap * 1 := h4
    show (a.flatMap cI).length ≤ cap * 1
    omega
  · have hi : i < (a.flatMap cI).length := hi
    obtain ⟨u, q1, q2⟩ := h5 i (by show i < ((a ++ c).flatMap cI).length; omega)
    refine ⟨u, q1, ?_⟩
    have e : ((a ++ c).flatMap cI)[i]'(by omega) = (a.flatMap cI)[i] := by
      simp only [List.flatMap_append]
      exact List.getElem_append_left hi
    have q2 : Rep w X (((a ++ c).flatMap cI)[i]'(by omega)) u := q2
    rw [e] at q2
    exact q2
abbrev compactL (ls : List Int) : List Int := Go.Lib.compact ls
theorem compact_len (ls : List Int) : (compactL ls).length ≤ ls.length := by
  unfold compactL Go.Lib.compact Go.Lib.compactUpTo
  rw [List.length_map]
  exact Nat.le_trans (List.length_filter_le _ _) (by rw [List.length_range]; exact Nat.le_refl _)
theorem args_one {G : List (Nat × List Value)} {X : Nat → Prop} {w : World} {S : List Blk} {x : Value} {vs : List Value} (hp : Pre G X w S [.v x] vs) : vs = [x] := by
  obtain ⟨a1, a2⟩ := hp.args
  match vs, a1, a2 with
  | [u], _, a2 => have e : u = _ := (a2 0 Nat.zero_lt_one Nat.zero_lt_one).v_eq; rw [e]
theorem compact_vc {G : List (Nat × List Value)} (b cap : Nat) (ls : List Int) (hl : ls.length ≤ 1000000) : VC Tryd.prog G 41 [.v (.slice (some ⟨b, 0, none⟩) ls.length cap)] [⟨b, 3, cap * 1, ls.flatMap cI⟩] (fun r S => r = .v (.slice (some ⟨b, 0, none⟩) (compactL ls).length cap) ∧ S = [⟨b, 3, cap * 1, (compactL ls).flatMap cI⟩]) := fun X w vs hp => by
  obtain ⟨h1, cur, h2, h3, h4, h5⟩ := own_ints (hp.own.at_ _ List.mem_cons_self)
  have hvs := args_one hp
  subst hvs
  refine (Tryd.slices_Compact_int b 0 cap ls w (ints_hold h2 h5) (by omega) h4).mono fun e w' ⟨he, n, hw⟩ => ?_
  subst he hw
  have hc := compact_len ls
  obtain ⟨q1, q2⟩ := ints_put (X := live X [⟨b, 3, cap * 1, (compactL ls).flatMap cI⟩]) (n := n) (os := #[]) (cur := cur) (ls := ls) (zs := compactL ls ++ List.replicate (ls.length - (compactL ls).length) 0) h1 h2 h3 (by rw [List.length_append, List.length_replicate]; omega)
  rw [grow_empty] at q1 q2
  refine ⟨_, _, _, rfl, ⟨rfl, rfl⟩, ⟨fun B hB => ?_, by simp [bks]⟩, Rep.v _, q2⟩
  rw [List.mem_singleton] at hB; subst hB; exact ints_cut q1
theorem sort_row {G : List (Nat × List Value)} {ad : Option Addr} {cap : Nat} {ls : List Int} {S : List Blk} (ho : OwnL 3 1 (ls.flatMap cI) ls.length ad cap S) (hl : ls.length ≤ 1000000) :
    VC Tryd.prog G 40 [.v (.slice ad ls.length cap)] S (fun r S' => r = .tup [] ∧ OwnL 3 1 ((sortL ls).flatMap cI) (sortL ls).length ad cap S') := by
  rcases ho with ⟨h1, h2, h3, h4, h5⟩ | ⟨b, h1, h2, h3, h4⟩
  · have e : ls = [] := List.eq_nil_of_length_eq_zero h1
    subst e
    subst h5
    intro X w vs hp
    have hvs := args_one hp
    subst hvs
    refine (Tryd.slices_Sort_int_none ad cap w).mono fun e w' ⟨he, hw⟩ => ?_
    subst he hw
    exact ⟨_, .tup [], [], rfl, ⟨rfl, .inl ⟨by rw [sort_len]; rfl, by rw [List.eq_nil_of_length_eq_zero (sort_len [])]; rfl, h3, h4, rfl⟩⟩, hp.own, Rep.tup [] [] rfl (fun i h _ => absurd h (Nat.not_lt_zero _)), Fr.refl _ _⟩
  · subst h1 h4
    exact (sort_vc b cap ls hl).post fun r S' ⟨q1, q2⟩ => ⟨q1, .inr ⟨b, rfl, by rw [sort_len]; exact h2, h3, q2⟩⟩
theorem compact_row {G : List (Nat × List Value)} {ad : Option Addr} {cap : Nat} {ls : List Int} {S : List Blk} (ho : OwnL 3 1 (ls.flatMap cI) ls.length ad cap S) (hl : ls.length ≤ 1000000) :
    VC Tryd.prog G 41 [.v (.slice ad ls.length cap)] S (RetL cI 3 1 (compactL ls)) := by
  rcases ho with ⟨h1, h2, h3, h4, h5⟩ | ⟨b, h1, h2, h3, h4⟩
  · have e : ls = [] := List.eq_nil_of_length_eq_zero h1
    subst e
    subst h5
    intro X w vs hp
    have hvs := args_one hp
    subst hvs
    refine (Tryd.slices_Compact_int_empty ad cap w).mono fun e w' ⟨he, hw⟩ => ?_
    subst he hw
    exact ⟨_, .v (.slice ad (compactL []).length cap), [], rfl, ⟨ad, cap, rfl, .inl ⟨rfl, rfl, h3, h4, rfl⟩⟩, hp.own, Rep.v _, Fr.refl _ _⟩
  · subst h1 h4
    exact (compact_vc b cap ls hl).post fun r S' ⟨q1, q2⟩ => ⟨_, _, q1, .inr ⟨b, rfl, Nat.le_trans (compact_len ls) h2, h3, q2⟩⟩

end Go.Proofs.YtcogdagfcndbfaaDoor.Lk

namespace Go.Proofs.YtcogdagfcndbfaaDoor.Lk
open Go.RowKit V
set_option linter.unusedVariables false
set_option linter.unusedSimpArgs false

theorem compact_sorted {G : List (Nat × List Value)} {ad : Option Addr} {cap : Nat} {l : List Int} {S : List Blk} (ho : OwnL 3 1 ((sortL l).flatMap cI) (sortL l).length ad cap S) (hl : l.length ≤ 1000000) :
    VC Tryd.prog G 41 [.v (.slice ad l.length cap)] S (RetL cI 3 1 (compactL (sortL l))) := by
  have h := compact_row (G := G) ho (by rw [sort_len]; exact hl)
  rw [sort_len] at h
  exact h
/-- A list of ints, as a cell. -/
def cII (l : List Int) : List D := [.list 1 (l.flatMap cI) l.length]
theorem cII_len (l : List Int) : (cII l).length = 1 := rfl
theorem cII_one (l : List Int) : (cII l).all V.one = true := rfl
def waitsN (held queue : List L) (i : Nat) : List Int := compactL (sortL (waitsL held (queue.take i) (queue.getD i ⟨0, ⟨#[]⟩, 0⟩)))
def waitsAll (held queue : List L) : List (List Int) := (List.range queue.length).map (waitsN held queue)
theorem range_step {β : Type} (f : Nat → β) (i : Nat) : (List.range i).map f ++ [f i] = (List.range (i + 1)).map f := by rw [List.range_succ, List.map_append]; rfl
theorem waits_at {held queue : List L} {i : Nat} (hi : i < queue.length) : compactL (sortL (waitsL held (queue.take i) queue[i])) = waitsN held queue i := by
  unfold waitsN
  rw [List.getD_eq_getElem?_getD, List.getElem?_eq_getElem hi]; rfl
theorem waits_len (held pre : List L) (q : L) : (waitsL held pre q).length ≤ held.length + pre.length := by
  unfold waitsL
  rw [List.length_append, List.length_map]
  have h1 := List.length_filter_le (clash q) held
  have h2 : (if findI held q.t q.th < 0 then (pre.filter (onTh q)).map L.t else []).length ≤ pre.length := by
    split
    · rw [List.length_map]; exact List.length_filter_le _ _
    · exact Nat.zero_le _
  omega

theorem info34_Lkm : (Tryd.prog.info? 34).map (fun i => (i.zero, i.size, i.bytes)) = some (some (.slice none 0 0), 1, 24) := by kernel_rfl

set_option maxHeartbeats 4000000 in
set_option maxRecDepth 100000 in
theorem waitsAll_vp (held queue : List L) (g : Good held queue) (hh : held.length ≤ 1000) (hq : queue.length ≤ 1000) (hhs : ∀ h ∈ held, modeB h.m = true) (hqs : ∀ h ∈ queue, modeB h.m = true) : VP Tryd.prog TG 23 [locksS held queue] (.tup [.list 1 ((waitsAll held queue).flatMap cII) (waitsAll held queue).length, .v (.int .i64 0)]) := by
  refine VC.body Tryd.func23 rfl Tryd.ntmps23 (Nat.le_of_ble_eq_true rfl) fun X0 w0 S00 => ?_
  have hmx : maxLen = 9223372036854775807 := rfl
  have hcv := check_vp held queue g
  have hwv := fun i hi => waits_vc held queue i hi hhs hqs hh hq
  unfold locksS locksD at hcv
  unfold locksS locksD at hwv
  unfold locksS locksD
  refine CD.seq ?_
  refine CD.region ?_
  refine OD.box (ds := [_, _]) (wants_plain rfl) rfl rfl ot rfl rfl (fun b1 => ?_)
  refine OD.still (wants_plain rfl) rfl (still_as rfl opd_const) ?_
  refine OD.still (wants_plain rfl) rfl (still_as rfl opd_const) ?_
  refine OD.wk (Wk.as_ (n := 31) (l' := [(1, _)]) (S' := [⟨b1, 25, 2, [_, _]⟩]) rfl rfl ⟨lk, trivial⟩) ?_
  refine OD.nil ?_
  refine CD.seq ?_
  refine CD.seq ?_
  refine CD.region ?_
  refine OD.still (wants_plain rfl) rfl (still_r1 (mk := Op.load 25) rfl ot (by first | exact ld_blks (k := 0) (ds := [_, _]) rfl rfl Tryd.isAgg25 Tryd.sizeOf25 rfl rfl | exact ld_fms cL_len Tryd.isAgg25 Tryd.sizeOf25 (by first | assumption | omega) | exact ld_rows (k := 0) cL_len rfl rfl rfl Tryd.isAgg25 Tryd.sizeOf25 (by first | assumption | omega) | exact ld_is (ds := [_, _]) Tryd.isAgg25 Tryd.sizeOf25 rfl rfl)) ?_
  refine OD.callP (wants_plain rfl) rfl rfl rfl Tryd.call18 (hcv) ⟨ot, trivial⟩ ?_
  refine OD.still (wants_plain rfl) rfl (still_as rfl ot) ?_
  refine OD.wk (Wk.as_ (n := 31) (l' := [(1, _), (4, _)]) (S' := [⟨b1, 25, 2, [_, _]⟩]) rfl rfl ⟨lk, lk, trivial⟩) ?_
  refine OD.nil ?_
  refine CD.seq ?_
  refine CD.region ?_
  refine OD.still (wants_plain rfl) rfl (still_mv rfl ot) ?_
  refine OD.still (wants_plain rfl) rfl (still_bin rfl ot opd_const bin_neq) ?_
  refine OD.wk (Wk.as_ (n := 31) (l' := [(1, _), (4, _), (11, _)]) (S' := [⟨b1, 25, 2, [_, _]⟩]) rfl rfl ⟨lk, lk, lk, trivial⟩) ?_
  refine OD.nil ?_
  refine CD.cond ot (fun hc0 => ?_) (fun hc0 => ?_)
  · exact absurd hc0 (by simp)
  · have hc0' := hc0
    (try simp only [decide_eq_true_eq, decide_eq_false_iff_not, beq_iff_eq, bne_iff_ne, Bool.not_eq_true', Bool.not_eq_false', Bool.not_eq_true, Bool.not_eq_false, beq_eq_false_iff_ne, ne_eq, bne_eq_false_iff_eq, Bool.and_eq_true, Bool.or_eq_true, Bool.not_not, Bool.and_eq_false_iff, Bool.or_eq_false_iff, Int.not_lt, Int.not_le] at hc0')
    refine CD.skip ?_
    refine CD.seq ?_
    refine CD.region ?_
    refine OD.still (wants_plain rfl) rfl (still_as rfl opd_const) ?_
    refine OD.wk (Wk.as_ (n := 31) (l' := [(1, _), (5, _)]) (S' := (⟨b1, 25, 2, [_, _]⟩ :: [])) rfl rfl ⟨lk, lk, trivial⟩) ?_
    refine OD.nil ?_
    refine CD.seq ?_
    refine CD.seq ?_
    refine CD.region ?_
    refine OD.still (wants_plain rfl) rfl (still_r1 (mk := fun y => Op.fieldAddr 25 y 1) rfl ot (by first | exact fa_ptr (off := 1) Tryd.runUnderlying25 rfl Tryd.sizeOf23 rfl | exact fa_iptr (off := 1) Tryd.runUnderlying25 rfl Tryd.sizeOf23 rfl)) ?_
    refine OD.still (wants_plain rfl) rfl (still_r1 (mk := Op.load 23) rfl ot (by first | exact ld_blk (k := 0) rfl rfl Tryd.isAgg23 rfl | exact ld_fm cL_len Tryd.isAgg23 (by first | assumption | omega) rfl | exact ld_fm0 cL_len Tryd.isAgg23 (by first | assumption | omega) rfl | exact ld_row (k := 0) cL_len rfl rfl rfl Tryd.isAgg23 (by first | assumption | omega) rfl | exact ld_row0 (k := 0) cL_len rfl rfl rfl Tryd.isAgg23 (by first | assumption | omega) rfl | exact ld_i Tryd.isAgg23 rfl)) ?_
    refine OD.still (wants_plain rfl) rfl (still_r1 (mk := fun y => .call { callee := .builtin .len, args := #[y], argTypes := #[23] }) rfl ot (by first | exact len_list rfl Tryd.runUnderlying23 | exact len_row rfl Tryd.runUnderlying23)) ?_
    refine OD.still (wants_plain rfl) rfl (still_mv rfl opd_const) ?_
    refine OD.wk (Wk.as_ (n := 31) (l' := [(1, _), (5, _), (15, _), (16, _)]) (S' := (⟨b1, 25, 2, [_, _]⟩ :: [])) rfl rfl ⟨lk, lk, lk, lk, trivial⟩) ?_
    refine OD.nil ?_
    refine CD.block ?_
    refine CD.wk (Wk.asS (n := 31) (l' := [(1, .v (.pointer (some ⟨b1, 0, none⟩))), (5, .v (.slice none ((List.range (0)).map (waitsN held queue)).length (0))), (15, .v (.int .i64 (queue.length : Nat))), (16, .v (.int .i64 ((0) : Nat)))]) (S' := ((⟨b1, 25, 2, [.list 3 (held.flatMap cL) held.length, .list 3 (queue.flatMap cL) queue.length]⟩ : Blk) :: ([]))) rfl (by repeat (first | exact List.Sublist.refl _ | apply List.Sublist.cons_cons | apply List.Sublist.cons)) ⟨(by (repeat (first | exact look_hit | (apply look_at; focus (first | rfl | (simp; done) | (congr 2; omega) | (apply row_eq; exact (by rw [waits_at hlt]; exact range_step _ _)) | (apply row_eq; simp; done))) | (apply look_miss; focus rfl))); done), (by (repeat (first | exact look_hit | (apply look_at; focus (first | rfl | (simp; done) | (congr 2; omega) | (apply row_eq; exact (by rw [waits_at hlt]; exact range_step _ _)) | (apply row_eq; simp; done))) | (apply look_miss; focus rfl))); done), (by (repeat (first | exact look_hit | (apply look_at; focus (first | rfl | (simp; done) | (congr 2; omega) | (apply row_eq; exact (by rw [waits_at hlt]; exact range_step _ _)) | (apply row_eq; simp; done))) | (apply look_miss; focus rfl))); done), (by (repeat (first | exact look_hit | (apply look_at; focus (first | rfl | (simp; done) | (congr 2; omega) | (apply row_eq; exact (by rw [waits_at hlt]; exact range_step _ _)) | (apply row_eq; simp; done))) | (apply look_miss; focus rfl))); done), trivial⟩) (CD.loop (fun (gh__ : Nat × Option Addr × Nat × List Blk) y__ => match gh__ with | (i, adr, cpr, Sr) => (i ≤ queue.length) ∧ (OwnL 34 1 (((List.range i).map (waitsN held queue)).flatMap cII) ((List.range i).map (waitsN held queue)).length adr cpr Sr) ∧ y__ = (⟨31, [(1, .v (.pointer (some ⟨b1, 0, none⟩))), (5, .v (.slice adr ((List.range i).map (waitsN held queue)).length cpr)), (15, .v (.int .i64 (queue.length : Nat))), (16, .v (.int .i64 (i : Nat)))], ((⟨b1, 25, 2, [.list 3 (held.flatMap cL) held.length, .list 3 (queue.flatMap cL) queue.length]⟩ : Blk) :: Sr)⟩ : St)) (fun (gh__ : Nat × Option Addr × Nat × List Blk) => match gh__ with | (i, adr, cpr, Sr) => queue.length - i) (0, none, 0, []) ⟨(Nat.zero_le _), (OwnL.cast ownL_nil (by first | rfl | simp)), rfl⟩ ?_)
    rintro ⟨i, adr, cpr, Sr⟩ _ ⟨hi, hor, rfl⟩
    refine CD.seq ?_
    refine CD.region ?_
    refine OD.still (wants_plain rfl) rfl (still_bin rfl ot ot bin_lss) ?_
    refine OD.wk (Wk.as_ (n := 31) (l' := [(1, _), (5, _), (15, _), (16, _), (17, _)]) (S' := (⟨b1, 25, 2, [_, _]⟩ :: Sr)) rfl rfl ⟨lk, lk, lk, lk, lk, trivial⟩) ?_
    refine OD.nil ?_
    refine CD.seq ?_
    refine CD.cond ot (fun hc1 => ?_) (fun hc1 => ?_)
    · have hc1' := hc1
      (try simp only [decide_eq_true_eq, decide_eq_false_iff_not, beq_iff_eq, bne_iff_ne, Bool.not_eq_true', Bool.not_eq_false', Bool.not_eq_true, Bool.not_eq_false, beq_eq_false_iff_ne, ne_eq, bne_eq_false_iff_eq, Bool.and_eq_true, Bool.or_eq_true, Bool.not_not, Bool.and_eq_false_iff, Bool.or_eq_false_iff, Int.not_lt, Int.not_le] at hc1')
      have hlt : i < queue.length := by omega
      have hwl := waits_len held (queue.take i) queue[i]
      have htl : (queue.take i).length ≤ 1000 := by rw [List.length_take]; omega
      refine CD.skip ?_
      refine CD.seq ?_
      refine CD.block ?_
      refine CD.seq ?_
      refine CD.region ?_
      refine OD.still (wants_plain rfl) rfl (still_mv rfl ot) ?_
      refine OD.still (wants_plain rfl) rfl (still_as rfl ot) ?_
      refine OD.wk (Wk.as_ (n := 31) (l' := [(1, _), (5, _), (6, _), (15, _), (16, _)]) (S' := (⟨b1, 25, 2, [_, _]⟩ :: Sr)) rfl rfl ⟨lk, lk, lk, lk, lk, trivial⟩) ?_
      refine OD.nil ?_
      refine CD.seq ?_
      refine CD.region ?_
      refine OD.still (wants_plain rfl) rfl (still_r1 (mk := Op.load 25) rfl ot (by first | exact ld_blks (k := 0) (ds := [_, _]) rfl rfl Tryd.isAgg25 Tryd.sizeOf25 rfl rfl | exact ld_fms cL_len Tryd.isAgg25 Tryd.sizeOf25 (by first | assumption | omega) | exact ld_rows (k := 0) cL_len rfl rfl rfl Tryd.isAgg25 Tryd.sizeOf25 (by first | assumption | omega) | exact ld_is (ds := [_, _]) Tryd.isAgg25 Tryd.sizeOf25 rfl rfl)) ?_
      refine OD.still (wants_plain rfl) rfl (still_mv rfl ot) ?_
      refine OD.call (wants_plain rfl) rfl rfl rfl Tryd.call39 (hwv i hlt) ⟨ot, ot, trivial⟩ (perm_none _) ?_; rintro _ S21 ⟨ad21, cp21, rfl, ho21⟩
      refine OD.perm (perm_q22 (A := [_])) ?_
      refine OD.still (wants_plain rfl) rfl (still_as rfl ot) ?_
      refine OD.wk (Wk.as_ (n := 31) (l' := [(1, _), (5, _), (7, _), (15, _), (16, _)]) (S' := (⟨b1, 25, 2, [_, _]⟩ :: (Sr ++ S21))) rfl rfl ⟨lk, lk, lk, lk, lk, trivial⟩) ?_
      refine OD.nil ?_
      refine CD.seq ?_
      refine CD.region ?_
      refine OD.still (wants_plain rfl) rfl (still_mv rfl ot) ?_
      refine OD.call (wants_plain rfl) rfl rfl rfl Tryd.call40 (sort_row ho21 (by omega)) ⟨ot, trivial⟩ (perm_r22 (A := [_])) ?_; rintro _ S23 ⟨rfl, ho23⟩
      refine OD.perm (perm_q22 (A := [_])) ?_
      refine OD.wk (Wk.as_ (n := 31) (l' := [(1, _), (5, _), (7, _), (15, _), (16, _)]) (S' := (⟨b1, 25, 2, [_, _]⟩ :: (Sr ++ S23))) rfl rfl ⟨lk, lk, lk, lk, lk, trivial⟩) ?_
      refine OD.nil ?_
      refine CD.region ?_
      refine OD.still (wants_plain rfl) rfl (still_mv rfl ot) ?_
      refine OD.still (wants_plain rfl) rfl (still_mv rfl ot) ?_
      refine OD.call (wants_plain rfl) rfl rfl rfl Tryd.call41 (compact_sorted ho23 (by omega)) ⟨ot, trivial⟩ (perm_r22 (A := [_])) ?_; rintro _ S26 ⟨ad26, cp26, rfl, ho26⟩
      refine OD.perm (perm_q22 (A := [_])) ?_
      refine OD.giveL (t := 26) (Sq := S26) lk ho26 (fm_len cI_len _) (perm_r22 (A := [_])) ?_
      refine OD.bldS (pl := [(0, _)]) (zvs := [.slice none 0 0]) (ds := [_]) (wants_plain rfl) rfl rfl Tryd.zeroValue34 Tryd.runUnderlying50 Tryd.sizeOf34 rfl rfl (by kernel_rfl) ⟨rfl, ot, trivial⟩ rfl rfl (fun b27 => ?_)
      refine OD.give (k := 0) (t := 27) (sz := 1) (m := 1) rfl lk rfl rfl rfl (Nat.le_refl _) (by decide) ?_
      refine OD.appendG (ls := ((List.range i).map (waitsN held queue))) (new := [compactL (sortL (waitsL held (queue.take i) queue[i]))]) (Sq := Sr) cII_len cII_one (wants_plain rfl) rfl rfl Tryd.underlying50 info34_Lkm rfl (by decide) ot hor (perm_r11 (A := [_])) ot (by simp) (by have hmx : maxLen = 9223372036854775807 := rfl; (try simp only [List.length_append, List.length_cons, List.length_nil, List.length_map, List.length_range]); omega) (by have hmx : maxLen = 9223372036854775807 := rfl; (try simp only [List.length_append, List.length_cons, List.length_nil, List.length_map, List.length_range]); omega) (fun b28 cp28 h128 h228 => ?_)
      refine OD.perm (perm_q11 (S1 := [⟨b28, 34, cp28 * 1, List.flatMap cII (((List.range i).map (waitsN held queue)) ++ [compactL (sortL (waitsL held (queue.take i) queue[i]))])⟩]) (A := [_])) ?_
      refine OD.still (wants_plain rfl) rfl (still_as rfl ot) ?_
      refine OD.wk (Wk.as_ (n := 31) (l' := [(1, _), (5, _), (15, _), (16, _)]) (S' := (⟨b1, 25, 2, [_, _]⟩ :: [⟨b28, 34, cp28 * 1, List.flatMap cII (((List.range i).map (waitsN held queue)) ++ [compactL (sortL (waitsL held (queue.take i) queue[i]))])⟩])) rfl rfl ⟨lk, lk, lk, lk, trivial⟩) ?_
      refine OD.nil ?_
      refine CD.region ?_
      refine OD.still (wants_plain rfl) rfl (still_bin rfl ot opd_const (bin_add (wrap_i64 (by omega) (by omega)))) ?_
      refine OD.still (wants_plain rfl) rfl (still_mv rfl ot) ?_
      refine OD.wk (Wk.as_ (n := 31) (l' := [(1, _), (5, _), (15, _), (16, _)]) (S' := (⟨b1, 25, 2, [_, _]⟩ :: [⟨b28, 34, cp28 * 1, List.flatMap cII (((List.range i).map (waitsN held queue)) ++ [compactL (sortL (waitsL held (queue.take i) queue[i]))])⟩])) rfl rfl ⟨lk, lk, lk, lk, trivial⟩) ?_
      refine OD.nil ?_
      refine ⟨((i + 1), (some ⟨b28, 0, none⟩), cp28, [⟨b28, 34, cp28 * 1, List.flatMap cII (((List.range i).map (waitsN held queue)) ++ [compactL (sortL (waitsL held (queue.take i) queue[i]))])⟩]), ⟨31, [(1, .v (.pointer (some ⟨b1, 0, none⟩))), (5, .v (.slice ((some ⟨b28, 0, none⟩)) ((List.range ((i + 1))).map (waitsN held queue)).length cp28)), (15, .v (.int .i64 (queue.length : Nat))), (16, .v (.int .i64 (((i + 1)) : Nat)))], ((⟨b1, 25, 2, [.list 3 (held.flatMap cL) held.length, .list 3 (queue.flatMap cL) queue.length]⟩ : Blk) :: ([⟨b28, 34, cp28 * 1, List.flatMap cII (((List.range i).map (waitsN held queue)) ++ [compactL (sortL (waitsL held (queue.take i) queue[i]))])⟩]))⟩, ?_, Wk.asS (n := 31) rfl (by repeat (first | exact List.Sublist.refl _ | apply List.Sublist.cons_cons | apply List.Sublist.cons)) ⟨(by (repeat (first | exact look_hit | (apply look_at; focus (first | rfl | (simp; done) | (congr 2; omega) | (apply row_eq; exact (by rw [waits_at hlt]; exact range_step _ _)) | (apply row_eq; simp; done))) | (apply look_miss; focus rfl))); done), (by (repeat (first | exact look_hit | (apply look_at; focus (first | rfl | (simp; done) | (congr 2; omega) | (apply row_eq; exact (by rw [waits_at hlt]; exact range_step _ _)) | (apply row_eq; simp; done))) | (apply look_miss; focus rfl))); done), (by (repeat (first | exact look_hit | (apply look_at; focus (first | rfl | (simp; done) | (congr 2; omega) | (apply row_eq; exact (by rw [waits_at hlt]; exact range_step _ _)) | (apply row_eq; simp; done))) | (apply look_miss; focus rfl))); done), (by (repeat (first | exact look_hit | (apply look_at; focus (first | rfl | (simp; done) | (congr 2; omega) | (apply row_eq; exact (by rw [waits_at hlt]; exact range_step _ _)) | (apply row_eq; simp; done))) | (apply look_miss; focus rfl))); done), trivial⟩, (by omega), (OwnL.cast (ownL_row h128 h228) (by exact (by rw [waits_at hlt]; exact range_step _ _))), rfl⟩
      first | omega | (simp only []; omega)
    · have hc1' := hc1
      (try simp only [decide_eq_true_eq, decide_eq_false_iff_not, beq_iff_eq, bne_iff_ne, Bool.not_eq_true', Bool.not_eq_false', Bool.not_eq_true, Bool.not_eq_false, beq_eq_false_iff_ne, ne_eq, bne_eq_false_iff_eq, Bool.and_eq_true, Bool.or_eq_true, Bool.not_not, Bool.and_eq_false_iff, Bool.or_eq_false_iff, Int.not_lt, Int.not_le] at hc1')
      have hie : i = queue.length := by omega
      have hfin : (List.range i).map (waitsN held queue) = waitsAll held queue := by rw [hie]; rfl
      refine CD.exit ?_
      refine CD.seq ?_
      refine CD.region ?_
      refine OD.still (wants_plain rfl) rfl (still_mv rfl ot) ?_
      refine OD.still (wants_plain rfl) rfl (still_as rfl ot) ?_
      refine OD.still (wants_plain rfl) rfl (still_as rfl opd_const) ?_
      refine OD.wk (Wk.as_ (n := 31) (l' := [(2, _), (3, _)]) (S' := (⟨b1, 25, 2, [_, _]⟩ :: Sr)) rfl rfl ⟨lk, lk, trivial⟩) ?_
      refine OD.nil ?_
      refine CD.giveL (t := 2) (Sq := Sr) lk hor (fm_len cII_len _) (perm_r11 (A := [_])) ?_
      refine CD.ret ?_
      refine ⟨.inr rfl, _, [], List.nil_sublist _, ret_two Tryd.results23 (res_tmp (Nat.le_of_ble_eq_true rfl) lk) (res_tmp (Nat.le_of_ble_eq_true rfl) lk), ?_⟩
      rw [hfin]; exact ⟨rfl, rfl⟩

end Go.Proofs.YtcogdagfcndbfaaDoor.Lk

namespace Go.Proofs.YtcogdagfcndbfaaDoor.Lk
open Go.RowKit V
set_option linter.unusedVariables false
set_option linter.unusedSimpArgs false

theorem modeF_held {held : List L} {h : L} {th : ByteArray} (hm : ∀ y ∈ held, modeB y.m = true) (hh : h ∈ held) (he : (h.th.toList == th.toList) = true) : 0 < modeF held h.t th := by
  unfold modeF
  cases hf : held.find? (hasK h.t th) with
  | none =>
    have := List.find?_eq_none.1 hf h hh
    exact absurd (by unfold hasK; rw [he]; simp) this
  | some y =>
    have hy := modeB_bd (hm y (List.mem_of_find?_eq_some hf))
    show 0 < y.m
    omega
/-- For whom one waits: it is another one, who holds the thing or stands ahead. -/
theorem waits_mem {held pre : List L} {q : L} {u : Int} (hm : ∀ y ∈ held, modeB y.m = true) (hp : (pre.any fun x => x.t == q.t) = false) (hu : u ∈ waitsL held pre q) :
    u ≠ q.t ∧ (0 < modeF held u q.th ∨ ∃ x ∈ pre, x.t = u ∧ (x.th.toList == q.th.toList) = true) := by
  unfold waitsL at hu
  rcases List.mem_append.1 hu with hu | hu
  · obtain ⟨h, h1, rfl⟩ := List.mem_map.1 hu
    obtain ⟨h2, h3⟩ := List.mem_filter.1 h1
    unfold clash at h3
    simp only [Bool.and_eq_true, bne_iff_ne, ne_eq] at h3
    exact ⟨h3.2.1, .inl (modeF_held hm h2 h3.1)⟩
  · split at hu
    · obtain ⟨x, h1, rfl⟩ := List.mem_map.1 hu
      obtain ⟨h2, h3⟩ := List.mem_filter.1 h1
      have hx := List.any_eq_false.1 hp x h2
      exact ⟨fun e => hx (by rw [e]; simp), .inr ⟨x, h2, rfl, h3⟩⟩
    · cases hu
/-- Who must wait waits for somebody. -/
theorem waits_ne {held pre : List L} {q : L} (h : firstQ held pre q = false) : waitsL held pre q ≠ [] := by
  intro e
  unfold waitsL at e
  obtain ⟨e1, e2⟩ := List.append_eq_nil_iff.1 e
  have h1 : held.any (clash q) = false := by
    rw [List.any_eq_false]
    intro x hx hc
    have : x ∈ held.filter (clash q) := List.mem_filter.2 ⟨hx, hc⟩
    rw [List.map_eq_nil_iff.1 e1] at this
    cases this
  unfold firstQ freeB at h
  rw [h1] at h
  by_cases hf : findI held q.t q.th < 0
  · rw [if_pos hf] at e2
    have h2 : pre.any (onTh q) = false := by
      rw [List.any_eq_false]
      intro x hx hc
      have : x ∈ pre.filter (onTh q) := List.mem_filter.2 ⟨hx, hc⟩
      rw [List.map_eq_nil_iff.1 e2] at this
      cases this
    rw [h2] at h
    simp at h
  · have : decide (0 ≤ findI held q.t q.th) = true := decide_eq_true (by omega)
    rw [this] at h
    simp at h
theorem upTo_rise {d : Array Int} (hs : ∀ i j, i ≤ j → j < d.size → d[i]! ≤ d[j]!) : ∀ m, m ≤ d.size → (Go.Lib.compactUpTo d m).Pairwise (· < ·) ∧ ∀ x ∈ Go.Lib.compactUpTo d m, x ≤ d[m - 1]!
  | 0, _ => ⟨by simp [Go.Lib.compactUpTo], fun x hx => by simp [Go.Lib.compactUpTo] at hx⟩
  | m + 1, hm => by
    obtain ⟨h1, h2⟩ := upTo_rise hs m (by omega)
    rw [Go.Lib.compactUpTo_succ]
    have hle : d[m - 1]! ≤ d[m]! := hs (m - 1) m (by omega) (by omega)
    by_cases hk : Go.Lib.keeps d m = true
    · rw [if_pos hk]
      have hlt : ∀ x ∈ Go.Lib.compactUpTo d m, x < d[m]! := fun x hx => by
        have hx2 := h2 x hx
        by_cases h0 : m = 0
        · subst h0; simp [Go.Lib.compactUpTo] at hx
        · have : d[m]! ≠ d[m - 1]! := fun e => by rw [Go.Lib.keeps_neg (by omega) e] at hk; cases hk
          omega
      refine ⟨List.pairwise_append.2 ⟨h1, by simp, fun x hx y hy => ?_⟩, fun x hx => ?_⟩
      · simp only [List.mem_singleton] at hy; subst hy; exact hlt x hx
      · rcases List.mem_append.1 hx with hx | hx
        · have := hlt x hx; show x ≤ d[m]!; omega
        · simp only [List.mem_singleton] at hx; subst hx; exact Int.le_refl _
    · rw [if_neg hk, List.append_nil]
      exact ⟨h1, fun x hx => by have := h2 x hx; show x ≤ d[m]!; omega⟩
theorem compact_mem {l : List Int} {u : Int} (h : u ∈ compactL l) : u ∈ l := by
  unfold compactL Go.Lib.compact Go.Lib.compactUpTo at h
  obtain ⟨j, hj, rfl⟩ := List.mem_map.1 h
  have hj := List.mem_range.1 (List.mem_filter.1 hj).1
  have e : l.toArray[j]! = l[j] := by simp [hj]
  rw [e]
  exact List.getElem_mem hj
theorem compact_ne {l : List Int} (h : l ≠ []) : compactL l ≠ [] := by
  unfold compactL Go.Lib.compact Go.Lib.compactUpTo
  intro e
  have e := List.map_eq_nil_iff.1 e
  have hl : 0 < l.length := List.length_pos_iff.2 h
  have : 0 ∈ (List.range l.length).filter (Go.Lib.keeps l.toArray) := List.mem_filter.2 ⟨List.mem_range.2 hl, Go.Lib.keeps_lt_one _ 0 (by omega)⟩
  rw [e] at this
  cases this
theorem sort_sorted (l : List Int) : (sortL l).Pairwise (· ≤ ·) := by
  have := List.pairwise_mergeSort (le := fun x y : Int => decide (x ≤ y)) (fun a b c h1 h2 => by simp at *; omega) (fun a b => by simp; omega) l
  exact this.imp fun h => by simpa using h
theorem sorted_get {l : List Int} (h : l.Pairwise (· ≤ ·)) : ∀ i j, i ≤ j → j < l.toArray.size → l.toArray[i]! ≤ l.toArray[j]! := fun i j hij hj => by
  have hj' : j < l.length := by simpa using hj
  have hi' : i < l.length := by omega
  have e1 : l.toArray[i]! = l[i] := by simp [hi']
  have e2 : l.toArray[j]! = l[j] := by simp [hj']
  rw [e1, e2]
  rcases Nat.lt_or_ge i j with hlt | hge
  · exact List.pairwise_iff_getElem.1 h i j hi' hj' hlt
  · have : i = j := by omega
    subst this
    exact Int.le_refl _
/-- What one waits for stands in order, each once. -/
theorem told_rise (l : List Int) : (compactL (sortL l)).Pairwise (· < ·) := (upTo_rise (sorted_get (sort_sorted l)) _ (by simp)).1
theorem sort_mem {l : List Int} {u : Int} : u ∈ sortL l ↔ u ∈ l := by unfold sortL; exact List.mem_mergeSort
theorem told_ne {l : List Int} (h : l ≠ []) : compactL (sortL l) ≠ [] := compact_ne fun e => h (List.eq_nil_of_length_eq_zero (by rw [← sort_len l, e]; rfl))
theorem told_mem {l : List Int} {u : Int} (h : u ∈ compactL (sortL l)) : u ∈ l := sort_mem.1 (compact_mem h)
/-- Of good locks: who waits, waits for somebody else that holds the thing or stands ahead; each is told once, in order. -/
theorem waits_told {held queue : List L} (g : Good held queue) (hm : ∀ y ∈ held, modeB y.m = true) {i : Nat} (hi : i < queue.length) :
    waitsN held queue i ≠ [] ∧ (waitsN held queue i).Pairwise (· < ·) ∧ ∀ u ∈ waitsN held queue i, u ≠ queue[i].t ∧ (0 < modeF held u queue[i].th ∨ ∃ x ∈ queue.take i, x.t = u ∧ (x.th.toList == queue[i].th.toList) = true) := by
  have hb := g.queueOk i hi
  unfold badQ at hb
  simp only [Bool.or_eq_false_iff] at hb
  rw [← waits_at hi]
  exact ⟨told_ne (waits_ne hb.2), told_rise _, fun u hu => waits_mem hm hb.1.1.2 (told_mem hu)⟩

end Go.Proofs.YtcogdagfcndbfaaDoor.Lk

namespace Go.Proofs.YtcogdagfcndbfaaDoor.Lk
open Go.RowKit V
set_option linter.unusedVariables false
set_option linter.unusedSimpArgs false

theorem first_free (q : L) : firstQ [] ([q].take 0) q = true := by simp [firstQ, freeB]
theorem find_nil (t : Int) (th : ByteArray) : findI [] t th = -1 := rfl

set_option maxHeartbeats 4000000 in
set_option maxRecDepth 100000 in
theorem checkFree_vp (q : L) (hs : shapeF q = 0) (hm : modeB q.m = true) : VP Tryd.prog TG 18 [locksS [] [q]] (.v (.int .i64 11)) := by
  refine VC.body Tryd.func18 rfl Tryd.ntmps18 (Nat.le_of_ble_eq_true rfl) fun X0 w0 S00 => ?_
  unfold locksS locksD
  have hm5 := modeB_bd hm
  have hl0 : ([] : List L).length = 0 := rfl
  have hl1 : ([q] : List L).length = 1 := rfl
  have hfv := first_vp [] [q] 0 (by simp) (by simp) (fun h hh => by cases hh) hm
  rw [show firstQ [] (List.take 0 [q]) ([q][0]) = true from first_free q] at hfv
  unfold locksS locksD at hfv
  have hsv := shape_vp TG q
  rw [hs] at hsv
  have hdv := find_vp TG [] q.t q.th (by simp)
  rw [find_nil] at hdv
  unfold locksD at hdv
  refine CD.seq ?_
  refine CD.region ?_
  refine OD.box (ds := [_, _]) (wants_plain rfl) rfl rfl ot rfl rfl (fun b1 => ?_)
  refine OD.still (wants_plain rfl) rfl (still_as rfl opd_const) ?_
  refine OD.wk (Wk.as_ (n := 104) (l' := [(1, _)]) (S' := [⟨b1, 25, 2, [_, _]⟩]) rfl rfl ⟨lk, trivial⟩) ?_
  refine OD.nil ?_
  refine CD.seq ?_
  refine CD.seq ?_
  refine CD.region ?_
  refine OD.still (wants_plain rfl) rfl (still_r1 (mk := fun y => Op.fieldAddr 25 y 0) rfl ot (by first | exact fa_ptr (off := 0) Tryd.runUnderlying25 rfl Tryd.sizeOf23 rfl | exact fa_iptr (off := 0) Tryd.runUnderlying25 rfl Tryd.sizeOf23 rfl)) ?_
  refine OD.still (wants_plain rfl) rfl (still_r1 (mk := Op.load 23) rfl ot (by first | exact ld_blk (k := 0) rfl rfl Tryd.isAgg23 rfl | exact ld_fm cL_len Tryd.isAgg23 (by first | assumption | omega) rfl | exact ld_fm0 cL_len Tryd.isAgg23 (by first | assumption | omega) rfl | exact ld_row (k := 0) cL_len rfl rfl rfl Tryd.isAgg23 (by first | assumption | omega) rfl | exact ld_row0 (k := 0) cL_len rfl rfl rfl Tryd.isAgg23 (by first | assumption | omega) rfl | exact ld_i Tryd.isAgg23 rfl)) ?_
  refine OD.still (wants_plain rfl) rfl (still_r1 (mk := fun y => .call { callee := .builtin .len, args := #[y], argTypes := #[23] }) rfl ot (by first | exact len_list rfl Tryd.runUnderlying23 | exact len_row rfl Tryd.runUnderlying23)) ?_
  refine OD.still (wants_plain rfl) rfl (still_r1 (mk := fun y => Op.fieldAddr 25 y 1) rfl ot (by first | exact fa_ptr (off := 1) Tryd.runUnderlying25 rfl Tryd.sizeOf23 rfl | exact fa_iptr (off := 1) Tryd.runUnderlying25 rfl Tryd.sizeOf23 rfl)) ?_
  refine OD.still (wants_plain rfl) rfl (still_r1 (mk := Op.load 23) rfl ot (by first | exact ld_blk (k := 0) rfl rfl Tryd.isAgg23 rfl | exact ld_fm cL_len Tryd.isAgg23 (by first | assumption | omega) rfl | exact ld_fm0 cL_len Tryd.isAgg23 (by first | assumption | omega) rfl | exact ld_row (k := 0) cL_len rfl rfl rfl Tryd.isAgg23 (by first | assumption | omega) rfl | exact ld_row0 (k := 0) cL_len rfl rfl rfl Tryd.isAgg23 (by first | assumption | omega) rfl | exact ld_i Tryd.isAgg23 rfl)) ?_
  refine OD.still (wants_plain rfl) rfl (still_r1 (mk := fun y => .call { callee := .builtin .len, args := #[y], argTypes := #[23] }) rfl ot (by first | exact len_list rfl Tryd.runUnderlying23 | exact len_row rfl Tryd.runUnderlying23)) ?_
  refine OD.still (wants_plain rfl) rfl (still_bin rfl ot ot (bin_add (wrap_i64 (by omega) (by omega)))) ?_
  refine OD.still (wants_plain rfl) rfl (still_bin rfl ot opd_const bin_gtr) ?_
  refine OD.wk (Wk.as_ (n := 104) (l' := [(1, _), (15, _)]) (S' := [⟨b1, 25, 2, [_, _]⟩]) rfl rfl ⟨lk, lk, trivial⟩) ?_
  refine OD.nil ?_
  refine CD.cond ot (fun hc0 => ?_) (fun hc0 => ?_)
  · exact absurd hc0 (by simp)
  · have hc0' := hc0
    (try simp only [decide_eq_true_eq, decide_eq_false_iff_not, beq_iff_eq, bne_iff_ne, Bool.not_eq_true', Bool.not_eq_false', Bool.not_eq_true, Bool.not_eq_false, beq_eq_false_iff_ne, ne_eq, bne_eq_false_iff_eq, Bool.and_eq_true, Bool.or_eq_true, Bool.not_not, Bool.and_eq_false_iff, Bool.or_eq_false_iff, Int.not_lt, Int.not_le] at hc0')
    refine CD.skip ?_
    refine CD.seq ?_
    refine CD.seq ?_
    refine CD.region ?_
    refine OD.still (wants_plain rfl) rfl (still_r1 (mk := fun y => Op.fieldAddr 25 y 0) rfl ot (by first | exact fa_ptr (off := 0) Tryd.runUnderlying25 rfl Tryd.sizeOf23 rfl | exact fa_iptr (off := 0) Tryd.runUnderlying25 rfl Tryd.sizeOf23 rfl)) ?_
    refine OD.still (wants_plain rfl) rfl (still_r1 (mk := Op.load 23) rfl ot (by first | exact ld_blk (k := 0) rfl rfl Tryd.isAgg23 rfl | exact ld_fm cL_len Tryd.isAgg23 (by first | assumption | omega) rfl | exact ld_fm0 cL_len Tryd.isAgg23 (by first | assumption | omega) rfl | exact ld_row (k := 0) cL_len rfl rfl rfl Tryd.isAgg23 (by first | assumption | omega) rfl | exact ld_row0 (k := 0) cL_len rfl rfl rfl Tryd.isAgg23 (by first | assumption | omega) rfl | exact ld_i Tryd.isAgg23 rfl)) ?_
    refine OD.call (wants_plain rfl) rfl rfl rfl Tryd.call26 (contains_vc _ [] 35 [] [] (fun x => shapeF x != 0) Tryd.call35 (fun y _ => check1_vc _ y) (by simp)) ⟨ot, opd_func, trivial⟩ (perm_none _) ?_; rintro _ S2 ⟨rfl, hS2⟩; rw [hS2]; clear hS2
    refine OD.wk (Wk.as_ (n := 104) (l' := [(1, _), (18, _)]) (S' := [⟨b1, 25, 2, [_, _]⟩]) rfl rfl ⟨lk, lk, trivial⟩) ?_
    refine OD.nil ?_
    refine CD.cond ot (fun hc1 => ?_) (fun hc1 => ?_)
    · exact absurd hc1 (by simp)
    · have hc1' := hc1
      (try simp only [decide_eq_true_eq, decide_eq_false_iff_not, beq_iff_eq, bne_iff_ne, Bool.not_eq_true', Bool.not_eq_false', Bool.not_eq_true, Bool.not_eq_false, beq_eq_false_iff_ne, ne_eq, bne_eq_false_iff_eq, Bool.and_eq_true, Bool.or_eq_true, Bool.not_not, Bool.and_eq_false_iff, Bool.or_eq_false_iff, Int.not_lt, Int.not_le] at hc1')
      refine CD.skip ?_
      refine CD.seq ?_
      refine CD.seq ?_
      refine CD.region ?_
      refine OD.still (wants_plain rfl) rfl (still_r1 (mk := fun y => Op.fieldAddr 25 y 0) rfl ot (by first | exact fa_ptr (off := 0) Tryd.runUnderlying25 rfl Tryd.sizeOf23 rfl | exact fa_iptr (off := 0) Tryd.runUnderlying25 rfl Tryd.sizeOf23 rfl)) ?_
      refine OD.still (wants_plain rfl) rfl (still_r1 (mk := Op.load 23) rfl ot (by first | exact ld_blk (k := 0) rfl rfl Tryd.isAgg23 rfl | exact ld_fm cL_len Tryd.isAgg23 (by first | assumption | omega) rfl | exact ld_fm0 cL_len Tryd.isAgg23 (by first | assumption | omega) rfl | exact ld_row (k := 0) cL_len rfl rfl rfl Tryd.isAgg23 (by first | assumption | omega) rfl | exact ld_row0 (k := 0) cL_len rfl rfl rfl Tryd.isAgg23 (by first | assumption | omega) rfl | exact ld_i Tryd.isAgg23 rfl)) ?_
      refine OD.still (wants_plain rfl) rfl (still_r1 (mk := fun y => .call { callee := .builtin .len, args := #[y], argTypes := #[23] }) rfl ot (by first | exact len_list rfl Tryd.runUnderlying23 | exact len_row rfl Tryd.runUnderlying23)) ?_
      refine OD.still (wants_plain rfl) rfl (still_mv rfl opd_const) ?_
      refine OD.wk (Wk.as_ (n := 104) (l' := [(1, _), (20, _), (21, _), (22, _)]) (S' := [⟨b1, 25, 2, [_, _]⟩]) rfl rfl ⟨lk, lk, lk, lk, trivial⟩) ?_
      refine OD.nil ?_
      refine CD.block ?_
      refine CD.wk (Wk.asS (n := 104) (l' := [(1, .v (.pointer (some ⟨b1, 0, none⟩))), (20, .list 3 (([] : List L).flatMap cL) ([] : List L).length), (21, .v (.int .i64 (0 : Nat))), (22, .v (.int .i64 ((0) : Nat)))]) (S' := [⟨b1, 25, 2, [.list 3 (([] : List L).flatMap cL) ([] : List L).length, .list 3 ([q].flatMap cL) [q].length]⟩]) rfl (by repeat (first | exact List.Sublist.refl _ | apply List.Sublist.cons)) ⟨(by (repeat (first | exact look_hit | (apply look_at; focus (first | rfl | (simp; done) | (congr 2; omega))) | (apply look_miss; focus rfl))); done), (by (repeat (first | exact look_hit | (apply look_at; focus (first | rfl | (simp; done) | (congr 2; omega))) | (apply look_miss; focus rfl))); done), (by (repeat (first | exact look_hit | (apply look_at; focus (first | rfl | (simp; done) | (congr 2; omega))) | (apply look_miss; focus rfl))); done), (by (repeat (first | exact look_hit | (apply look_at; focus (first | rfl | (simp; done) | (congr 2; omega))) | (apply look_miss; focus rfl))); done), trivial⟩) (CD.loop (fun (k : Nat) y__ => (k ≤ 0) ∧ y__ = (⟨104, [(1, .v (.pointer (some ⟨b1, 0, none⟩))), (20, .list 3 (([] : List L).flatMap cL) ([] : List L).length), (21, .v (.int .i64 (0 : Nat))), (22, .v (.int .i64 (k : Nat)))], [⟨b1, 25, 2, [.list 3 (([] : List L).flatMap cL) ([] : List L).length, .list 3 ([q].flatMap cL) [q].length]⟩]⟩ : St)) (fun (k : Nat) => 0) 0 ⟨Nat.zero_le _, rfl⟩ ?_)
      rintro k _ ⟨hk, rfl⟩
      refine CD.seq ?_
      refine CD.region ?_
      refine OD.still (wants_plain rfl) rfl (still_bin rfl ot ot bin_lss) ?_
      refine OD.wk (Wk.as_ (n := 104) (l' := [(1, _), (20, _), (21, _), (22, _), (23, _)]) (S' := [⟨b1, 25, 2, [_, _]⟩]) rfl rfl ⟨lk, lk, lk, lk, lk, trivial⟩) ?_
      refine OD.nil ?_
      refine CD.seq ?_
      refine CD.cond ot (fun hc2 => ?_) (fun hc2 => ?_)
      · exact absurd hc2 (by simp)
      · have hc2' := hc2
        (try simp only [decide_eq_true_eq, decide_eq_false_iff_not, beq_iff_eq, bne_iff_ne, Bool.not_eq_true', Bool.not_eq_false', Bool.not_eq_true, Bool.not_eq_false, beq_eq_false_iff_ne, ne_eq, bne_eq_false_iff_eq, Bool.and_eq_true, Bool.or_eq_true, Bool.not_not, Bool.and_eq_false_iff, Bool.or_eq_false_iff, Int.not_lt, Int.not_le] at hc2')
        refine CD.exit ?_
        refine CD.seq ?_
        refine CD.seq ?_
        refine CD.region ?_
        refine OD.still (wants_plain rfl) rfl (still_r1 (mk := fun y => Op.fieldAddr 25 y 1) rfl ot (by first | exact fa_ptr (off := 1) Tryd.runUnderlying25 rfl Tryd.sizeOf23 rfl | exact fa_iptr (off := 1) Tryd.runUnderlying25 rfl Tryd.sizeOf23 rfl)) ?_
        refine OD.still (wants_plain rfl) rfl (still_r1 (mk := Op.load 23) rfl ot (by first | exact ld_blk (k := 0) rfl rfl Tryd.isAgg23 rfl | exact ld_fm cL_len Tryd.isAgg23 (by first | assumption | omega) rfl | exact ld_fm0 cL_len Tryd.isAgg23 (by first | assumption | omega) rfl | exact ld_row (k := 0) cL_len rfl rfl rfl Tryd.isAgg23 (by first | assumption | omega) rfl | exact ld_row0 (k := 0) cL_len rfl rfl rfl Tryd.isAgg23 (by first | assumption | omega) rfl | exact ld_i Tryd.isAgg23 rfl)) ?_
        refine OD.still (wants_plain rfl) rfl (still_r1 (mk := fun y => .call { callee := .builtin .len, args := #[y], argTypes := #[23] }) rfl ot (by first | exact len_list rfl Tryd.runUnderlying23 | exact len_row rfl Tryd.runUnderlying23)) ?_
        refine OD.still (wants_plain rfl) rfl (still_mv rfl opd_const) ?_
        refine OD.wk (Wk.as_ (n := 104) (l' := [(1, _), (46, _), (47, _), (48, _)]) (S' := [⟨b1, 25, 2, [_, _]⟩]) rfl rfl ⟨lk, lk, lk, lk, trivial⟩) ?_
        refine OD.nil ?_
        refine CD.block ?_
        refine CD.wk (Wk.asS (n := 104) (l' := [(1, .v (.pointer (some ⟨b1, 0, none⟩))), (46, .list 3 ([q].flatMap cL) [q].length), (47, .v (.int .i64 (1 : Nat))), (48, .v (.int .i64 ((0) : Nat)))]) (S' := [⟨b1, 25, 2, [.list 3 (([] : List L).flatMap cL) ([] : List L).length, .list 3 ([q].flatMap cL) [q].length]⟩]) rfl (by repeat (first | exact List.Sublist.refl _ | apply List.Sublist.cons)) ⟨(by (repeat (first | exact look_hit | (apply look_at; focus (first | rfl | (simp; done) | (congr 2; omega))) | (apply look_miss; focus rfl))); done), (by (repeat (first | exact look_hit | (apply look_at; focus (first | rfl | (simp; done) | (congr 2; omega))) | (apply look_miss; focus rfl))); done), (by (repeat (first | exact look_hit | (apply look_at; focus (first | rfl | (simp; done) | (congr 2; omega))) | (apply look_miss; focus rfl))); done), (by (repeat (first | exact look_hit | (apply look_at; focus (first | rfl | (simp; done) | (congr 2; omega))) | (apply look_miss; focus rfl))); done), trivial⟩) (CD.loop (fun (k : Nat) y__ => (k = 0) ∧ y__ = (⟨104, [(1, .v (.pointer (some ⟨b1, 0, none⟩))), (46, .list 3 ([q].flatMap cL) [q].length), (47, .v (.int .i64 (1 : Nat))), (48, .v (.int .i64 (k : Nat)))], [⟨b1, 25, 2, [.list 3 (([] : List L).flatMap cL) ([] : List L).length, .list 3 ([q].flatMap cL) [q].length]⟩]⟩ : St)) (fun (k : Nat) => 1) 0 ⟨rfl, rfl⟩ ?_)
        rintro k _ ⟨hk, rfl⟩
        refine CD.seq ?_
        refine CD.region ?_
        refine OD.still (wants_plain rfl) rfl (still_bin rfl ot ot bin_lss) ?_
        refine OD.wk (Wk.as_ (n := 104) (l' := [(1, _), (46, _), (47, _), (48, _), (49, _)]) (S' := [⟨b1, 25, 2, [_, _]⟩]) rfl rfl ⟨lk, lk, lk, lk, lk, trivial⟩) ?_
        refine OD.nil ?_
        refine CD.seq ?_
        refine CD.cond ot (fun hc4 => ?_) (fun hc4 => ?_)
        · have hc4' := hc4
          (try simp only [decide_eq_true_eq, decide_eq_false_iff_not, beq_iff_eq, bne_iff_ne, Bool.not_eq_true', Bool.not_eq_false', Bool.not_eq_true, Bool.not_eq_false, beq_eq_false_iff_ne, ne_eq, bne_eq_false_iff_eq, Bool.and_eq_true, Bool.or_eq_true, Bool.not_not, Bool.and_eq_false_iff, Bool.or_eq_false_iff, Int.not_lt, Int.not_le] at hc4')
          subst hk
          have h01 : 0 < [q].length := Nat.zero_lt_one
          refine CD.skip ?_
          refine CD.seq ?_
          refine CD.block ?_
          refine CD.seq ?_
          refine CD.region ?_
          refine OD.still (wants_plain rfl) rfl (still_mv rfl ot) ?_
          refine OD.still (wants_plain rfl) rfl (still_r2 (mk := Op.indexAddr 23) rfl ot ot (by first | exact ix_list Tryd.runUnderlying23 Tryd.sizeOf27 rfl (by first | assumption | omega) | exact ix_list (j := Int.toNat _) Tryd.runUnderlying23 Tryd.sizeOf27 (Int.toNat_of_nonneg (by omega)).symm (by omega) | exact ix_row Tryd.runUnderlying23 Tryd.sizeOf27 rfl (by first | assumption | omega) | exact ix_row (j := Int.toNat _) Tryd.runUnderlying23 Tryd.sizeOf27 (Int.toNat_of_nonneg (by omega)).symm (by omega))) ?_
          refine OD.still (wants_plain rfl) rfl (still_r1 (mk := Op.load 27) rfl ot (by first | exact ld_blks (k := 0) (ds := [_, _, _]) rfl rfl Tryd.isAgg27 Tryd.sizeOf27 rfl rfl | exact ld_fms cL_len Tryd.isAgg27 Tryd.sizeOf27 (by first | assumption | omega) | exact ld_rows (k := 0) cL_len rfl rfl rfl Tryd.isAgg27 Tryd.sizeOf27 (by first | assumption | omega) | exact ld_is (ds := [_, _, _]) Tryd.isAgg27 Tryd.sizeOf27 rfl rfl)) ?_
          refine OD.alloc (ds := [_, _, _]) (wants_plain rfl) rfl rfl Tryd.zeroValue27 rfl (fun b6 => ?_)
          refine OD.still (wants_plain rfl) rfl (still_as rfl ot) ?_
          refine OD.store (k := 0) (cs' := [_, _, _]) (wants_plain rfl) rfl rfl ot rfl rfl ot rfl rfl Tryd.sizeOf27 rfl rfl rfl ?_
          refine OD.wk (Wk.as_ (n := 104) (l' := [(1, _), (5, _), (6, _), (46, _), (47, _), (48, _)]) (S' := [⟨b6, 27, 3, [_, _, _]⟩, ⟨b1, 25, 2, [_, _]⟩]) rfl rfl ⟨lk, lk, lk, lk, lk, lk, trivial⟩) ?_
          refine OD.nil ?_
          refine CD.seq ?_
          refine CD.seq ?_
          refine CD.region ?_
          refine OD.still (wants_plain rfl) rfl (still_r1 (mk := Op.load 27) rfl ot (by first | exact ld_blks (k := 0) (ds := [_, _, _]) rfl rfl Tryd.isAgg27 Tryd.sizeOf27 rfl rfl | exact ld_fms cL_len Tryd.isAgg27 Tryd.sizeOf27 (by first | assumption | omega) | exact ld_rows (k := 0) cL_len rfl rfl rfl Tryd.isAgg27 Tryd.sizeOf27 (by first | assumption | omega) | exact ld_rows (k := 1) cL_len rfl rfl rfl Tryd.isAgg27 Tryd.sizeOf27 (by first | assumption | omega) | exact ld_is (ds := [_, _, _]) Tryd.isAgg27 Tryd.sizeOf27 rfl rfl)) ?_
          refine OD.callP (wants_plain rfl) rfl rfl rfl Tryd.call25 (hsv) ⟨ot, trivial⟩ ?_
          refine OD.still (wants_plain rfl) rfl (still_bin rfl ot opd_const bin_neq) ?_
          refine OD.still (wants_plain rfl) rfl (still_mv rfl ot) ?_
          refine OD.split (t := 56) lk (fun hg56 => ?_) (fun hg56 => ?_)
          · exact absurd hg56 (by simp)
          · have hg56' := hg56; (try simp only [decide_eq_true_eq, decide_eq_false_iff_not, beq_iff_eq, bne_iff_ne, Bool.not_eq_true', Bool.not_eq_false', Bool.not_eq_true, Bool.not_eq_false, beq_eq_false_iff_ne, ne_eq, bne_eq_false_iff_eq, Bool.and_eq_true, Bool.or_eq_true, Bool.not_not] at hg56')
            refine OD.still (wants_T rfl rfl rfl lk (by first | rfl | assumption)) rfl (still_r1 (mk := fun y => Op.fieldAddr 25 y 1) rfl ot (by first | exact fa_ptr (off := 1) Tryd.runUnderlying25 rfl Tryd.sizeOf23 rfl | exact fa_iptr (off := 1) Tryd.runUnderlying25 rfl Tryd.sizeOf23 rfl)) ?_
            refine OD.still (wants_T rfl rfl rfl lk (by first | rfl | assumption)) rfl (still_r1 (mk := Op.load 23) rfl ot (by first | exact ld_blk (k := 1) rfl rfl Tryd.isAgg23 rfl | exact ld_fm cL_len Tryd.isAgg23 (by first | assumption | omega) rfl | exact ld_fm0 cL_len Tryd.isAgg23 (by first | assumption | omega) rfl | exact ld_row (k := 0) cL_len rfl rfl rfl Tryd.isAgg23 (by first | assumption | omega) rfl | exact ld_row0 (k := 0) cL_len rfl rfl rfl Tryd.isAgg23 (by first | assumption | omega) rfl | exact ld_row (k := 1) cL_len rfl rfl rfl Tryd.isAgg23 (by first | assumption | omega) rfl | exact ld_row0 (k := 1) cL_len rfl rfl rfl Tryd.isAgg23 (by first | assumption | omega) rfl | exact ld_i Tryd.isAgg23 rfl)) ?_
            refine OD.still (wants_T rfl rfl rfl lk (by first | rfl | assumption)) rfl (still_mv rfl ot) ?_
            refine OD.still (wants_T rfl rfl rfl lk (by first | rfl | assumption)) rfl (still_rs (l := 0) rfl ot trivial ⟨_, ot⟩ (by first | exact sl_head cL_len (fun h => by cases h) Tryd.runUnderlying23 Tryd.sizeOf27 (by omega) | exact sl_row (fun h => by cases h) Tryd.runUnderlying23 Tryd.sizeOf27 (by omega) | exact sl_list (fun _ => rfl) (fun h => by cases h) Tryd.runUnderlying23 Tryd.sizeOf27 (by omega) (by omega))) ?_
            refine OD.still (wants_T rfl rfl rfl lk (by first | rfl | assumption)) rfl (still_fn (ds := [_]) rfl ⟨ot, trivial⟩) ?_
            refine OD.call (wants_T rfl rfl rfl lk (by first | rfl | assumption)) rfl rfl rfl Tryd.call26 (contains_vc _ (List.take 0 [q]) 37 [.v (.pointer (some ⟨b6, 0, none⟩))] _ (fun x => x.t == q.t) Tryd.call37 (fun y _ => check2_vc _ q y b6) (by simp)) ⟨ot, ot, trivial⟩ (perm_one (k := 0) rfl) ?_; rintro _ S2 ⟨rfl, hS2⟩; rw [hS2]; clear hS2
            refine OD.still (wants_plain rfl) rfl (still_pickF rfl ot (by first | rfl | assumption) ot) ?_
            refine OD.wk (Wk.as_ (n := 104) (l' := [(1, _), (5, _), (6, _), (46, _), (47, _), (48, _), (63, _)]) (S' := [⟨b6, 27, 3, [_, _, _]⟩, ⟨b1, 25, 2, [_, _]⟩]) rfl rfl ⟨lk, lk, lk, lk, lk, lk, lk, trivial⟩) ?_
            refine OD.nil ?_
            refine CD.cond ot (fun hc5 => ?_) (fun hc5 => ?_)
            · exact absurd hc5 (by simp)
            · have hc5' := hc5
              (try simp only [decide_eq_true_eq, decide_eq_false_iff_not, beq_iff_eq, bne_iff_ne, Bool.not_eq_true', Bool.not_eq_false', Bool.not_eq_true, Bool.not_eq_false, beq_eq_false_iff_ne, ne_eq, bne_eq_false_iff_eq, Bool.and_eq_true, Bool.or_eq_true, Bool.not_not, Bool.and_eq_false_iff, Bool.or_eq_false_iff, Int.not_lt, Int.not_le] at hc5')
              refine CD.skip ?_
              refine CD.seq ?_
              refine CD.seq ?_
              refine CD.region ?_
              refine OD.still (wants_plain rfl) rfl (still_r1 (mk := fun y => Op.fieldAddr 25 y 0) rfl ot (by first | exact fa_ptr (off := 0) Tryd.runUnderlying25 rfl Tryd.sizeOf23 rfl | exact fa_iptr (off := 0) Tryd.runUnderlying25 rfl Tryd.sizeOf23 rfl)) ?_
              refine OD.still (wants_plain rfl) rfl (still_r1 (mk := Op.load 23) rfl ot (by first | exact ld_blk (k := 1) rfl rfl Tryd.isAgg23 rfl | exact ld_fm cL_len Tryd.isAgg23 (by first | assumption | omega) rfl | exact ld_fm0 cL_len Tryd.isAgg23 (by first | assumption | omega) rfl | exact ld_row (k := 0) cL_len rfl rfl rfl Tryd.isAgg23 (by first | assumption | omega) rfl | exact ld_row0 (k := 0) cL_len rfl rfl rfl Tryd.isAgg23 (by first | assumption | omega) rfl | exact ld_row (k := 1) cL_len rfl rfl rfl Tryd.isAgg23 (by first | assumption | omega) rfl | exact ld_row0 (k := 1) cL_len rfl rfl rfl Tryd.isAgg23 (by first | assumption | omega) rfl | exact ld_i Tryd.isAgg23 rfl)) ?_
              refine OD.still (wants_plain rfl) rfl (still_r1 (mk := fun y => Op.fieldAddr 27 y 0) rfl ot (by first | exact fa_ptr (off := 0) Tryd.runUnderlying27 rfl Tryd.sizeOf3 rfl | exact fa_iptr (off := 0) Tryd.runUnderlying27 rfl Tryd.sizeOf3 rfl)) ?_
              refine OD.still (wants_plain rfl) rfl (still_r1 (mk := Op.load 3) rfl ot (by first | exact ld_blk (k := 0) rfl rfl Tryd.isAgg3 rfl | exact ld_fm cL_len Tryd.isAgg3 (by first | assumption | omega) rfl | exact ld_fm0 cL_len Tryd.isAgg3 (by first | assumption | omega) rfl | exact ld_row (k := 0) cL_len rfl rfl rfl Tryd.isAgg3 (by first | assumption | omega) rfl | exact ld_row0 (k := 0) cL_len rfl rfl rfl Tryd.isAgg3 (by first | assumption | omega) rfl | exact ld_row (k := 1) cL_len rfl rfl rfl Tryd.isAgg3 (by first | assumption | omega) rfl | exact ld_row0 (k := 1) cL_len rfl rfl rfl Tryd.isAgg3 (by first | assumption | omega) rfl | exact ld_i Tryd.isAgg3 rfl)) ?_
              refine OD.still (wants_plain rfl) rfl (still_r1 (mk := fun y => Op.fieldAddr 27 y 1) rfl ot (by first | exact fa_ptr (off := 1) Tryd.runUnderlying27 rfl Tryd.sizeOf9 rfl | exact fa_iptr (off := 1) Tryd.runUnderlying27 rfl Tryd.sizeOf9 rfl)) ?_
              refine OD.still (wants_plain rfl) rfl (still_r1 (mk := Op.load 9) rfl ot (by first | exact ld_blk (k := 0) rfl rfl Tryd.isAgg9 rfl | exact ld_fm cL_len Tryd.isAgg9 (by first | assumption | omega) rfl | exact ld_fm0 cL_len Tryd.isAgg9 (by first | assumption | omega) rfl | exact ld_row (k := 0) cL_len rfl rfl rfl Tryd.isAgg9 (by first | assumption | omega) rfl | exact ld_row0 (k := 0) cL_len rfl rfl rfl Tryd.isAgg9 (by first | assumption | omega) rfl | exact ld_row (k := 1) cL_len rfl rfl rfl Tryd.isAgg9 (by first | assumption | omega) rfl | exact ld_row0 (k := 1) cL_len rfl rfl rfl Tryd.isAgg9 (by first | assumption | omega) rfl | exact ld_i Tryd.isAgg9 rfl)) ?_
              refine OD.callP (wants_plain rfl) rfl rfl rfl Tryd.call29 (hdv) ⟨ot, ot, ot, trivial⟩ ?_
              refine OD.still (wants_plain rfl) rfl (still_as rfl ot) ?_
              refine OD.wk (Wk.as_ (n := 104) (l' := [(1, _), (5, _), (6, _), (7, _), (46, _), (47, _), (48, _)]) (S' := [⟨b6, 27, 3, [_, _, _]⟩, ⟨b1, 25, 2, [_, _]⟩]) rfl rfl ⟨lk, lk, lk, lk, lk, lk, lk, trivial⟩) ?_
              refine OD.nil ?_
              refine CD.seq ?_
              refine CD.draw (bks _) (by kernel_rfl) (fun _ h => h) ?_
              refine AD0.take (i := 0) rfl (by kernel_rfl) (by kernel_rfl) (by kernel_rfl) (by repeat (first | exact NP.body | apply NP.then | apply NP.cut | apply NP.inBlock | apply NP.round)) (wants_plain rfl) rfl (still_mv rfl ot) (by exact trivial) ?_
              refine AD0.take (i := 1) rfl (by kernel_rfl) (by kernel_rfl) (by kernel_rfl) (by repeat (first | exact NP.body | apply NP.then | apply NP.cut | apply NP.inBlock | apply NP.round)) (wants_plain rfl) rfl (still_bin rfl ot opd_const bin_geq) (by exact trivial) ?_
              refine AD0.take (i := 2) rfl (by kernel_rfl) (by kernel_rfl) (by kernel_rfl) (by repeat (first | exact NP.body | apply NP.then | apply NP.cut | apply NP.inBlock | apply NP.round)) (wants_plain rfl) rfl (still_mv rfl ot) (by exact trivial) ?_
              refine AD0.split (t := 73) lk (fun hg73 => ?_) (fun hg73 => ?_)
              · exact absurd hg73 (by simp)
              · have hg73' := hg73; (try simp only [decide_eq_true_eq, decide_eq_false_iff_not, beq_iff_eq, bne_iff_ne, Bool.not_eq_true', Bool.not_eq_false', Bool.not_eq_true, Bool.not_eq_false, beq_eq_false_iff_ne, ne_eq, bne_eq_false_iff_eq, Bool.and_eq_true, Bool.or_eq_true, Bool.not_not, Bool.and_eq_false_iff, Bool.or_eq_false_iff, Int.not_lt, Int.not_le] at hg73')
                refine AD0.takeSkip (i := 3) rfl (by kernel_rfl) (by kernel_rfl) (by kernel_rfl) (by repeat (first | exact NP.body | apply NP.then | apply NP.cut | apply NP.inBlock | apply NP.round)) (wants_F rfl rfl rfl lk (by first | rfl | assumption)) rfl ?_
                refine AD0.takeSkip (i := 4) rfl (by kernel_rfl) (by kernel_rfl) (by kernel_rfl) (by repeat (first | exact NP.body | apply NP.then | apply NP.cut | apply NP.inBlock | apply NP.round)) (wants_F rfl rfl rfl lk (by first | rfl | assumption)) rfl ?_
                refine AD0.takeSkip (i := 5) rfl (by kernel_rfl) (by kernel_rfl) (by kernel_rfl) (by repeat (first | exact NP.body | apply NP.then | apply NP.cut | apply NP.inBlock | apply NP.round)) (wants_F rfl rfl rfl lk (by first | rfl | assumption)) rfl ?_
                refine AD0.takeSkip (i := 6) rfl (by kernel_rfl) (by kernel_rfl) (by kernel_rfl) (by repeat (first | exact NP.body | apply NP.then | apply NP.cut | apply NP.inBlock | apply NP.round)) (wants_F rfl rfl rfl lk (by first | rfl | assumption)) rfl ?_
                refine AD0.takeSkip (i := 7) rfl (by kernel_rfl) (by kernel_rfl) (by kernel_rfl) (by repeat (first | exact NP.body | apply NP.then | apply NP.cut | apply NP.inBlock | apply NP.round)) (wants_F rfl rfl rfl lk (by first | rfl | assumption)) rfl ?_
                refine AD0.takeSkip (i := 8) rfl (by kernel_rfl) (by kernel_rfl) (by kernel_rfl) (by repeat (first | exact NP.body | apply NP.then | apply NP.cut | apply NP.inBlock | apply NP.round)) (wants_F rfl rfl rfl lk (by first | rfl | assumption)) rfl ?_
                refine AD0.takeSkip (i := 9) rfl (by kernel_rfl) (by kernel_rfl) (by kernel_rfl) (by repeat (first | exact NP.body | apply NP.then | apply NP.cut | apply NP.inBlock | apply NP.round)) (wants_F rfl rfl rfl lk (by first | rfl | assumption)) rfl ?_
                refine AD0.takeSkip (i := 10) rfl (by kernel_rfl) (by kernel_rfl) (by kernel_rfl) (by repeat (first | exact NP.body | apply NP.then | apply NP.cut | apply NP.inBlock | apply NP.round)) (wants_F rfl rfl rfl lk (by first | rfl | assumption)) rfl ?_
                refine AD0.takeSkip (i := 11) rfl (by kernel_rfl) (by kernel_rfl) (by kernel_rfl) (by repeat (first | exact NP.body | apply NP.then | apply NP.cut | apply NP.inBlock | apply NP.round)) (wants_F rfl rfl rfl lk (by first | rfl | assumption)) rfl ?_
                refine AD0.takeSkip (i := 12) rfl (by kernel_rfl) (by kernel_rfl) (by kernel_rfl) (by repeat (first | exact NP.body | apply NP.then | apply NP.cut | apply NP.inBlock | apply NP.round)) (wants_F rfl rfl rfl lk (by first | rfl | assumption)) rfl ?_
                refine AD0.takeSkip (i := 13) rfl (by kernel_rfl) (by kernel_rfl) (by kernel_rfl) (by repeat (first | exact NP.body | apply NP.then | apply NP.cut | apply NP.inBlock | apply NP.round)) (wants_F rfl rfl rfl lk (by first | rfl | assumption)) rfl ?_
                refine AD0.takeSkip (i := 14) rfl (by kernel_rfl) (by kernel_rfl) (by kernel_rfl) (by repeat (first | exact NP.body | apply NP.then | apply NP.cut | apply NP.inBlock | apply NP.round)) (wants_F rfl rfl rfl lk (by first | rfl | assumption)) rfl ?_
                refine AD0.takeSkip (i := 15) rfl (by kernel_rfl) (by kernel_rfl) (by kernel_rfl) (by repeat (first | exact NP.body | apply NP.then | apply NP.cut | apply NP.inBlock | apply NP.round)) (wants_F rfl rfl rfl lk (by first | rfl | assumption)) rfl ?_
                refine AD0.takeSkip (i := 16) rfl (by kernel_rfl) (by kernel_rfl) (by kernel_rfl) (by repeat (first | exact NP.body | apply NP.then | apply NP.cut | apply NP.inBlock | apply NP.round)) (wants_F rfl rfl rfl lk (by first | rfl | assumption)) rfl ?_
                refine AD0.takeSkip (i := 17) rfl (by kernel_rfl) (by kernel_rfl) (by kernel_rfl) (by repeat (first | exact NP.body | apply NP.then | apply NP.cut | apply NP.inBlock | apply NP.round)) (wants_F rfl rfl rfl lk (by first | rfl | assumption)) rfl ?_
                refine AD0.takeSkip (i := 18) rfl (by kernel_rfl) (by kernel_rfl) (by kernel_rfl) (by repeat (first | exact NP.body | apply NP.then | apply NP.cut | apply NP.inBlock | apply NP.round)) (wants_J (b := false) rfl rfl rfl lk) rfl ?_
                refine AD0.takeSkip (i := 19) rfl (by kernel_rfl) (by kernel_rfl) (by kernel_rfl) (by repeat (first | exact NP.body | apply NP.then | apply NP.cut | apply NP.inBlock | apply NP.round)) (wants_J (b := false) rfl rfl rfl lk) rfl ?_
                refine AD0.takeSkip (i := 20) rfl (by kernel_rfl) (by kernel_rfl) (by kernel_rfl) (by repeat (first | exact NP.body | apply NP.then | apply NP.cut | apply NP.inBlock | apply NP.round)) (wants_J (b := false) rfl rfl rfl lk) rfl ?_
                refine AD0.takeSkip (i := 21) rfl (by kernel_rfl) (by kernel_rfl) (by kernel_rfl) (by repeat (first | exact NP.body | apply NP.then | apply NP.cut | apply NP.inBlock | apply NP.round)) (wants_J (b := false) rfl rfl rfl lk) rfl ?_
                refine AD0.takeSkip (i := 22) rfl (by kernel_rfl) (by kernel_rfl) (by kernel_rfl) (by repeat (first | exact NP.body | apply NP.then | apply NP.cut | apply NP.inBlock | apply NP.round)) (wants_J (b := false) rfl rfl rfl lk) rfl ?_
                refine AD0.takeSkip (i := 23) rfl (by kernel_rfl) (by kernel_rfl) (by kernel_rfl) (by repeat (first | exact NP.body | apply NP.then | apply NP.cut | apply NP.inBlock | apply NP.round)) (wants_J (b := false) rfl rfl rfl lk) rfl ?_
                refine AD0.takeSkip (i := 24) rfl (by kernel_rfl) (by kernel_rfl) (by kernel_rfl) (by repeat (first | exact NP.body | apply NP.then | apply NP.cut | apply NP.inBlock | apply NP.round)) (wants_J (b := false) rfl rfl rfl lk) rfl ?_
                refine AD0.takeSkip (i := 25) rfl (by kernel_rfl) (by kernel_rfl) (by kernel_rfl) (by repeat (first | exact NP.body | apply NP.then | apply NP.cut | apply NP.inBlock | apply NP.round)) (wants_J (b := false) rfl rfl rfl lk) rfl ?_
                refine AD0.takeSkip (i := 26) rfl (by kernel_rfl) (by kernel_rfl) (by kernel_rfl) (by repeat (first | exact NP.body | apply NP.then | apply NP.cut | apply NP.inBlock | apply NP.round)) (wants_J (b := false) rfl rfl rfl lk) rfl ?_
                refine AD0.takeSkip (i := 27) rfl (by kernel_rfl) (by kernel_rfl) (by kernel_rfl) (by repeat (first | exact NP.body | apply NP.then | apply NP.cut | apply NP.inBlock | apply NP.round)) (wants_F rfl rfl rfl lk (by first | rfl | assumption)) rfl ?_
                refine AD0.take (i := 28) rfl (by kernel_rfl) (by kernel_rfl) (by kernel_rfl) (by repeat (first | exact NP.body | apply NP.then | apply NP.cut | apply NP.inBlock | apply NP.round)) (wants_plain rfl) rfl (still_pickF rfl ot (by first | rfl | assumption) opd_const) (by exact trivial) ?_
                refine AD0.later rfl ?_
                refine AD.wk (y := ⟨104, [(1, _), (5, _), (46, _), (47, _), (48, _), (99, _)], [⟨b6, 27, 3, [_, _, _]⟩, ⟨b1, 25, 2, [_, _]⟩]⟩) (Wk.as_ rfl rfl ⟨lk, lk, lk, lk, lk, lk, trivial⟩) rfl ?_
                refine AD.done (by kernel_rfl) ?_
                refine CD.condF ot (by first | rfl | assumption) ?_
                refine CD.skip ?_
                refine CD.seq ?_
                refine CD.region ?_
                refine OD.still (wants_plain rfl) rfl (still_r1 (mk := Op.load 25) rfl ot (by first | exact ld_blks (k := 1) (ds := [_, _]) rfl rfl Tryd.isAgg25 Tryd.sizeOf25 rfl rfl | exact ld_fms cL_len Tryd.isAgg25 Tryd.sizeOf25 (by first | assumption | omega) | exact ld_rows (k := 0) cL_len rfl rfl rfl Tryd.isAgg25 Tryd.sizeOf25 (by first | assumption | omega) | exact ld_rows (k := 1) cL_len rfl rfl rfl Tryd.isAgg25 Tryd.sizeOf25 (by first | assumption | omega) | exact ld_is (ds := [_, _]) Tryd.isAgg25 Tryd.sizeOf25 rfl rfl)) ?_
                refine OD.still (wants_plain rfl) rfl (still_mv rfl ot) ?_
                refine OD.callP (wants_plain rfl) rfl rfl rfl Tryd.call30 (hfv) ⟨ot, ot, trivial⟩ ?_
                refine OD.wk (Wk.as_ (n := 104) (l' := [(1, _), (46, _), (47, _), (48, _), (102, _)]) (S' := [⟨b6, 27, 3, [_, _, _]⟩, ⟨b1, 25, 2, [_, _]⟩]) rfl rfl ⟨lk, lk, lk, lk, lk, trivial⟩) ?_
                refine OD.nil ?_
                refine CD.cond ot (fun hc7 => ?_) (fun hc7 => ?_)
                · have hc7' := hc7
                  (try simp only [decide_eq_true_eq, decide_eq_false_iff_not, beq_iff_eq, bne_iff_ne, Bool.not_eq_true', Bool.not_eq_false', Bool.not_eq_true, Bool.not_eq_false, beq_eq_false_iff_ne, ne_eq, bne_eq_false_iff_eq, Bool.and_eq_true, Bool.or_eq_true, Bool.not_not, Bool.and_eq_false_iff, Bool.or_eq_false_iff, Int.not_lt, Int.not_le] at hc7')
                  refine CD.seq ?_
                  refine CD.region ?_
                  refine OD.still (wants_plain rfl) rfl (still_as rfl opd_const) ?_
                  refine OD.wk (Wk.as_ (n := 104) (l' := [(2, _)]) (S' := [⟨b6, 27, 3, [_, _, _]⟩, ⟨b1, 25, 2, [_, _]⟩]) rfl rfl ⟨lk, trivial⟩) ?_
                  refine OD.nil ?_
                  refine CD.ret ?_
                  refine ⟨.inr rfl, _, [], List.nil_sublist _, ret_one Tryd.results18 (res_tmp (Nat.le_of_ble_eq_true rfl) lk), ?_⟩
                  exact ⟨rfl, rfl⟩
                · exact absurd hc7 (by simp)
        · exact absurd hc4 (by subst hk; simp)

end Go.Proofs.YtcogdagfcndbfaaDoor.Lk

namespace Go.Proofs.YtcogdagfcndbfaaDoor.Lk
open Go.RowKit V
set_option linter.unusedVariables false
set_option linter.unusedSimpArgs false

/-- A nil slice of holders reads as none. -/
theorem checkNil_vp (q : L) (hs : shapeF q = 0) (hm : modeB q.m = true) : VP Tryd.prog TG 18 [.agg [.v (.slice none 0 0), .list 3 ([q].flatMap cL) [q].length]] (.v (.int .i64 11)) := fun X w vs hp => by
  refine checkFree_vp q hs hm X w vs ⟨hp.ex, hp.tab, hp.own, hp.args.1, fun i h h' => ?_⟩
  have hi : i = 0 := by have : i < 1 := h; omega
  subst hi
  have h0 := hp.args.2 0 h h'
  have h0 : Rep w (live X []) (.agg [.v (.slice none 0 0), .list 3 ([q].flatMap cL) [q].length]) vs[0] := h0
  show Rep w (live X []) (.agg [.list 3 (([] : List L).flatMap cL) ([] : List L).length, .list 3 ([q].flatMap cL) [q].length]) vs[0]
  generalize vs[0] = v at h0
  cases h0 with
  | agg _ us hl hr =>
    refine .agg _ us hl fun i g g' => ?_
    match i, g, g' with
    | 0, _, g' => have e := (hr 0 (by simp) g').v_eq; rw [show us[0] = _ from e]; exact Rep.nil 3
    | 1, _, g' => exact hr 1 (by simp) g'
def aheadB (queue : List L) (k : Nat) (u : Int) (q : L) : Bool := (queue.take k).any fun x => x.t == u && x.th.toList == q.th.toList
theorem ahead_step {queue : List L} {k : Nat} {u : Int} {q : L} {b : Bool} (hk : k < queue.length) : (b || aheadB queue k u q || (queue[k].t == u && queue[k].th.toList == q.th.toList)) = (b || aheadB queue (k + 1) u q) := by
  unfold aheadB
  rw [List.take_succ_eq_append_getElem hk, List.any_append]; simp [Bool.or_assoc]
theorem all_len (held queue : List L) : (waitsAll held queue).length = queue.length := by unfold waitsAll; simp
theorem all_at {held queue : List L} {i : Nat} (h : i < (waitsAll held queue).length) : (waitsAll held queue)[i] = waitsN held queue i := by
  show ((List.range queue.length).map (waitsN held queue))[i]'(by simpa [waitsAll] using h) = _
  rw [List.getElem_map, List.getElem_range]
theorem told_ok {held queue : List L} {i : Nat} {u : Int} {q : L} (h : 0 < modeF held u q.th ∨ ∃ x ∈ queue.take i, x.t = u ∧ (x.th.toList == q.th.toList) = true) : (decide (modeF held u q.th > 0) || aheadB queue i u q) = true := by
  rcases h with h | ⟨x, h1, h2, h3⟩
  · rw [decide_eq_true h]; rfl
  · have : aheadB queue i u q = true := List.any_eq_true.2 ⟨x, h1, by rw [h2, h3]; simp⟩
    rw [this]; simp

theorem places25_Lkp : ∀ w, ((#[{ name := "Held", type := 23, offset := 0, embedded := false, tag := "", pkgPath := "", byteOffset := 0 }, { name := "Queue", type := 23, offset := 1, embedded := false, tag := "", pkgPath := "", byteOffset := 24 }] : Array Field).mapM fun f => do pure (f.offset, ← sizeOf f.type) : Sem (Array (Nat × Nat))).run Tryd.prog w = .ok #[(0, 1), (1, 1)] w := fun w => by simp [Tryd.sizeOf23]

theorem places27_Lkp : ∀ w, ((#[{ name := "Txn", type := 3, offset := 0, embedded := false, tag := "", pkgPath := "", byteOffset := 0 }, { name := "Thing", type := 9, offset := 1, embedded := false, tag := "", pkgPath := "", byteOffset := 8 }, { name := "Mode", type := 3, offset := 2, embedded := false, tag := "", pkgPath := "", byteOffset := 24 }] : Array Field).mapM fun f => do pure (f.offset, ← sizeOf f.type) : Sem (Array (Nat × Nat))).run Tryd.prog w = .ok #[(0, 1), (1, 1), (2, 1)] w := fun w => by simp [Tryd.sizeOf3, Tryd.sizeOf9]

set_option maxHeartbeats 4000000 in
set_option maxRecDepth 100000 in
theorem waitsSomebody_vp (l : List W3) (hok : ∀ x ∈ l, x.Ok) : VP Tryd.prog TG 12 [.list 3 (l.flatMap cW) l.length] (.v (.bool true)) := by
  refine VC.body Tryd.func12 rfl Tryd.ntmps12 (Nat.le_of_ble_eq_true rfl) fun X0 w0 S00 => ?_
  have hmx : maxLen = 9223372036854775807 := rfl
  have g := locksF_good l
  have hlv := locks_vp l hok
  generalize (locksF l).1 = held at *
  generalize (locksF l).2 = queue at *
  have few := g.few
  have hqs : ∀ y ∈ queue, modeB y.m = true := fun y hy => by obtain ⟨k, hk, rfl⟩ := List.mem_iff_getElem.1 hy; exact (g.atQ hk).2.1
  have hwv := waitsAll_vp held queue g (by omega) (by omega) g.mode hqs
  unfold locksS locksD at hwv hlv
  have hall := all_len held queue
  have hcf := checkNil_vp ⟨1, ⟨#[]⟩, 1⟩ (by decide) (by decide)
  refine CD.seq ?_
  refine CD.region ?_
  refine OD.still (wants_plain rfl) rfl (still_as rfl opd_const) ?_
  refine OD.wk (Wk.as_ (n := 132) (l' := [(0, _)]) (S' := []) rfl rfl ⟨lk, trivial⟩) ?_
  refine OD.nil ?_
  refine CD.seq ?_
  refine CD.region ?_
  refine OD.still (wants_plain rfl) rfl (still_mv rfl ot) ?_
  refine OD.callP (wants_plain rfl) rfl rfl rfl Tryd.call16 (hlv) ⟨ot, trivial⟩ ?_
  refine OD.alloc (ds := [_, _]) (wants_plain rfl) rfl rfl Tryd.zeroValue25 rfl (fun b3 => ?_)
  refine OD.store (k := 0) (cs' := [_, _]) (wants_plain rfl) rfl rfl ot rfl rfl ot rfl rfl Tryd.sizeOf25 rfl rfl rfl ?_
  refine OD.wk (Wk.as_ (n := 132) (l' := [(3, _)]) (S' := [⟨b3, 25, 2, [_, _]⟩]) rfl rfl ⟨lk, trivial⟩) ?_
  refine OD.nil ?_
  refine CD.seq ?_
  refine CD.region ?_
  refine OD.still (wants_plain rfl) rfl (still_r1 (mk := Op.load 25) rfl ot (by first | exact ld_blks (k := 0) (ds := [_, _]) rfl rfl Tryd.isAgg25 Tryd.sizeOf25 rfl rfl | exact ld_fms cW_len Tryd.isAgg25 Tryd.sizeOf25 (by first | assumption | omega) | exact ld_fms cL_len Tryd.isAgg25 Tryd.sizeOf25 (by first | assumption | omega) | exact ld_fms cI_len Tryd.isAgg25 Tryd.sizeOf25 (by first | assumption | omega) | exact ld_fms cII_len Tryd.isAgg25 Tryd.sizeOf25 (by first | assumption | omega) | exact ld_rows (k := 0) cW_len rfl rfl rfl Tryd.isAgg25 Tryd.sizeOf25 (by first | assumption | omega) | exact ld_rows (k := 0) cL_len rfl rfl rfl Tryd.isAgg25 Tryd.sizeOf25 (by first | assumption | omega) | exact ld_rows (k := 0) cI_len rfl rfl rfl Tryd.isAgg25 Tryd.sizeOf25 (by first | assumption | omega) | exact ld_rows (k := 0) cII_len rfl rfl rfl Tryd.isAgg25 Tryd.sizeOf25 (by first | assumption | omega) | exact ld_is (ds := [_, _]) Tryd.isAgg25 Tryd.sizeOf25 rfl rfl)) ?_
  refine OD.callP (wants_plain rfl) rfl rfl rfl Tryd.call23 (hwv) ⟨ot, trivial⟩ ?_
  refine OD.still (wants_plain rfl) rfl (still_mv rfl ot) ?_
  refine OD.still (wants_plain rfl) rfl (still_extract rfl ot rfl) ?_
  refine OD.still (wants_plain rfl) rfl (still_extract rfl ot rfl) ?_
  refine OD.still (wants_plain rfl) rfl (still_as rfl ot) ?_
  refine OD.still (wants_plain rfl) rfl (still_as rfl ot) ?_
  refine OD.wk (Wk.as_ (n := 132) (l' := [(3, _), (4, _), (5, _)]) (S' := [⟨b3, 25, 2, [_, _]⟩]) rfl rfl ⟨lk, lk, lk, trivial⟩) ?_
  refine OD.nil ?_
  refine CD.seq ?_
  refine CD.seq ?_
  refine CD.region ?_
  refine OD.still (wants_plain rfl) rfl (still_mv rfl ot) ?_
  refine OD.still (wants_plain rfl) rfl (still_bin rfl ot opd_const bin_neq) ?_
  refine OD.still (wants_plain rfl) rfl (still_mv rfl ot) ?_
  refine OD.split (t := 20) lk (fun hg20 => ?_) (fun hg20 => ?_)
  · exact absurd hg20 (by simp)
  · have hg20' := hg20; (try simp only [decide_eq_true_eq, decide_eq_false_iff_not, beq_iff_eq, bne_iff_ne, Bool.not_eq_true', Bool.not_eq_false', Bool.not_eq_true, Bool.not_eq_false, beq_eq_false_iff_ne, ne_eq, bne_eq_false_iff_eq, Bool.and_eq_true, Bool.or_eq_true, Bool.not_not] at hg20')
    refine OD.still (wants_T rfl rfl rfl lk (by first | rfl | assumption)) rfl (still_mv rfl ot) ?_
    refine OD.still (wants_T rfl rfl rfl lk (by first | rfl | assumption)) rfl (still_r1 (mk := fun y => .call { callee := .builtin .len, args := #[y], argTypes := #[50] }) rfl ot (by first | exact len_list rfl Tryd.runUnderlying50 | exact len_row rfl Tryd.runUnderlying50)) ?_
    refine OD.still (wants_T rfl rfl rfl lk (by first | rfl | assumption)) rfl (still_r1 (mk := fun y => Op.fieldAddr 25 y 1) rfl ot (by first | exact fa_ptr (off := 1) Tryd.runUnderlying25 rfl Tryd.sizeOf23 rfl | exact fa_iptr (off := 1) Tryd.runUnderlying25 rfl Tryd.sizeOf23 rfl)) ?_
    refine OD.still (wants_T rfl rfl rfl lk (by first | rfl | assumption)) rfl (still_r1 (mk := Op.load 23) rfl ot (by first | exact ld_blk (k := 0) rfl rfl Tryd.isAgg23 rfl | exact ld_fm cW_len Tryd.isAgg23 (by first | assumption | omega) rfl | exact ld_fm0 cW_len Tryd.isAgg23 (by first | assumption | omega) rfl | exact ld_fm cL_len Tryd.isAgg23 (by first | assumption | omega) rfl | exact ld_fm0 cL_len Tryd.isAgg23 (by first | assumption | omega) rfl | exact ld_fm cI_len Tryd.isAgg23 (by first | assumption | omega) rfl | exact ld_fm0 cI_len Tryd.isAgg23 (by first | assumption | omega) rfl | exact ld_fm cII_len Tryd.isAgg23 (by first | assumption | omega) rfl | exact ld_fm0 cII_len Tryd.isAgg23 (by first | assumption | omega) rfl | exact ld_row (k := 0) cW_len rfl rfl rfl Tryd.isAgg23 (by first | assumption | omega) rfl | exact ld_row0 (k := 0) cW_len rfl rfl rfl Tryd.isAgg23 (by first | assumption | omega) rfl | exact ld_row (k := 0) cL_len rfl rfl rfl Tryd.isAgg23 (by first | assumption | omega) rfl | exact ld_row0 (k := 0) cL_len rfl rfl rfl Tryd.isAgg23 (by first | assumption | omega) rfl | exact ld_row (k := 0) cI_len rfl rfl rfl Tryd.isAgg23 (by first | assumption | omega) rfl | exact ld_row0 (k := 0) cI_len rfl rfl rfl Tryd.isAgg23 (by first | assumption | omega) rfl | exact ld_row (k := 0) cII_len rfl rfl rfl Tryd.isAgg23 (by first | assumption | omega) rfl | exact ld_row0 (k := 0) cII_len rfl rfl rfl Tryd.isAgg23 (by first | assumption | omega) rfl | exact ld_i Tryd.isAgg23 rfl)) ?_
    refine OD.still (wants_T rfl rfl rfl lk (by first | rfl | assumption)) rfl (still_r1 (mk := fun y => .call { callee := .builtin .len, args := #[y], argTypes := #[23] }) rfl ot (by first | exact len_list rfl Tryd.runUnderlying23 | exact len_row rfl Tryd.runUnderlying23)) ?_
    refine OD.still (wants_T rfl rfl rfl lk (by first | rfl | assumption)) rfl (still_bin rfl ot ot bin_neq) ?_
    refine OD.still (wants_plain rfl) rfl (still_pickF rfl ot (by first | rfl | assumption) ot) ?_
    refine OD.still (wants_plain rfl) rfl (still_mv rfl ot) ?_
    refine OD.split (t := 28) lk (fun hg28 => ?_) (fun hg28 => ?_)
    · exact absurd hg28 (by simp [hall])
    · have hg28' := hg28; (try simp only [decide_eq_true_eq, decide_eq_false_iff_not, beq_iff_eq, bne_iff_ne, Bool.not_eq_true', Bool.not_eq_false', Bool.not_eq_true, Bool.not_eq_false, beq_eq_false_iff_ne, ne_eq, bne_eq_false_iff_eq, Bool.and_eq_true, Bool.or_eq_true, Bool.not_not] at hg28')
      refine OD.still (wants_T rfl rfl rfl lk (by first | rfl | assumption)) rfl (still_bld (pl := [(0, _), (2, _)]) (ds := [_, _, _]) rfl Tryd.zeroValue27 Tryd.runUnderlying27 places27_Lkp ⟨rfl, opd_const, rfl, opd_const, trivial⟩ rfl rfl) ?_
      refine OD.bldS (pl := [(0, _)]) (zvs := [.int .i64 0, .string ⟨#[]⟩, .int .i64 0]) (ds := [_, _, _]) (wants_T rfl rfl rfl lk (by first | rfl | assumption)) rfl rfl Tryd.zeroValue27 Tryd.runUnderlying23 Tryd.sizeOf27 rfl rfl (by kernel_rfl) ⟨rfl, ot, trivial⟩ rfl rfl (fun b30 => ?_)
      refine OD.perm (perm_q11 (S1 := [⟨b30, 27, 1 * 3, List.flatMap cL ([⟨1, ⟨#[]⟩, 1⟩])⟩]) (A := [_])) ?_
      refine OD.giveL (t := 30) (Sq := [⟨b30, 27, 1 * 3, List.flatMap cL ([⟨1, ⟨#[]⟩, 1⟩])⟩]) lk (ownL_row (g := cL) (sz := 3) (e := 27) (ls := [⟨1, ⟨#[]⟩, 1⟩]) (Nat.le_refl _) (show 1 ≤ maxLen by decide)) (fm_len cL_len _) (perm_r11 (A := [_])) ?_
      refine OD.still (wants_T rfl rfl rfl lk (by first | rfl | assumption)) rfl (still_bld (pl := [(1, _)]) (ds := [_, _]) rfl Tryd.zeroValue25 Tryd.runUnderlying25 places25_Lkp ⟨rfl, ot, trivial⟩ rfl rfl) ?_
      refine OD.callP (wants_T rfl rfl rfl lk (by first | rfl | assumption)) rfl rfl rfl Tryd.call18 (hcf) ⟨ot, trivial⟩ ?_
      refine OD.still (wants_T rfl rfl rfl lk (by first | rfl | assumption)) rfl (still_bin rfl ot opd_const bin_neq) ?_
      refine OD.still (wants_plain rfl) rfl (still_pickF rfl ot (by first | rfl | assumption) ot) ?_
      refine OD.wk (Wk.as_ (n := 132) (l' := [(3, _), (4, _), (34, _)]) (S' := [⟨b3, 25, 2, [_, _]⟩]) rfl rfl ⟨lk, lk, lk, trivial⟩) ?_
      refine OD.nil ?_
      refine CD.cond ot (fun hc0 => ?_) (fun hc0 => ?_)
      · exact absurd hc0 (by simp)
      · have hc0' := hc0
        (try simp only [decide_eq_true_eq, decide_eq_false_iff_not, beq_iff_eq, bne_iff_ne, Bool.not_eq_true', Bool.not_eq_false', Bool.not_eq_true, Bool.not_eq_false, beq_eq_false_iff_ne, ne_eq, bne_eq_false_iff_eq, Bool.and_eq_true, Bool.or_eq_true, Bool.not_not, Bool.and_eq_false_iff, Bool.or_eq_false_iff, Int.not_lt, Int.not_le] at hc0')
        refine CD.skip ?_
        refine CD.seq ?_
        refine CD.seq ?_
        refine CD.region ?_
        refine OD.still (wants_plain rfl) rfl (still_as rfl opd_const) ?_
        refine OD.wk (Wk.as_ (n := 132) (l' := [(3, _), (4, _), (6, _)]) (S' := [⟨b3, 25, 2, [_, _]⟩]) rfl rfl ⟨lk, lk, lk, trivial⟩) ?_
        refine OD.nil ?_
        refine CD.block ?_
        refine CD.wk (Wk.asS (n := 132) (l' := [(3, .v (.pointer (some ⟨b3, 0, none⟩))), (4, .list 1 ((waitsAll held queue).flatMap cII) (waitsAll held queue).length), (6, .v (.int .i64 ((0) : Nat)))]) (S' := [⟨b3, 25, 2, [.list 3 (held.flatMap cL) held.length, .list 3 (queue.flatMap cL) queue.length]⟩]) rfl (by repeat (first | exact List.Sublist.refl _ | apply List.Sublist.cons)) ⟨(by (repeat (first | exact look_hit | (apply look_at; focus (first | rfl | (simp; done) | (congr 2; omega))) | (apply look_miss; focus rfl))); done), (by (repeat (first | exact look_hit | (apply look_at; focus (first | rfl | (simp; done) | (congr 2; omega))) | (apply look_miss; focus rfl))); done), (by (repeat (first | exact look_hit | (apply look_at; focus (first | rfl | (simp; done) | (congr 2; omega))) | (apply look_miss; focus rfl))); done), trivial⟩) (CD.loop (fun (i : Nat) y__ => (i ≤ queue.length) ∧ y__ = (⟨132, [(3, .v (.pointer (some ⟨b3, 0, none⟩))), (4, .list 1 ((waitsAll held queue).flatMap cII) (waitsAll held queue).length), (6, .v (.int .i64 (i : Nat)))], [⟨b3, 25, 2, [.list 3 (held.flatMap cL) held.length, .list 3 (queue.flatMap cL) queue.length]⟩]⟩ : St)) (fun (i : Nat) => queue.length - i) 0 ⟨(Nat.zero_le _), rfl⟩ ?_)
        rintro i _ ⟨hi, rfl⟩
        refine CD.seq ?_
        refine CD.seq ?_
        refine CD.region ?_
        refine OD.still (wants_plain rfl) rfl (still_mv rfl ot) ?_
        refine OD.still (wants_plain rfl) rfl (still_mv rfl ot) ?_
        refine OD.still (wants_plain rfl) rfl (still_r1 (mk := fun y => .call { callee := .builtin .len, args := #[y], argTypes := #[50] }) rfl ot (by first | exact len_list rfl Tryd.runUnderlying50 | exact len_row rfl Tryd.runUnderlying50)) ?_
        refine OD.still (wants_plain rfl) rfl (still_bin rfl ot ot bin_lss) ?_
        refine OD.wk (Wk.as_ (n := 132) (l' := [(3, _), (4, _), (6, _), (38, _)]) (S' := [⟨b3, 25, 2, [_, _]⟩]) rfl rfl ⟨lk, lk, lk, lk, trivial⟩) ?_
        refine OD.nil ?_
        refine CD.cond ot (fun hc1 => ?_) (fun hc1 => ?_)
        · have hc1' := hc1
          (try simp only [decide_eq_true_eq, decide_eq_false_iff_not, beq_iff_eq, bne_iff_ne, Bool.not_eq_true', Bool.not_eq_false', Bool.not_eq_true, Bool.not_eq_false, beq_eq_false_iff_ne, ne_eq, bne_eq_false_iff_eq, Bool.and_eq_true, Bool.or_eq_true, Bool.not_not, Bool.and_eq_false_iff, Bool.or_eq_false_iff, Int.not_lt, Int.not_le] at hc1')
          have hia : i < (waitsAll held queue).length := by omega
          have hlt : i < queue.length := by omega
          obtain ⟨t1, t2, t3⟩ := waits_told g g.mode hlt
          have hwi := all_at hia
          rw [← hwi] at t1 t2 t3
          have hpos := List.length_pos_iff.2 t1
          have hwb : (waitsAll held queue)[i].length ≤ 400 := by rw [hwi, ← waits_at hlt]; have q1 := compact_len (sortL (waitsL held (queue.take i) queue[i])); have q2 := waits_len held (queue.take i) queue[i]; have q3 : (queue.take i).length ≤ i := (by rw [List.length_take]; omega); rw [sort_len] at q1; omega
          refine CD.skip ?_
          refine CD.seq ?_
          refine CD.block ?_
          refine CD.seq ?_
          refine CD.seq ?_
          refine CD.region ?_
          refine OD.still (wants_plain rfl) rfl (still_mv rfl ot) ?_
          refine OD.still (wants_plain rfl) rfl (still_mv rfl ot) ?_
          refine OD.still (wants_plain rfl) rfl (still_r2 (mk := Op.indexAddr 50) rfl ot ot (by first | exact ix_list Tryd.runUnderlying50 Tryd.sizeOf34 rfl (by first | assumption | omega) | exact ix_list (j := Int.toNat _) Tryd.runUnderlying50 Tryd.sizeOf34 (Int.toNat_of_nonneg (by omega)).symm (by omega) | exact ix_row Tryd.runUnderlying50 Tryd.sizeOf34 rfl (by first | assumption | omega) | exact ix_row (j := Int.toNat _) Tryd.runUnderlying50 Tryd.sizeOf34 (Int.toNat_of_nonneg (by omega)).symm (by omega))) ?_
          refine OD.still (wants_plain rfl) rfl (still_r1 (mk := Op.load 34) rfl ot (by first | exact ld_blk (k := 0) rfl rfl Tryd.isAgg34 rfl | exact ld_fm cW_len Tryd.isAgg34 (by first | assumption | omega) rfl | exact ld_fm0 cW_len Tryd.isAgg34 (by first | assumption | omega) rfl | exact ld_fm cL_len Tryd.isAgg34 (by first | assumption | omega) rfl | exact ld_fm0 cL_len Tryd.isAgg34 (by first | assumption | omega) rfl | exact ld_fm cI_len Tryd.isAgg34 (by first | assumption | omega) rfl | exact ld_fm0 cI_len Tryd.isAgg34 (by first | assumption | omega) rfl | exact ld_fm cII_len Tryd.isAgg34 (by first | assumption | omega) rfl | exact ld_fm0 cII_len Tryd.isAgg34 (by first | assumption | omega) rfl | exact ld_row (k := 0) cW_len rfl rfl rfl Tryd.isAgg34 (by first | assumption | omega) rfl | exact ld_row0 (k := 0) cW_len rfl rfl rfl Tryd.isAgg34 (by first | assumption | omega) rfl | exact ld_row (k := 0) cL_len rfl rfl rfl Tryd.isAgg34 (by first | assumption | omega) rfl | exact ld_row0 (k := 0) cL_len rfl rfl rfl Tryd.isAgg34 (by first | assumption | omega) rfl | exact ld_row (k := 0) cI_len rfl rfl rfl Tryd.isAgg34 (by first | assumption | omega) rfl | exact ld_row0 (k := 0) cI_len rfl rfl rfl Tryd.isAgg34 (by first | assumption | omega) rfl | exact ld_row (k := 0) cII_len rfl rfl rfl Tryd.isAgg34 (by first | assumption | omega) rfl | exact ld_row0 (k := 0) cII_len rfl rfl rfl Tryd.isAgg34 (by first | assumption | omega) rfl | exact ld_i Tryd.isAgg34 rfl)) ?_
          refine OD.still (wants_plain rfl) rfl (still_r1 (mk := fun y => .call { callee := .builtin .len, args := #[y], argTypes := #[34] }) rfl ot (by first | exact len_list rfl Tryd.runUnderlying34 | exact len_row rfl Tryd.runUnderlying34)) ?_
          refine OD.still (wants_plain rfl) rfl (still_bin rfl ot opd_const bin_eql) ?_
          refine OD.wk (Wk.as_ (n := 132) (l' := [(3, _), (4, _), (6, _), (46, _)]) (S' := [⟨b3, 25, 2, [_, _]⟩]) rfl rfl ⟨lk, lk, lk, lk, trivial⟩) ?_
          refine OD.nil ?_
          refine CD.cond ot (fun hc2 => ?_) (fun hc2 => ?_)
          · exact absurd hc2 (by simp; omega)
          · have hc2' := hc2
            (try simp only [decide_eq_true_eq, decide_eq_false_iff_not, beq_iff_eq, bne_iff_ne, Bool.not_eq_true', Bool.not_eq_false', Bool.not_eq_true, Bool.not_eq_false, beq_eq_false_iff_ne, ne_eq, bne_eq_false_iff_eq, Bool.and_eq_true, Bool.or_eq_true, Bool.not_not, Bool.and_eq_false_iff, Bool.or_eq_false_iff, Int.not_lt, Int.not_le] at hc2')
            refine CD.skip ?_
            refine CD.seq ?_
            refine CD.region ?_
            refine OD.still (wants_plain rfl) rfl (still_as rfl opd_const) ?_
            refine OD.wk (Wk.as_ (n := 132) (l' := [(3, _), (4, _), (6, _), (7, _)]) (S' := [⟨b3, 25, 2, [_, _]⟩]) rfl rfl ⟨lk, lk, lk, lk, trivial⟩) ?_
            refine OD.nil ?_
            refine CD.block ?_
            refine CD.wk (Wk.asS (n := 132) (l' := [(3, .v (.pointer (some ⟨b3, 0, none⟩))), (4, .list 1 ((waitsAll held queue).flatMap cII) (waitsAll held queue).length), (6, .v (.int .i64 (i : Nat))), (7, .v (.int .i64 ((0) : Nat)))]) (S' := [⟨b3, 25, 2, [.list 3 (held.flatMap cL) held.length, .list 3 (queue.flatMap cL) queue.length]⟩]) rfl (by repeat (first | exact List.Sublist.refl _ | apply List.Sublist.cons)) ⟨(by (repeat (first | exact look_hit | (apply look_at; focus (first | rfl | (simp; done) | (congr 2; omega))) | (apply look_miss; focus rfl))); done), (by (repeat (first | exact look_hit | (apply look_at; focus (first | rfl | (simp; done) | (congr 2; omega))) | (apply look_miss; focus rfl))); done), (by (repeat (first | exact look_hit | (apply look_at; focus (first | rfl | (simp; done) | (congr 2; omega))) | (apply look_miss; focus rfl))); done), (by (repeat (first | exact look_hit | (apply look_at; focus (first | rfl | (simp; done) | (congr 2; omega))) | (apply look_miss; focus rfl))); done), trivial⟩) (CD.loop (fun (j : Nat) y__ => (j ≤ (waitsAll held queue)[i].length) ∧ y__ = (⟨132, [(3, .v (.pointer (some ⟨b3, 0, none⟩))), (4, .list 1 ((waitsAll held queue).flatMap cII) (waitsAll held queue).length), (6, .v (.int .i64 (i : Nat))), (7, .v (.int .i64 (j : Nat)))], [⟨b3, 25, 2, [.list 3 (held.flatMap cL) held.length, .list 3 (queue.flatMap cL) queue.length]⟩]⟩ : St)) (fun (j : Nat) => (waitsAll held queue)[i].length - j) 0 ⟨(Nat.zero_le _), rfl⟩ ?_)
            rintro j _ ⟨hj, rfl⟩
            refine CD.seq ?_
            refine CD.seq ?_
            refine CD.region ?_
            refine OD.still (wants_plain rfl) rfl (still_mv rfl ot) ?_
            refine OD.still (wants_plain rfl) rfl (still_mv rfl ot) ?_
            refine OD.still (wants_plain rfl) rfl (still_mv rfl ot) ?_
            refine OD.still (wants_plain rfl) rfl (still_r2 (mk := Op.indexAddr 50) rfl ot ot (by first | exact ix_list Tryd.runUnderlying50 Tryd.sizeOf34 rfl (by first | assumption | omega) | exact ix_list (j := Int.toNat _) Tryd.runUnderlying50 Tryd.sizeOf34 (Int.toNat_of_nonneg (by omega)).symm (by omega) | exact ix_row Tryd.runUnderlying50 Tryd.sizeOf34 rfl (by first | assumption | omega) | exact ix_row (j := Int.toNat _) Tryd.runUnderlying50 Tryd.sizeOf34 (Int.toNat_of_nonneg (by omega)).symm (by omega))) ?_
            refine OD.still (wants_plain rfl) rfl (still_r1 (mk := Op.load 34) rfl ot (by first | exact ld_blk (k := 0) rfl rfl Tryd.isAgg34 rfl | exact ld_fm cW_len Tryd.isAgg34 (by first | assumption | omega) rfl | exact ld_fm0 cW_len Tryd.isAgg34 (by first | assumption | omega) rfl | exact ld_fm cL_len Tryd.isAgg34 (by first | assumption | omega) rfl | exact ld_fm0 cL_len Tryd.isAgg34 (by first | assumption | omega) rfl | exact ld_fm cI_len Tryd.isAgg34 (by first | assumption | omega) rfl | exact ld_fm0 cI_len Tryd.isAgg34 (by first | assumption | omega) rfl | exact ld_fm cII_len Tryd.isAgg34 (by first | assumption | omega) rfl | exact ld_fm0 cII_len Tryd.isAgg34 (by first | assumption | omega) rfl | exact ld_row (k := 0) cW_len rfl rfl rfl Tryd.isAgg34 (by first | assumption | omega) rfl | exact ld_row0 (k := 0) cW_len rfl rfl rfl Tryd.isAgg34 (by first | assumption | omega) rfl | exact ld_row (k := 0) cL_len rfl rfl rfl Tryd.isAgg34 (by first | assumption | omega) rfl | exact ld_row0 (k := 0) cL_len rfl rfl rfl Tryd.isAgg34 (by first | assumption | omega) rfl | exact ld_row (k := 0) cI_len rfl rfl rfl Tryd.isAgg34 (by first | assumption | omega) rfl | exact ld_row0 (k := 0) cI_len rfl rfl rfl Tryd.isAgg34 (by first | assumption | omega) rfl | exact ld_row (k := 0) cII_len rfl rfl rfl Tryd.isAgg34 (by first | assumption | omega) rfl | exact ld_row0 (k := 0) cII_len rfl rfl rfl Tryd.isAgg34 (by first | assumption | omega) rfl | exact ld_i Tryd.isAgg34 rfl)) ?_
            refine OD.still (wants_plain rfl) rfl (still_r1 (mk := fun y => .call { callee := .builtin .len, args := #[y], argTypes := #[34] }) rfl ot (by first | exact len_list rfl Tryd.runUnderlying34 | exact len_row rfl Tryd.runUnderlying34)) ?_
            refine OD.still (wants_plain rfl) rfl (still_bin rfl ot ot bin_lss) ?_
            refine OD.wk (Wk.as_ (n := 132) (l' := [(3, _), (4, _), (6, _), (7, _), (53, _)]) (S' := [⟨b3, 25, 2, [_, _]⟩]) rfl rfl ⟨lk, lk, lk, lk, lk, trivial⟩) ?_
            refine OD.nil ?_
            refine CD.cond ot (fun hc3 => ?_) (fun hc3 => ?_)
            · have hc3' := hc3
              (try simp only [decide_eq_true_eq, decide_eq_false_iff_not, beq_iff_eq, bne_iff_ne, Bool.not_eq_true', Bool.not_eq_false', Bool.not_eq_true, Bool.not_eq_false, beq_eq_false_iff_ne, ne_eq, bne_eq_false_iff_eq, Bool.and_eq_true, Bool.or_eq_true, Bool.not_not, Bool.and_eq_false_iff, Bool.or_eq_false_iff, Int.not_lt, Int.not_le] at hc3')
              have hjl : j < (waitsAll held queue)[i].length := by omega
              obtain ⟨u1, u2⟩ := t3 _ (List.getElem_mem hjl)
              have hok := told_ok u2
              refine CD.skip ?_
              refine CD.seq ?_
              refine CD.block ?_
              refine CD.seq ?_
              refine CD.region ?_
              refine OD.still (wants_plain rfl) rfl (still_mv rfl ot) ?_
              refine OD.still (wants_plain rfl) rfl (still_mv rfl ot) ?_
              refine OD.still (wants_plain rfl) rfl (still_r2 (mk := Op.indexAddr 50) rfl ot ot (by first | exact ix_list Tryd.runUnderlying50 Tryd.sizeOf34 rfl (by first | assumption | omega) | exact ix_list (j := Int.toNat _) Tryd.runUnderlying50 Tryd.sizeOf34 (Int.toNat_of_nonneg (by omega)).symm (by omega) | exact ix_row Tryd.runUnderlying50 Tryd.sizeOf34 rfl (by first | assumption | omega) | exact ix_row (j := Int.toNat _) Tryd.runUnderlying50 Tryd.sizeOf34 (Int.toNat_of_nonneg (by omega)).symm (by omega))) ?_
              refine OD.still (wants_plain rfl) rfl (still_r1 (mk := Op.load 34) rfl ot (by first | exact ld_blk (k := 0) rfl rfl Tryd.isAgg34 rfl | exact ld_fm cW_len Tryd.isAgg34 (by first | assumption | omega) rfl | exact ld_fm0 cW_len Tryd.isAgg34 (by first | assumption | omega) rfl | exact ld_fm cL_len Tryd.isAgg34 (by first | assumption | omega) rfl | exact ld_fm0 cL_len Tryd.isAgg34 (by first | assumption | omega) rfl | exact ld_fm cI_len Tryd.isAgg34 (by first | assumption | omega) rfl | exact ld_fm0 cI_len Tryd.isAgg34 (by first | assumption | omega) rfl | exact ld_fm cII_len Tryd.isAgg34 (by first | assumption | omega) rfl | exact ld_fm0 cII_len Tryd.isAgg34 (by first | assumption | omega) rfl | exact ld_row (k := 0) cW_len rfl rfl rfl Tryd.isAgg34 (by first | assumption | omega) rfl | exact ld_row0 (k := 0) cW_len rfl rfl rfl Tryd.isAgg34 (by first | assumption | omega) rfl | exact ld_row (k := 0) cL_len rfl rfl rfl Tryd.isAgg34 (by first | assumption | omega) rfl | exact ld_row0 (k := 0) cL_len rfl rfl rfl Tryd.isAgg34 (by first | assumption | omega) rfl | exact ld_row (k := 0) cI_len rfl rfl rfl Tryd.isAgg34 (by first | assumption | omega) rfl | exact ld_row0 (k := 0) cI_len rfl rfl rfl Tryd.isAgg34 (by first | assumption | omega) rfl | exact ld_row (k := 0) cII_len rfl rfl rfl Tryd.isAgg34 (by first | assumption | omega) rfl | exact ld_row0 (k := 0) cII_len rfl rfl rfl Tryd.isAgg34 (by first | assumption | omega) rfl | exact ld_i Tryd.isAgg34 rfl)) ?_
              refine OD.still (wants_plain rfl) rfl (still_mv rfl ot) ?_
              refine OD.still (wants_plain rfl) rfl (still_r2 (mk := Op.indexAddr 34) rfl ot ot (by first | exact ix_list Tryd.runUnderlying34 Tryd.sizeOf3 rfl (by first | assumption | omega) | exact ix_list (j := Int.toNat _) Tryd.runUnderlying34 Tryd.sizeOf3 (Int.toNat_of_nonneg (by omega)).symm (by omega) | exact ix_row Tryd.runUnderlying34 Tryd.sizeOf3 rfl (by first | assumption | omega) | exact ix_row (j := Int.toNat _) Tryd.runUnderlying34 Tryd.sizeOf3 (Int.toNat_of_nonneg (by omega)).symm (by omega))) ?_
              refine OD.still (wants_plain rfl) rfl (still_r1 (mk := Op.load 3) rfl ot (by first | exact ld_blk (k := 0) rfl rfl Tryd.isAgg3 rfl | exact ld_fm cW_len Tryd.isAgg3 (by first | assumption | omega) rfl | exact ld_fm0 cW_len Tryd.isAgg3 (by first | assumption | omega) rfl | exact ld_fm cL_len Tryd.isAgg3 (by first | assumption | omega) rfl | exact ld_fm0 cL_len Tryd.isAgg3 (by first | assumption | omega) rfl | exact ld_fm cI_len Tryd.isAgg3 (by first | assumption | omega) rfl | exact ld_fm0 cI_len Tryd.isAgg3 (by first | assumption | omega) rfl | exact ld_fm cII_len Tryd.isAgg3 (by first | assumption | omega) rfl | exact ld_fm0 cII_len Tryd.isAgg3 (by first | assumption | omega) rfl | exact ld_row (k := 0) cW_len rfl rfl rfl Tryd.isAgg3 (by first | assumption | omega) rfl | exact ld_row0 (k := 0) cW_len rfl rfl rfl Tryd.isAgg3 (by first | assumption | omega) rfl | exact ld_row (k := 0) cL_len rfl rfl rfl Tryd.isAgg3 (by first | assumption | omega) rfl | exact ld_row0 (k := 0) cL_len rfl rfl rfl Tryd.isAgg3 (by first | assumption | omega) rfl | exact ld_row (k := 0) cI_len rfl rfl rfl Tryd.isAgg3 (by first | assumption | omega) rfl | exact ld_row0 (k := 0) cI_len rfl rfl rfl Tryd.isAgg3 (by first | assumption | omega) rfl | exact ld_row (k := 0) cII_len rfl rfl rfl Tryd.isAgg3 (by first | assumption | omega) rfl | exact ld_row0 (k := 0) cII_len rfl rfl rfl Tryd.isAgg3 (by first | assumption | omega) rfl | exact ld_i Tryd.isAgg3 rfl)) ?_
              refine OD.still (wants_plain rfl) rfl (still_as rfl ot) ?_
              refine OD.wk (Wk.as_ (n := 132) (l' := [(3, _), (4, _), (6, _), (7, _), (8, _)]) (S' := [⟨b3, 25, 2, [_, _]⟩]) rfl rfl ⟨lk, lk, lk, lk, lk, trivial⟩) ?_
              refine OD.nil ?_
              refine CD.seq ?_
              refine CD.draw (bks _) (by kernel_rfl) (fun _ h => h) ?_
              refine AD0.take (i := 0) rfl (by kernel_rfl) (by kernel_rfl) (by kernel_rfl) (by repeat (first | exact NP.body | apply NP.then | apply NP.cut | apply NP.inBlock | apply NP.round)) (wants_plain rfl) rfl (still_r1 (mk := Op.load 25) rfl ot (by first | exact ld_blks (k := 0) (ds := [_, _]) rfl rfl Tryd.isAgg25 Tryd.sizeOf25 rfl rfl | exact ld_fms cW_len Tryd.isAgg25 Tryd.sizeOf25 (by first | assumption | omega) | exact ld_fms cL_len Tryd.isAgg25 Tryd.sizeOf25 (by first | assumption | omega) | exact ld_fms cI_len Tryd.isAgg25 Tryd.sizeOf25 (by first | assumption | omega) | exact ld_fms cII_len Tryd.isAgg25 Tryd.sizeOf25 (by first | assumption | omega) | exact ld_rows (k := 0) cW_len rfl rfl rfl Tryd.isAgg25 Tryd.sizeOf25 (by first | assumption | omega) | exact ld_rows (k := 0) cL_len rfl rfl rfl Tryd.isAgg25 Tryd.sizeOf25 (by first | assumption | omega) | exact ld_rows (k := 0) cI_len rfl rfl rfl Tryd.isAgg25 Tryd.sizeOf25 (by first | assumption | omega) | exact ld_rows (k := 0) cII_len rfl rfl rfl Tryd.isAgg25 Tryd.sizeOf25 (by first | assumption | omega) | exact ld_is (ds := [_, _]) Tryd.isAgg25 Tryd.sizeOf25 rfl rfl)) (by first | exact trivial | exact safe_blk (k0 := 0) rfl rfl) ?_
              refine AD0.take (i := 1) rfl (by kernel_rfl) (by kernel_rfl) (by kernel_rfl) (by repeat (first | exact NP.body | apply NP.then | apply NP.cut | apply NP.inBlock | apply NP.round)) (wants_plain rfl) rfl (still_mv rfl ot) (by exact trivial) ?_
              refine AD0.take (i := 2) rfl (by kernel_rfl) (by kernel_rfl) (by kernel_rfl) (by repeat (first | exact NP.body | apply NP.then | apply NP.cut | apply NP.inBlock | apply NP.round)) (wants_plain rfl) rfl (still_r1 (mk := fun y => Op.fieldAddr 25 y 1) rfl ot (by first | exact fa_ptr (off := 1) Tryd.runUnderlying25 rfl Tryd.sizeOf23 rfl | exact fa_iptr (off := 1) Tryd.runUnderlying25 rfl Tryd.sizeOf23 rfl)) (by exact trivial) ?_
              refine AD0.take (i := 3) rfl (by kernel_rfl) (by kernel_rfl) (by kernel_rfl) (by repeat (first | exact NP.body | apply NP.then | apply NP.cut | apply NP.inBlock | apply NP.round)) (wants_plain rfl) rfl (still_r1 (mk := Op.load 23) rfl ot (by first | exact ld_blk (k := 0) rfl rfl Tryd.isAgg23 rfl | exact ld_fm cW_len Tryd.isAgg23 (by first | assumption | omega) rfl | exact ld_fm0 cW_len Tryd.isAgg23 (by first | assumption | omega) rfl | exact ld_fm cL_len Tryd.isAgg23 (by first | assumption | omega) rfl | exact ld_fm0 cL_len Tryd.isAgg23 (by first | assumption | omega) rfl | exact ld_fm cI_len Tryd.isAgg23 (by first | assumption | omega) rfl | exact ld_fm0 cI_len Tryd.isAgg23 (by first | assumption | omega) rfl | exact ld_fm cII_len Tryd.isAgg23 (by first | assumption | omega) rfl | exact ld_fm0 cII_len Tryd.isAgg23 (by first | assumption | omega) rfl | exact ld_row (k := 0) cW_len rfl rfl rfl Tryd.isAgg23 (by first | assumption | omega) rfl | exact ld_row0 (k := 0) cW_len rfl rfl rfl Tryd.isAgg23 (by first | assumption | omega) rfl | exact ld_row (k := 0) cL_len rfl rfl rfl Tryd.isAgg23 (by first | assumption | omega) rfl | exact ld_row0 (k := 0) cL_len rfl rfl rfl Tryd.isAgg23 (by first | assumption | omega) rfl | exact ld_row (k := 0) cI_len rfl rfl rfl Tryd.isAgg23 (by first | assumption | omega) rfl | exact ld_row0 (k := 0) cI_len rfl rfl rfl Tryd.isAgg23 (by first | assumption | omega) rfl | exact ld_row (k := 0) cII_len rfl rfl rfl Tryd.isAgg23 (by first | assumption | omega) rfl | exact ld_row0 (k := 0) cII_len rfl rfl rfl Tryd.isAgg23 (by first | assumption | omega) rfl | exact ld_i Tryd.isAgg23 rfl)) (by first | exact trivial | exact safe_blk (k0 := 0) rfl rfl) ?_
              refine AD0.take (i := 4) rfl (by kernel_rfl) (by kernel_rfl) (by kernel_rfl) (by repeat (first | exact NP.body | apply NP.then | apply NP.cut | apply NP.inBlock | apply NP.round)) (wants_plain rfl) rfl (still_mv rfl ot) (by exact trivial) ?_
              refine AD0.take (i := 5) rfl (by kernel_rfl) (by kernel_rfl) (by kernel_rfl) (by repeat (first | exact NP.body | apply NP.then | apply NP.cut | apply NP.inBlock | apply NP.round)) (wants_plain rfl) rfl (still_r2 (mk := Op.indexAddr 23) rfl ot ot (by first | exact ix_list Tryd.runUnderlying23 Tryd.sizeOf27 rfl (by first | assumption | omega) | exact ix_list (j := Int.toNat _) Tryd.runUnderlying23 Tryd.sizeOf27 (Int.toNat_of_nonneg (by omega)).symm (by omega) | exact ix_row Tryd.runUnderlying23 Tryd.sizeOf27 rfl (by first | assumption | omega) | exact ix_row (j := Int.toNat _) Tryd.runUnderlying23 Tryd.sizeOf27 (Int.toNat_of_nonneg (by omega)).symm (by omega))) (by exact trivial) ?_
              refine AD0.take (i := 6) rfl (by kernel_rfl) (by kernel_rfl) (by kernel_rfl) (by repeat (first | exact NP.body | apply NP.then | apply NP.cut | apply NP.inBlock | apply NP.round)) (wants_plain rfl) rfl (still_r1 (mk := fun y => Op.fieldAddr 27 y 1) rfl ot (by first | exact fa_ptr (off := 1) Tryd.runUnderlying27 rfl Tryd.sizeOf9 rfl | exact fa_iptr (off := 1) Tryd.runUnderlying27 rfl Tryd.sizeOf9 rfl)) (by exact trivial) ?_
              refine AD0.take (i := 7) rfl (by kernel_rfl) (by kernel_rfl) (by kernel_rfl) (by repeat (first | exact NP.body | apply NP.then | apply NP.cut | apply NP.inBlock | apply NP.round)) (wants_plain rfl) rfl (still_r1 (mk := Op.load 9) rfl ot (by first | exact ld_blk (k := 0) rfl rfl Tryd.isAgg9 rfl | exact ld_fm cW_len Tryd.isAgg9 (by first | assumption | omega) rfl | exact ld_fm0 cW_len Tryd.isAgg9 (by first | assumption | omega) rfl | exact ld_fm cL_len Tryd.isAgg9 (by first | assumption | omega) rfl | exact ld_fm0 cL_len Tryd.isAgg9 (by first | assumption | omega) rfl | exact ld_fm cI_len Tryd.isAgg9 (by first | assumption | omega) rfl | exact ld_fm0 cI_len Tryd.isAgg9 (by first | assumption | omega) rfl | exact ld_fm cII_len Tryd.isAgg9 (by first | assumption | omega) rfl | exact ld_fm0 cII_len Tryd.isAgg9 (by first | assumption | omega) rfl | exact ld_row (k := 0) cW_len rfl rfl rfl Tryd.isAgg9 (by first | assumption | omega) rfl | exact ld_row0 (k := 0) cW_len rfl rfl rfl Tryd.isAgg9 (by first | assumption | omega) rfl | exact ld_row (k := 0) cL_len rfl rfl rfl Tryd.isAgg9 (by first | assumption | omega) rfl | exact ld_row0 (k := 0) cL_len rfl rfl rfl Tryd.isAgg9 (by first | assumption | omega) rfl | exact ld_row (k := 0) cI_len rfl rfl rfl Tryd.isAgg9 (by first | assumption | omega) rfl | exact ld_row0 (k := 0) cI_len rfl rfl rfl Tryd.isAgg9 (by first | assumption | omega) rfl | exact ld_row (k := 0) cII_len rfl rfl rfl Tryd.isAgg9 (by first | assumption | omega) rfl | exact ld_row0 (k := 0) cII_len rfl rfl rfl Tryd.isAgg9 (by first | assumption | omega) rfl | exact ld_i Tryd.isAgg9 rfl)) (by first | exact trivial | exact safe_blk (k0 := 0) rfl rfl) ?_
              refine AD0.later rfl ?_
              refine AD.one (i := 8) (by kernel_rfl) ?_
              refine AStep.callP rfl (wants_plain rfl) rfl rfl rfl Tryd.call19 (modeOf_vp _ held queue (waitsAll held queue)[i][j] queue[i].th (by omega)) ⟨ot, ot, ot, trivial⟩ ?_
              refine AD.take (i := 9) rfl (by kernel_rfl) (by kernel_rfl) (by kernel_rfl) (by repeat (first | exact NP.body | apply NP.then | apply NP.cut | apply NP.inBlock | apply NP.round)) (wants_plain rfl) rfl (still_bin rfl ot opd_const bin_gtr) (by exact trivial) (by intro h; cases h) ?_
              refine AD.take (i := 10) rfl (by kernel_rfl) (by kernel_rfl) (by kernel_rfl) (by repeat (first | exact NP.body | apply NP.then | apply NP.cut | apply NP.inBlock | apply NP.round)) (wants_plain rfl) rfl (still_as rfl ot) (by exact trivial) (by intro h; cases h) ?_
              refine AD.wk (y := ⟨132, [(3, _), (4, _), (6, _), (7, _), (8, _), (9, _)], [⟨b3, 25, 2, [_, _]⟩]⟩) (Wk.as_ rfl rfl ⟨lk, lk, lk, lk, lk, lk, trivial⟩) rfl ?_
              refine AD.done (by kernel_rfl) ?_
              refine CD.seq ?_
              refine CD.seq ?_
              refine CD.region ?_
              refine OD.still (wants_plain rfl) rfl (still_as rfl opd_const) ?_
              refine OD.wk (Wk.as_ (n := 132) (l' := [(3, _), (4, _), (6, _), (7, _), (8, _), (9, _), (10, _)]) (S' := [⟨b3, 25, 2, [_, _]⟩]) rfl rfl ⟨lk, lk, lk, lk, lk, lk, lk, trivial⟩) ?_
              refine OD.nil ?_
              refine CD.block ?_
              refine CD.wk (Wk.asS (n := 132) (l' := [(3, .v (.pointer (some ⟨b3, 0, none⟩))), (4, .list 1 ((waitsAll held queue).flatMap cII) (waitsAll held queue).length), (6, .v (.int .i64 (i : Nat))), (7, .v (.int .i64 (j : Nat))), (8, .v (.int .i64 (waitsAll held queue)[i][j])), (9, .v (.bool (decide (modeF held (waitsAll held queue)[i][j] queue[i].th > 0) || aheadB queue (0) (waitsAll held queue)[i][j] queue[i]))), (10, .v (.int .i64 ((0) : Nat)))]) (S' := [⟨b3, 25, 2, [.list 3 (held.flatMap cL) held.length, .list 3 (queue.flatMap cL) queue.length]⟩]) rfl (by repeat (first | exact List.Sublist.refl _ | apply List.Sublist.cons)) ⟨(by (repeat (first | exact look_hit | (apply look_at; focus (first | rfl | (congr 2; omega) | (refine vb ?_; simp [aheadB]; done) | (refine vb ?_; rw [← hst, hg79]; simp; done) | (refine vb ?_; rw [← hst, hg79, hg88]; simp; done) | (refine vb ?_; rw [← hst, hg79]; simp_all; done) | (simp; done))) | (apply look_miss; focus rfl))); done), (by (repeat (first | exact look_hit | (apply look_at; focus (first | rfl | (congr 2; omega) | (refine vb ?_; simp [aheadB]; done) | (refine vb ?_; rw [← hst, hg79]; simp; done) | (refine vb ?_; rw [← hst, hg79, hg88]; simp; done) | (refine vb ?_; rw [← hst, hg79]; simp_all; done) | (simp; done))) | (apply look_miss; focus rfl))); done), (by (repeat (first | exact look_hit | (apply look_at; focus (first | rfl | (congr 2; omega) | (refine vb ?_; simp [aheadB]; done) | (refine vb ?_; rw [← hst, hg79]; simp; done) | (refine vb ?_; rw [← hst, hg79, hg88]; simp; done) | (refine vb ?_; rw [← hst, hg79]; simp_all; done) | (simp; done))) | (apply look_miss; focus rfl))); done), (by (repeat (first | exact look_hit | (apply look_at; focus (first | rfl | (congr 2; omega) | (refine vb ?_; simp [aheadB]; done) | (refine vb ?_; rw [← hst, hg79]; simp; done) | (refine vb ?_; rw [← hst, hg79, hg88]; simp; done) | (refine vb ?_; rw [← hst, hg79]; simp_all; done) | (simp; done))) | (apply look_miss; focus rfl))); done), (by (repeat (first | exact look_hit | (apply look_at; focus (first | rfl | (congr 2; omega) | (refine vb ?_; simp [aheadB]; done) | (refine vb ?_; rw [← hst, hg79]; simp; done) | (refine vb ?_; rw [← hst, hg79, hg88]; simp; done) | (refine vb ?_; rw [← hst, hg79]; simp_all; done) | (simp; done))) | (apply look_miss; focus rfl))); done), (by (repeat (first | exact look_hit | (apply look_at; focus (first | rfl | (congr 2; omega) | (refine vb ?_; simp [aheadB]; done) | (refine vb ?_; rw [← hst, hg79]; simp; done) | (refine vb ?_; rw [← hst, hg79, hg88]; simp; done) | (refine vb ?_; rw [← hst, hg79]; simp_all; done) | (simp; done))) | (apply look_miss; focus rfl))); done), (by (repeat (first | exact look_hit | (apply look_at; focus (first | rfl | (congr 2; omega) | (refine vb ?_; simp [aheadB]; done) | (refine vb ?_; rw [← hst, hg79]; simp; done) | (refine vb ?_; rw [← hst, hg79, hg88]; simp; done) | (refine vb ?_; rw [← hst, hg79]; simp_all; done) | (simp; done))) | (apply look_miss; focus rfl))); done), trivial⟩) (CD.loop (fun (k : Nat) y__ => (k ≤ i) ∧ y__ = (⟨132, [(3, .v (.pointer (some ⟨b3, 0, none⟩))), (4, .list 1 ((waitsAll held queue).flatMap cII) (waitsAll held queue).length), (6, .v (.int .i64 (i : Nat))), (7, .v (.int .i64 (j : Nat))), (8, .v (.int .i64 (waitsAll held queue)[i][j])), (9, .v (.bool (decide (modeF held (waitsAll held queue)[i][j] queue[i].th > 0) || aheadB queue k (waitsAll held queue)[i][j] queue[i]))), (10, .v (.int .i64 (k : Nat)))], [⟨b3, 25, 2, [.list 3 (held.flatMap cL) held.length, .list 3 (queue.flatMap cL) queue.length]⟩]⟩ : St)) (fun (k : Nat) => i - k) 0 ⟨(Nat.zero_le _), rfl⟩ ?_)
              rintro k _ ⟨hk, rfl⟩
              refine CD.seq ?_
              refine CD.seq ?_
              refine CD.region ?_
              refine OD.still (wants_plain rfl) rfl (still_mv rfl ot) ?_
              refine OD.still (wants_plain rfl) rfl (still_mv rfl ot) ?_
              refine OD.still (wants_plain rfl) rfl (still_bin rfl ot ot bin_lss) ?_
              refine OD.wk (Wk.as_ (n := 132) (l' := [(3, _), (4, _), (6, _), (7, _), (8, _), (9, _), (10, _), (75, _)]) (S' := [⟨b3, 25, 2, [_, _]⟩]) rfl rfl ⟨lk, lk, lk, lk, lk, lk, lk, lk, trivial⟩) ?_
              refine OD.nil ?_
              refine CD.cond ot (fun hc4 => ?_) (fun hc4 => ?_)
              · have hc4' := hc4
                (try simp only [decide_eq_true_eq, decide_eq_false_iff_not, beq_iff_eq, bne_iff_ne, Bool.not_eq_true', Bool.not_eq_false', Bool.not_eq_true, Bool.not_eq_false, beq_eq_false_iff_ne, ne_eq, bne_eq_false_iff_eq, Bool.and_eq_true, Bool.or_eq_true, Bool.not_not, Bool.and_eq_false_iff, Bool.or_eq_false_iff, Int.not_lt, Int.not_le] at hc4')
                have hkq : k < queue.length := by omega
                have hst := ahead_step (u := (waitsAll held queue)[i][j]) (q := queue[i]) (b := decide (modeF held (waitsAll held queue)[i][j] queue[i].th > 0)) hkq
                refine CD.skip ?_
                refine CD.seq ?_
                refine CD.block ?_
                refine CD.draw (bks _) (by kernel_rfl) (fun _ h => h) ?_
                refine AD0.take (i := 0) rfl (by kernel_rfl) (by kernel_rfl) (by kernel_rfl) (by repeat (first | exact NP.body | apply NP.then | apply NP.cut | apply NP.inBlock | apply NP.round)) (wants_plain rfl) rfl (still_mv rfl ot) (by exact trivial) ?_
                refine AD0.take (i := 1) rfl (by kernel_rfl) (by kernel_rfl) (by kernel_rfl) (by repeat (first | exact NP.body | apply NP.then | apply NP.cut | apply NP.inBlock | apply NP.round)) (wants_plain rfl) rfl (still_mv rfl ot) (by exact trivial) ?_
                refine AD0.split (t := 79) lk (fun hg79 => ?_) (fun hg79 => ?_)
                · have hg79' := hg79; (try simp only [decide_eq_true_eq, decide_eq_false_iff_not, beq_iff_eq, bne_iff_ne, Bool.not_eq_true', Bool.not_eq_false', Bool.not_eq_true, Bool.not_eq_false, beq_eq_false_iff_ne, ne_eq, bne_eq_false_iff_eq, Bool.and_eq_true, Bool.or_eq_true, Bool.not_not, Bool.and_eq_false_iff, Bool.or_eq_false_iff, Int.not_lt, Int.not_le] at hg79')
                  refine AD0.takeSkip (i := 2) rfl (by kernel_rfl) (by kernel_rfl) (by kernel_rfl) (by repeat (first | exact NP.body | apply NP.then | apply NP.cut | apply NP.inBlock | apply NP.round)) (wants_F rfl rfl rfl lk (by first | rfl | assumption)) rfl ?_
                  refine AD0.takeSkip (i := 3) rfl (by kernel_rfl) (by kernel_rfl) (by kernel_rfl) (by repeat (first | exact NP.body | apply NP.then | apply NP.cut | apply NP.inBlock | apply NP.round)) (wants_F rfl rfl rfl lk (by first | rfl | assumption)) rfl ?_
                  refine AD0.takeSkip (i := 4) rfl (by kernel_rfl) (by kernel_rfl) (by kernel_rfl) (by repeat (first | exact NP.body | apply NP.then | apply NP.cut | apply NP.inBlock | apply NP.round)) (wants_F rfl rfl rfl lk (by first | rfl | assumption)) rfl ?_
                  refine AD0.takeSkip (i := 5) rfl (by kernel_rfl) (by kernel_rfl) (by kernel_rfl) (by repeat (first | exact NP.body | apply NP.then | apply NP.cut | apply NP.inBlock | apply NP.round)) (wants_F rfl rfl rfl lk (by first | rfl | assumption)) rfl ?_
                  refine AD0.takeSkip (i := 6) rfl (by kernel_rfl) (by kernel_rfl) (by kernel_rfl) (by repeat (first | exact NP.body | apply NP.then | apply NP.cut | apply NP.inBlock | apply NP.round)) (wants_F rfl rfl rfl lk (by first | rfl | assumption)) rfl ?_
                  refine AD0.takeSkip (i := 7) rfl (by kernel_rfl) (by kernel_rfl) (by kernel_rfl) (by repeat (first | exact NP.body | apply NP.then | apply NP.cut | apply NP.inBlock | apply NP.round)) (wants_F rfl rfl rfl lk (by first | rfl | assumption)) rfl ?_
                  refine AD0.takeSkip (i := 8) rfl (by kernel_rfl) (by kernel_rfl) (by kernel_rfl) (by repeat (first | exact NP.body | apply NP.then | apply NP.cut | apply NP.inBlock | apply NP.round)) (wants_F rfl rfl rfl lk (by first | rfl | assumption)) rfl ?_
                  refine AD0.takeSkip (i := 9) rfl (by kernel_rfl) (by kernel_rfl) (by kernel_rfl) (by repeat (first | exact NP.body | apply NP.then | apply NP.cut | apply NP.inBlock | apply NP.round)) (wants_F rfl rfl rfl lk (by first | rfl | assumption)) rfl ?_
                  refine AD0.takeSkip (i := 10) rfl (by kernel_rfl) (by kernel_rfl) (by kernel_rfl) (by repeat (first | exact NP.body | apply NP.then | apply NP.cut | apply NP.inBlock | apply NP.round)) (wants_F rfl rfl rfl lk (by first | rfl | assumption)) rfl ?_
                  refine AD0.takeSkip (i := 11) rfl (by kernel_rfl) (by kernel_rfl) (by kernel_rfl) (by repeat (first | exact NP.body | apply NP.then | apply NP.cut | apply NP.inBlock | apply NP.round)) (wants_J (b := false) rfl rfl rfl lk) rfl ?_
                  refine AD0.takeSkip (i := 12) rfl (by kernel_rfl) (by kernel_rfl) (by kernel_rfl) (by repeat (first | exact NP.body | apply NP.then | apply NP.cut | apply NP.inBlock | apply NP.round)) (wants_J (b := false) rfl rfl rfl lk) rfl ?_
                  refine AD0.takeSkip (i := 13) rfl (by kernel_rfl) (by kernel_rfl) (by kernel_rfl) (by repeat (first | exact NP.body | apply NP.then | apply NP.cut | apply NP.inBlock | apply NP.round)) (wants_J (b := false) rfl rfl rfl lk) rfl ?_
                  refine AD0.takeSkip (i := 14) rfl (by kernel_rfl) (by kernel_rfl) (by kernel_rfl) (by repeat (first | exact NP.body | apply NP.then | apply NP.cut | apply NP.inBlock | apply NP.round)) (wants_J (b := false) rfl rfl rfl lk) rfl ?_
                  refine AD0.takeSkip (i := 15) rfl (by kernel_rfl) (by kernel_rfl) (by kernel_rfl) (by repeat (first | exact NP.body | apply NP.then | apply NP.cut | apply NP.inBlock | apply NP.round)) (wants_J (b := false) rfl rfl rfl lk) rfl ?_
                  refine AD0.takeSkip (i := 16) rfl (by kernel_rfl) (by kernel_rfl) (by kernel_rfl) (by repeat (first | exact NP.body | apply NP.then | apply NP.cut | apply NP.inBlock | apply NP.round)) (wants_J (b := false) rfl rfl rfl lk) rfl ?_
                  refine AD0.takeSkip (i := 17) rfl (by kernel_rfl) (by kernel_rfl) (by kernel_rfl) (by repeat (first | exact NP.body | apply NP.then | apply NP.cut | apply NP.inBlock | apply NP.round)) (wants_J (b := false) rfl rfl rfl lk) rfl ?_
                  refine AD0.takeSkip (i := 18) rfl (by kernel_rfl) (by kernel_rfl) (by kernel_rfl) (by repeat (first | exact NP.body | apply NP.then | apply NP.cut | apply NP.inBlock | apply NP.round)) (wants_J (b := false) rfl rfl rfl lk) rfl ?_
                  refine AD0.takeSkip (i := 19) rfl (by kernel_rfl) (by kernel_rfl) (by kernel_rfl) (by repeat (first | exact NP.body | apply NP.then | apply NP.cut | apply NP.inBlock | apply NP.round)) (wants_J (b := false) rfl rfl rfl lk) rfl ?_
                  refine AD0.takeSkip (i := 20) rfl (by kernel_rfl) (by kernel_rfl) (by kernel_rfl) (by repeat (first | exact NP.body | apply NP.then | apply NP.cut | apply NP.inBlock | apply NP.round)) (wants_J (b := false) rfl rfl rfl lk) rfl ?_
                  refine AD0.takeSkip (i := 21) rfl (by kernel_rfl) (by kernel_rfl) (by kernel_rfl) (by repeat (first | exact NP.body | apply NP.then | apply NP.cut | apply NP.inBlock | apply NP.round)) (wants_J (b := false) rfl rfl rfl lk) rfl ?_
                  refine AD0.takeSkip (i := 22) rfl (by kernel_rfl) (by kernel_rfl) (by kernel_rfl) (by repeat (first | exact NP.body | apply NP.then | apply NP.cut | apply NP.inBlock | apply NP.round)) (wants_J (b := false) rfl rfl rfl lk) rfl ?_
                  refine AD0.takeSkip (i := 23) rfl (by kernel_rfl) (by kernel_rfl) (by kernel_rfl) (by repeat (first | exact NP.body | apply NP.then | apply NP.cut | apply NP.inBlock | apply NP.round)) (wants_J (b := false) rfl rfl rfl lk) rfl ?_
                  refine AD0.takeSkip (i := 24) rfl (by kernel_rfl) (by kernel_rfl) (by kernel_rfl) (by repeat (first | exact NP.body | apply NP.then | apply NP.cut | apply NP.inBlock | apply NP.round)) (wants_F rfl rfl rfl lk (by first | rfl | assumption)) rfl ?_
                  refine AD0.take (i := 25) rfl (by kernel_rfl) (by kernel_rfl) (by kernel_rfl) (by repeat (first | exact NP.body | apply NP.then | apply NP.cut | apply NP.inBlock | apply NP.round)) (wants_plain rfl) rfl (still_pickT rfl ot (by first | rfl | assumption) opd_const) (by exact trivial) ?_
                  refine AD0.take (i := 26) rfl (by kernel_rfl) (by kernel_rfl) (by kernel_rfl) (by repeat (first | exact NP.body | apply NP.then | apply NP.cut | apply NP.inBlock | apply NP.round)) (wants_plain rfl) rfl (still_as rfl ot) (by exact trivial) ?_
                  refine AD0.later rfl ?_
                  refine AD.wk (y := ⟨132, [(3, _), (4, _), (6, _), (7, _), (8, _), (9, _), (10, _)], [⟨b3, 25, 2, [_, _]⟩]⟩) (Wk.as_ rfl rfl ⟨lk, lk, lk, lk, lk, lk, lk, trivial⟩) rfl ?_
                  refine AD.done (by kernel_rfl) ?_
                  refine CD.region ?_
                  refine OD.still (wants_plain rfl) rfl (still_mv rfl ot) ?_
                  refine OD.still (wants_plain rfl) rfl (still_bin rfl ot opd_const (bin_add (wrap_i64 (by omega) (by omega)))) ?_
                  refine OD.still (wants_plain rfl) rfl (still_as rfl ot) ?_
                  refine OD.wk (Wk.as_ (n := 132) (l' := [(3, _), (4, _), (6, _), (7, _), (8, _), (9, _), (10, _)]) (S' := [⟨b3, 25, 2, [_, _]⟩]) rfl rfl ⟨lk, lk, lk, lk, lk, lk, lk, trivial⟩) ?_
                  refine OD.nil ?_
                  refine ⟨(k + 1), ⟨132, [(3, .v (.pointer (some ⟨b3, 0, none⟩))), (4, .list 1 ((waitsAll held queue).flatMap cII) (waitsAll held queue).length), (6, .v (.int .i64 (i : Nat))), (7, .v (.int .i64 (j : Nat))), (8, .v (.int .i64 (waitsAll held queue)[i][j])), (9, .v (.bool (decide (modeF held (waitsAll held queue)[i][j] queue[i].th > 0) || aheadB queue ((k + 1)) (waitsAll held queue)[i][j] queue[i]))), (10, .v (.int .i64 (((k + 1)) : Nat)))], [⟨b3, 25, 2, [.list 3 (held.flatMap cL) held.length, .list 3 (queue.flatMap cL) queue.length]⟩]⟩, ?_, Wk.asS (n := 132) rfl (by repeat (first | exact List.Sublist.refl _ | apply List.Sublist.cons)) ⟨(by (repeat (first | exact look_hit | (apply look_at; focus (first | rfl | (congr 2; omega) | (refine vb ?_; simp [aheadB]; done) | (refine vb ?_; rw [← hst, hg79]; simp; done) | (refine vb ?_; rw [← hst, hg79, hg88]; simp; done) | (refine vb ?_; rw [← hst, hg79]; simp_all; done) | (simp; done))) | (apply look_miss; focus rfl))); done), (by (repeat (first | exact look_hit | (apply look_at; focus (first | rfl | (congr 2; omega) | (refine vb ?_; simp [aheadB]; done) | (refine vb ?_; rw [← hst, hg79]; simp; done) | (refine vb ?_; rw [← hst, hg79, hg88]; simp; done) | (refine vb ?_; rw [← hst, hg79]; simp_all; done) | (simp; done))) | (apply look_miss; focus rfl))); done), (by (repeat (first | exact look_hit | (apply look_at; focus (first | rfl | (congr 2; omega) | (refine vb ?_; simp [aheadB]; done) | (refine vb ?_; rw [← hst, hg79]; simp; done) | (refine vb ?_; rw [← hst, hg79, hg88]; simp; done) | (refine vb ?_; rw [← hst, hg79]; simp_all; done) | (simp; done))) | (apply look_miss; focus rfl))); done), (by (repeat (first | exact look_hit | (apply look_at; focus (first | rfl | (congr 2; omega) | (refine vb ?_; simp [aheadB]; done) | (refine vb ?_; rw [← hst, hg79]; simp; done) | (refine vb ?_; rw [← hst, hg79, hg88]; simp; done) | (refine vb ?_; rw [← hst, hg79]; simp_all; done) | (simp; done))) | (apply look_miss; focus rfl))); done), (by (repeat (first | exact look_hit | (apply look_at; focus (first | rfl | (congr 2; omega) | (refine vb ?_; simp [aheadB]; done) | (refine vb ?_; rw [← hst, hg79]; simp; done) | (refine vb ?_; rw [← hst, hg79, hg88]; simp; done) | (refine vb ?_; rw [← hst, hg79]; simp_all; done) | (simp; done))) | (apply look_miss; focus rfl))); done), (by (repeat (first | exact look_hit | (apply look_at; focus (first | rfl | (congr 2; omega) | (refine vb ?_; simp [aheadB]; done) | (refine vb ?_; rw [← hst, hg79]; simp; done) | (refine vb ?_; rw [← hst, hg79, hg88]; simp; done) | (refine vb ?_; rw [← hst, hg79]; simp_all; done) | (simp; done))) | (apply look_miss; focus rfl))); done), (by (repeat (first | exact look_hit | (apply look_at; focus (first | rfl | (congr 2; omega) | (refine vb ?_; simp [aheadB]; done) | (refine vb ?_; rw [← hst, hg79]; simp; done) | (refine vb ?_; rw [← hst, hg79, hg88]; simp; done) | (refine vb ?_; rw [← hst, hg79]; simp_all; done) | (simp; done))) | (apply look_miss; focus rfl))); done), trivial⟩, (by omega), rfl⟩
                  first | omega | (simp only []; omega)
                · have hg79' := hg79; (try simp only [decide_eq_true_eq, decide_eq_false_iff_not, beq_iff_eq, bne_iff_ne, Bool.not_eq_true', Bool.not_eq_false', Bool.not_eq_true, Bool.not_eq_false, beq_eq_false_iff_ne, ne_eq, bne_eq_false_iff_eq, Bool.and_eq_true, Bool.or_eq_true, Bool.not_not, Bool.and_eq_false_iff, Bool.or_eq_false_iff, Int.not_lt, Int.not_le] at hg79')
                  refine AD0.take (i := 2) rfl (by kernel_rfl) (by kernel_rfl) (by kernel_rfl) (by repeat (first | exact NP.body | apply NP.then | apply NP.cut | apply NP.inBlock | apply NP.round)) (wants_T rfl rfl rfl lk (by first | rfl | assumption)) rfl (still_r1 (mk := fun y => Op.fieldAddr 25 y 1) rfl ot (by first | exact fa_ptr (off := 1) Tryd.runUnderlying25 rfl Tryd.sizeOf23 rfl | exact fa_iptr (off := 1) Tryd.runUnderlying25 rfl Tryd.sizeOf23 rfl)) (by exact trivial) ?_
                  refine AD0.take (i := 3) rfl (by kernel_rfl) (by kernel_rfl) (by kernel_rfl) (by repeat (first | exact NP.body | apply NP.then | apply NP.cut | apply NP.inBlock | apply NP.round)) (wants_T rfl rfl rfl lk (by first | rfl | assumption)) rfl (still_r1 (mk := Op.load 23) rfl ot (by first | exact ld_blk (k := 0) rfl rfl Tryd.isAgg23 rfl | exact ld_fm cW_len Tryd.isAgg23 (by first | assumption | omega) rfl | exact ld_fm0 cW_len Tryd.isAgg23 (by first | assumption | omega) rfl | exact ld_fm cL_len Tryd.isAgg23 (by first | assumption | omega) rfl | exact ld_fm0 cL_len Tryd.isAgg23 (by first | assumption | omega) rfl | exact ld_fm cI_len Tryd.isAgg23 (by first | assumption | omega) rfl | exact ld_fm0 cI_len Tryd.isAgg23 (by first | assumption | omega) rfl | exact ld_fm cII_len Tryd.isAgg23 (by first | assumption | omega) rfl | exact ld_fm0 cII_len Tryd.isAgg23 (by first | assumption | omega) rfl | exact ld_row (k := 0) cW_len rfl rfl rfl Tryd.isAgg23 (by first | assumption | omega) rfl | exact ld_row0 (k := 0) cW_len rfl rfl rfl Tryd.isAgg23 (by first | assumption | omega) rfl | exact ld_row (k := 0) cL_len rfl rfl rfl Tryd.isAgg23 (by first | assumption | omega) rfl | exact ld_row0 (k := 0) cL_len rfl rfl rfl Tryd.isAgg23 (by first | assumption | omega) rfl | exact ld_row (k := 0) cI_len rfl rfl rfl Tryd.isAgg23 (by first | assumption | omega) rfl | exact ld_row0 (k := 0) cI_len rfl rfl rfl Tryd.isAgg23 (by first | assumption | omega) rfl | exact ld_row (k := 0) cII_len rfl rfl rfl Tryd.isAgg23 (by first | assumption | omega) rfl | exact ld_row0 (k := 0) cII_len rfl rfl rfl Tryd.isAgg23 (by first | assumption | omega) rfl | exact ld_i Tryd.isAgg23 rfl)) (by first | exact trivial | exact safe_blk (k0 := 0) rfl rfl) ?_
                  refine AD0.take (i := 4) rfl (by kernel_rfl) (by kernel_rfl) (by kernel_rfl) (by repeat (first | exact NP.body | apply NP.then | apply NP.cut | apply NP.inBlock | apply NP.round)) (wants_T rfl rfl rfl lk (by first | rfl | assumption)) rfl (still_mv rfl ot) (by exact trivial) ?_
                  refine AD0.take (i := 5) rfl (by kernel_rfl) (by kernel_rfl) (by kernel_rfl) (by repeat (first | exact NP.body | apply NP.then | apply NP.cut | apply NP.inBlock | apply NP.round)) (wants_T rfl rfl rfl lk (by first | rfl | assumption)) rfl (still_r2 (mk := Op.indexAddr 23) rfl ot ot (by first | exact ix_list Tryd.runUnderlying23 Tryd.sizeOf27 rfl (by first | assumption | omega) | exact ix_list (j := Int.toNat _) Tryd.runUnderlying23 Tryd.sizeOf27 (Int.toNat_of_nonneg (by omega)).symm (by omega) | exact ix_row Tryd.runUnderlying23 Tryd.sizeOf27 rfl (by first | assumption | omega) | exact ix_row (j := Int.toNat _) Tryd.runUnderlying23 Tryd.sizeOf27 (Int.toNat_of_nonneg (by omega)).symm (by omega))) (by exact trivial) ?_
                  refine AD0.take (i := 6) rfl (by kernel_rfl) (by kernel_rfl) (by kernel_rfl) (by repeat (first | exact NP.body | apply NP.then | apply NP.cut | apply NP.inBlock | apply NP.round)) (wants_T rfl rfl rfl lk (by first | rfl | assumption)) rfl (still_r1 (mk := fun y => Op.fieldAddr 27 y 0) rfl ot (by first | exact fa_ptr (off := 0) Tryd.runUnderlying27 rfl Tryd.sizeOf3 rfl | exact fa_iptr (off := 0) Tryd.runUnderlying27 rfl Tryd.sizeOf3 rfl)) (by exact trivial) ?_
                  refine AD0.take (i := 7) rfl (by kernel_rfl) (by kernel_rfl) (by kernel_rfl) (by repeat (first | exact NP.body | apply NP.then | apply NP.cut | apply NP.inBlock | apply NP.round)) (wants_T rfl rfl rfl lk (by first | rfl | assumption)) rfl (still_r1 (mk := Op.load 3) rfl ot (by first | exact ld_blk (k := 0) rfl rfl Tryd.isAgg3 rfl | exact ld_fm cW_len Tryd.isAgg3 (by first | assumption | omega) rfl | exact ld_fm0 cW_len Tryd.isAgg3 (by first | assumption | omega) rfl | exact ld_fm cL_len Tryd.isAgg3 (by first | assumption | omega) rfl | exact ld_fm0 cL_len Tryd.isAgg3 (by first | assumption | omega) rfl | exact ld_fm cI_len Tryd.isAgg3 (by first | assumption | omega) rfl | exact ld_fm0 cI_len Tryd.isAgg3 (by first | assumption | omega) rfl | exact ld_fm cII_len Tryd.isAgg3 (by first | assumption | omega) rfl | exact ld_fm0 cII_len Tryd.isAgg3 (by first | assumption | omega) rfl | exact ld_row (k := 0) cW_len rfl rfl rfl Tryd.isAgg3 (by first | assumption | omega) rfl | exact ld_row0 (k := 0) cW_len rfl rfl rfl Tryd.isAgg3 (by first | assumption | omega) rfl | exact ld_row (k := 0) cL_len rfl rfl rfl Tryd.isAgg3 (by first | assumption | omega) rfl | exact ld_row0 (k := 0) cL_len rfl rfl rfl Tryd.isAgg3 (by first | assumption | omega) rfl | exact ld_row (k := 0) cI_len rfl rfl rfl Tryd.isAgg3 (by first | assumption | omega) rfl | exact ld_row0 (k := 0) cI_len rfl rfl rfl Tryd.isAgg3 (by first | assumption | omega) rfl | exact ld_row (k := 0) cII_len rfl rfl rfl Tryd.isAgg3 (by first | assumption | omega) rfl | exact ld_row0 (k := 0) cII_len rfl rfl rfl Tryd.isAgg3 (by first | assumption | omega) rfl | exact ld_i Tryd.isAgg3 rfl)) (by first | exact trivial | exact safe_blk (k0 := 0) rfl rfl) ?_
                  refine AD0.take (i := 8) rfl (by kernel_rfl) (by kernel_rfl) (by kernel_rfl) (by repeat (first | exact NP.body | apply NP.then | apply NP.cut | apply NP.inBlock | apply NP.round)) (wants_T rfl rfl rfl lk (by first | rfl | assumption)) rfl (still_mv rfl ot) (by exact trivial) ?_
                  refine AD0.take (i := 9) rfl (by kernel_rfl) (by kernel_rfl) (by kernel_rfl) (by repeat (first | exact NP.body | apply NP.then | apply NP.cut | apply NP.inBlock | apply NP.round)) (wants_T rfl rfl rfl lk (by first | rfl | assumption)) rfl (still_bin rfl ot ot bin_eql) (by exact trivial) ?_
                  refine AD0.take (i := 10) rfl (by kernel_rfl) (by kernel_rfl) (by kernel_rfl) (by repeat (first | exact NP.body | apply NP.then | apply NP.cut | apply NP.inBlock | apply NP.round)) (wants_T rfl rfl rfl lk (by first | rfl | assumption)) rfl (still_mv rfl ot) (by exact trivial) ?_
                  refine AD0.split (t := 88) lk (fun hg88 => ?_) (fun hg88 => ?_)
                  · have hg88' := hg88; (try simp only [decide_eq_true_eq, decide_eq_false_iff_not, beq_iff_eq, bne_iff_ne, Bool.not_eq_true', Bool.not_eq_false', Bool.not_eq_true, Bool.not_eq_false, beq_eq_false_iff_ne, ne_eq, bne_eq_false_iff_eq, Bool.and_eq_true, Bool.or_eq_true, Bool.not_not, Bool.and_eq_false_iff, Bool.or_eq_false_iff, Int.not_lt, Int.not_le] at hg88')
                    refine AD0.take (i := 11) rfl (by kernel_rfl) (by kernel_rfl) (by kernel_rfl) (by repeat (first | exact NP.body | apply NP.then | apply NP.cut | apply NP.inBlock | apply NP.round)) (wants_T rfl rfl rfl lk (by first | rfl | assumption)) rfl (still_r1 (mk := fun y => Op.fieldAddr 25 y 1) rfl ot (by first | exact fa_ptr (off := 1) Tryd.runUnderlying25 rfl Tryd.sizeOf23 rfl | exact fa_iptr (off := 1) Tryd.runUnderlying25 rfl Tryd.sizeOf23 rfl)) (by exact trivial) ?_
                    refine AD0.take (i := 12) rfl (by kernel_rfl) (by kernel_rfl) (by kernel_rfl) (by repeat (first | exact NP.body | apply NP.then | apply NP.cut | apply NP.inBlock | apply NP.round)) (wants_T rfl rfl rfl lk (by first | rfl | assumption)) rfl (still_r1 (mk := Op.load 23) rfl ot (by first | exact ld_blk (k := 0) rfl rfl Tryd.isAgg23 rfl | exact ld_fm cW_len Tryd.isAgg23 (by first | assumption | omega) rfl | exact ld_fm0 cW_len Tryd.isAgg23 (by first | assumption | omega) rfl | exact ld_fm cL_len Tryd.isAgg23 (by first | assumption | omega) rfl | exact ld_fm0 cL_len Tryd.isAgg23 (by first | assumption | omega) rfl | exact ld_fm cI_len Tryd.isAgg23 (by first | assumption | omega) rfl | exact ld_fm0 cI_len Tryd.isAgg23 (by first | assumption | omega) rfl | exact ld_fm cII_len Tryd.isAgg23 (by first | assumption | omega) rfl | exact ld_fm0 cII_len Tryd.isAgg23 (by first | assumption | omega) rfl | exact ld_row (k := 0) cW_len rfl rfl rfl Tryd.isAgg23 (by first | assumption | omega) rfl | exact ld_row0 (k := 0) cW_len rfl rfl rfl Tryd.isAgg23 (by first | assumption | omega) rfl | exact ld_row (k := 0) cL_len rfl rfl rfl Tryd.isAgg23 (by first | assumption | omega) rfl | exact ld_row0 (k := 0) cL_len rfl rfl rfl Tryd.isAgg23 (by first | assumption | omega) rfl | exact ld_row (k := 0) cI_len rfl rfl rfl Tryd.isAgg23 (by first | assumption | omega) rfl | exact ld_row0 (k := 0) cI_len rfl rfl rfl Tryd.isAgg23 (by first | assumption | omega) rfl | exact ld_row (k := 0) cII_len rfl rfl rfl Tryd.isAgg23 (by first | assumption | omega) rfl | exact ld_row0 (k := 0) cII_len rfl rfl rfl Tryd.isAgg23 (by first | assumption | omega) rfl | exact ld_i Tryd.isAgg23 rfl)) (by first | exact trivial | exact safe_blk (k0 := 0) rfl rfl) ?_
                    refine AD0.take (i := 13) rfl (by kernel_rfl) (by kernel_rfl) (by kernel_rfl) (by repeat (first | exact NP.body | apply NP.then | apply NP.cut | apply NP.inBlock | apply NP.round)) (wants_T rfl rfl rfl lk (by first | rfl | assumption)) rfl (still_mv rfl ot) (by exact trivial) ?_
                    refine AD0.take (i := 14) rfl (by kernel_rfl) (by kernel_rfl) (by kernel_rfl) (by repeat (first | exact NP.body | apply NP.then | apply NP.cut | apply NP.inBlock | apply NP.round)) (wants_T rfl rfl rfl lk (by first | rfl | assumption)) rfl (still_r2 (mk := Op.indexAddr 23) rfl ot ot (by first | exact ix_list Tryd.runUnderlying23 Tryd.sizeOf27 rfl (by first | assumption | omega) | exact ix_list (j := Int.toNat _) Tryd.runUnderlying23 Tryd.sizeOf27 (Int.toNat_of_nonneg (by omega)).symm (by omega) | exact ix_row Tryd.runUnderlying23 Tryd.sizeOf27 rfl (by first | assumption | omega) | exact ix_row (j := Int.toNat _) Tryd.runUnderlying23 Tryd.sizeOf27 (Int.toNat_of_nonneg (by omega)).symm (by omega))) (by exact trivial) ?_
                    refine AD0.take (i := 15) rfl (by kernel_rfl) (by kernel_rfl) (by kernel_rfl) (by repeat (first | exact NP.body | apply NP.then | apply NP.cut | apply NP.inBlock | apply NP.round)) (wants_T rfl rfl rfl lk (by first | rfl | assumption)) rfl (still_r1 (mk := fun y => Op.fieldAddr 27 y 1) rfl ot (by first | exact fa_ptr (off := 1) Tryd.runUnderlying27 rfl Tryd.sizeOf9 rfl | exact fa_iptr (off := 1) Tryd.runUnderlying27 rfl Tryd.sizeOf9 rfl)) (by exact trivial) ?_
                    refine AD0.take (i := 16) rfl (by kernel_rfl) (by kernel_rfl) (by kernel_rfl) (by repeat (first | exact NP.body | apply NP.then | apply NP.cut | apply NP.inBlock | apply NP.round)) (wants_T rfl rfl rfl lk (by first | rfl | assumption)) rfl (still_r1 (mk := Op.load 9) rfl ot (by first | exact ld_blk (k := 0) rfl rfl Tryd.isAgg9 rfl | exact ld_fm cW_len Tryd.isAgg9 (by first | assumption | omega) rfl | exact ld_fm0 cW_len Tryd.isAgg9 (by first | assumption | omega) rfl | exact ld_fm cL_len Tryd.isAgg9 (by first | assumption | omega) rfl | exact ld_fm0 cL_len Tryd.isAgg9 (by first | assumption | omega) rfl | exact ld_fm cI_len Tryd.isAgg9 (by first | assumption | omega) rfl | exact ld_fm0 cI_len Tryd.isAgg9 (by first | assumption | omega) rfl | exact ld_fm cII_len Tryd.isAgg9 (by first | assumption | omega) rfl | exact ld_fm0 cII_len Tryd.isAgg9 (by first | assumption | omega) rfl | exact ld_row (k := 0) cW_len rfl rfl rfl Tryd.isAgg9 (by first | assumption | omega) rfl | exact ld_row0 (k := 0) cW_len rfl rfl rfl Tryd.isAgg9 (by first | assumption | omega) rfl | exact ld_row (k := 0) cL_len rfl rfl rfl Tryd.isAgg9 (by first | assumption | omega) rfl | exact ld_row0 (k := 0) cL_len rfl rfl rfl Tryd.isAgg9 (by first | assumption | omega) rfl | exact ld_row (k := 0) cI_len rfl rfl rfl Tryd.isAgg9 (by first | assumption | omega) rfl | exact ld_row0 (k := 0) cI_len rfl rfl rfl Tryd.isAgg9 (by first | assumption | omega) rfl | exact ld_row (k := 0) cII_len rfl rfl rfl Tryd.isAgg9 (by first | assumption | omega) rfl | exact ld_row0 (k := 0) cII_len rfl rfl rfl Tryd.isAgg9 (by first | assumption | omega) rfl | exact ld_i Tryd.isAgg9 rfl)) (by first | exact trivial | exact safe_blk (k0 := 0) rfl rfl) ?_
                    refine AD0.take (i := 17) rfl (by kernel_rfl) (by kernel_rfl) (by kernel_rfl) (by repeat (first | exact NP.body | apply NP.then | apply NP.cut | apply NP.inBlock | apply NP.round)) (wants_T rfl rfl rfl lk (by first | rfl | assumption)) rfl (still_r1 (mk := fun y => Op.fieldAddr 25 y 1) rfl ot (by first | exact fa_ptr (off := 1) Tryd.runUnderlying25 rfl Tryd.sizeOf23 rfl | exact fa_iptr (off := 1) Tryd.runUnderlying25 rfl Tryd.sizeOf23 rfl)) (by exact trivial) ?_
                    refine AD0.take (i := 18) rfl (by kernel_rfl) (by kernel_rfl) (by kernel_rfl) (by repeat (first | exact NP.body | apply NP.then | apply NP.cut | apply NP.inBlock | apply NP.round)) (wants_T rfl rfl rfl lk (by first | rfl | assumption)) rfl (still_r1 (mk := Op.load 23) rfl ot (by first | exact ld_blk (k := 0) rfl rfl Tryd.isAgg23 rfl | exact ld_fm cW_len Tryd.isAgg23 (by first | assumption | omega) rfl | exact ld_fm0 cW_len Tryd.isAgg23 (by first | assumption | omega) rfl | exact ld_fm cL_len Tryd.isAgg23 (by first | assumption | omega) rfl | exact ld_fm0 cL_len Tryd.isAgg23 (by first | assumption | omega) rfl | exact ld_fm cI_len Tryd.isAgg23 (by first | assumption | omega) rfl | exact ld_fm0 cI_len Tryd.isAgg23 (by first | assumption | omega) rfl | exact ld_fm cII_len Tryd.isAgg23 (by first | assumption | omega) rfl | exact ld_fm0 cII_len Tryd.isAgg23 (by first | assumption | omega) rfl | exact ld_row (k := 0) cW_len rfl rfl rfl Tryd.isAgg23 (by first | assumption | omega) rfl | exact ld_row0 (k := 0) cW_len rfl rfl rfl Tryd.isAgg23 (by first | assumption | omega) rfl | exact ld_row (k := 0) cL_len rfl rfl rfl Tryd.isAgg23 (by first | assumption | omega) rfl | exact ld_row0 (k := 0) cL_len rfl rfl rfl Tryd.isAgg23 (by first | assumption | omega) rfl | exact ld_row (k := 0) cI_len rfl rfl rfl Tryd.isAgg23 (by first | assumption | omega) rfl | exact ld_row0 (k := 0) cI_len rfl rfl rfl Tryd.isAgg23 (by first | assumption | omega) rfl | exact ld_row (k := 0) cII_len rfl rfl rfl Tryd.isAgg23 (by first | assumption | omega) rfl | exact ld_row0 (k := 0) cII_len rfl rfl rfl Tryd.isAgg23 (by first | assumption | omega) rfl | exact ld_i Tryd.isAgg23 rfl)) (by first | exact trivial | exact safe_blk (k0 := 0) rfl rfl) ?_
                    refine AD0.take (i := 19) rfl (by kernel_rfl) (by kernel_rfl) (by kernel_rfl) (by repeat (first | exact NP.body | apply NP.then | apply NP.cut | apply NP.inBlock | apply NP.round)) (wants_T rfl rfl rfl lk (by first | rfl | assumption)) rfl (still_mv rfl ot) (by exact trivial) ?_
                    refine AD0.take (i := 20) rfl (by kernel_rfl) (by kernel_rfl) (by kernel_rfl) (by repeat (first | exact NP.body | apply NP.then | apply NP.cut | apply NP.inBlock | apply NP.round)) (wants_T rfl rfl rfl lk (by first | rfl | assumption)) rfl (still_r2 (mk := Op.indexAddr 23) rfl ot ot (by first | exact ix_list Tryd.runUnderlying23 Tryd.sizeOf27 rfl (by first | assumption | omega) | exact ix_list (j := Int.toNat _) Tryd.runUnderlying23 Tryd.sizeOf27 (Int.toNat_of_nonneg (by omega)).symm (by omega) | exact ix_row Tryd.runUnderlying23 Tryd.sizeOf27 rfl (by first | assumption | omega) | exact ix_row (j := Int.toNat _) Tryd.runUnderlying23 Tryd.sizeOf27 (Int.toNat_of_nonneg (by omega)).symm (by omega))) (by exact trivial) ?_
                    refine AD0.take (i := 21) rfl (by kernel_rfl) (by kernel_rfl) (by kernel_rfl) (by repeat (first | exact NP.body | apply NP.then | apply NP.cut | apply NP.inBlock | apply NP.round)) (wants_T rfl rfl rfl lk (by first | rfl | assumption)) rfl (still_r1 (mk := fun y => Op.fieldAddr 27 y 1) rfl ot (by first | exact fa_ptr (off := 1) Tryd.runUnderlying27 rfl Tryd.sizeOf9 rfl | exact fa_iptr (off := 1) Tryd.runUnderlying27 rfl Tryd.sizeOf9 rfl)) (by exact trivial) ?_
                    refine AD0.take (i := 22) rfl (by kernel_rfl) (by kernel_rfl) (by kernel_rfl) (by repeat (first | exact NP.body | apply NP.then | apply NP.cut | apply NP.inBlock | apply NP.round)) (wants_T rfl rfl rfl lk (by first | rfl | assumption)) rfl (still_r1 (mk := Op.load 9) rfl ot (by first | exact ld_blk (k := 0) rfl rfl Tryd.isAgg9 rfl | exact ld_fm cW_len Tryd.isAgg9 (by first | assumption | omega) rfl | exact ld_fm0 cW_len Tryd.isAgg9 (by first | assumption | omega) rfl | exact ld_fm cL_len Tryd.isAgg9 (by first | assumption | omega) rfl | exact ld_fm0 cL_len Tryd.isAgg9 (by first | assumption | omega) rfl | exact ld_fm cI_len Tryd.isAgg9 (by first | assumption | omega) rfl | exact ld_fm0 cI_len Tryd.isAgg9 (by first | assumption | omega) rfl | exact ld_fm cII_len Tryd.isAgg9 (by first | assumption | omega) rfl | exact ld_fm0 cII_len Tryd.isAgg9 (by first | assumption | omega) rfl | exact ld_row (k := 0) cW_len rfl rfl rfl Tryd.isAgg9 (by first | assumption | omega) rfl | exact ld_row0 (k := 0) cW_len rfl rfl rfl Tryd.isAgg9 (by first | assumption | omega) rfl | exact ld_row (k := 0) cL_len rfl rfl rfl Tryd.isAgg9 (by first | assumption | omega) rfl | exact ld_row0 (k := 0) cL_len rfl rfl rfl Tryd.isAgg9 (by first | assumption | omega) rfl | exact ld_row (k := 0) cI_len rfl rfl rfl Tryd.isAgg9 (by first | assumption | omega) rfl | exact ld_row0 (k := 0) cI_len rfl rfl rfl Tryd.isAgg9 (by first | assumption | omega) rfl | exact ld_row (k := 0) cII_len rfl rfl rfl Tryd.isAgg9 (by first | assumption | omega) rfl | exact ld_row0 (k := 0) cII_len rfl rfl rfl Tryd.isAgg9 (by first | assumption | omega) rfl | exact ld_i Tryd.isAgg9 rfl)) (by first | exact trivial | exact safe_blk (k0 := 0) rfl rfl) ?_
                    refine AD0.take (i := 23) rfl (by kernel_rfl) (by kernel_rfl) (by kernel_rfl) (by repeat (first | exact NP.body | apply NP.then | apply NP.cut | apply NP.inBlock | apply NP.round)) (wants_T rfl rfl rfl lk (by first | rfl | assumption)) rfl (still_bin rfl ot ot bin_seql) (by exact trivial) ?_
                    refine AD0.take (i := 24) rfl (by kernel_rfl) (by kernel_rfl) (by kernel_rfl) (by repeat (first | exact NP.body | apply NP.then | apply NP.cut | apply NP.inBlock | apply NP.round)) (wants_T rfl rfl rfl lk (by first | rfl | assumption)) rfl (still_pickT rfl ot (by first | rfl | assumption) ot) (by exact trivial) ?_
                    refine AD0.take (i := 25) rfl (by kernel_rfl) (by kernel_rfl) (by kernel_rfl) (by repeat (first | exact NP.body | apply NP.then | apply NP.cut | apply NP.inBlock | apply NP.round)) (wants_plain rfl) rfl (still_pickF rfl ot (by first | rfl | assumption) ot) (by exact trivial) ?_
                    refine AD0.take (i := 26) rfl (by kernel_rfl) (by kernel_rfl) (by kernel_rfl) (by repeat (first | exact NP.body | apply NP.then | apply NP.cut | apply NP.inBlock | apply NP.round)) (wants_plain rfl) rfl (still_as rfl ot) (by exact trivial) ?_
                    refine AD0.later rfl ?_
                    refine AD.wk (y := ⟨132, [(3, _), (4, _), (6, _), (7, _), (8, _), (9, _), (10, _)], [⟨b3, 25, 2, [_, _]⟩]⟩) (Wk.as_ rfl rfl ⟨lk, lk, lk, lk, lk, lk, lk, trivial⟩) rfl ?_
                    refine AD.done (by kernel_rfl) ?_
                    refine CD.region ?_
                    refine OD.still (wants_plain rfl) rfl (still_mv rfl ot) ?_
                    refine OD.still (wants_plain rfl) rfl (still_bin rfl ot opd_const (bin_add (wrap_i64 (by omega) (by omega)))) ?_
                    refine OD.still (wants_plain rfl) rfl (still_as rfl ot) ?_
                    refine OD.wk (Wk.as_ (n := 132) (l' := [(3, _), (4, _), (6, _), (7, _), (8, _), (9, _), (10, _)]) (S' := [⟨b3, 25, 2, [_, _]⟩]) rfl rfl ⟨lk, lk, lk, lk, lk, lk, lk, trivial⟩) ?_
                    refine OD.nil ?_
                    refine ⟨(k + 1), ⟨132, [(3, .v (.pointer (some ⟨b3, 0, none⟩))), (4, .list 1 ((waitsAll held queue).flatMap cII) (waitsAll held queue).length), (6, .v (.int .i64 (i : Nat))), (7, .v (.int .i64 (j : Nat))), (8, .v (.int .i64 (waitsAll held queue)[i][j])), (9, .v (.bool (decide (modeF held (waitsAll held queue)[i][j] queue[i].th > 0) || aheadB queue ((k + 1)) (waitsAll held queue)[i][j] queue[i]))), (10, .v (.int .i64 (((k + 1)) : Nat)))], [⟨b3, 25, 2, [.list 3 (held.flatMap cL) held.length, .list 3 (queue.flatMap cL) queue.length]⟩]⟩, ?_, Wk.asS (n := 132) rfl (by repeat (first | exact List.Sublist.refl _ | apply List.Sublist.cons)) ⟨(by (repeat (first | exact look_hit | (apply look_at; focus (first | rfl | (congr 2; omega) | (refine vb ?_; simp [aheadB]; done) | (refine vb ?_; rw [← hst, hg79]; simp; done) | (refine vb ?_; rw [← hst, hg79, hg88]; simp; done) | (refine vb ?_; rw [← hst, hg79]; simp_all; done) | (simp; done))) | (apply look_miss; focus rfl))); done), (by (repeat (first | exact look_hit | (apply look_at; focus (first | rfl | (congr 2; omega) | (refine vb ?_; simp [aheadB]; done) | (refine vb ?_; rw [← hst, hg79]; simp; done) | (refine vb ?_; rw [← hst, hg79, hg88]; simp; done) | (refine vb ?_; rw [← hst, hg79]; simp_all; done) | (simp; done))) | (apply look_miss; focus rfl))); done), (by (repeat (first | exact look_hit | (apply look_at; focus (first | rfl | (congr 2; omega) | (refine vb ?_; simp [aheadB]; done) | (refine vb ?_; rw [← hst, hg79]; simp; done) | (refine vb ?_; rw [← hst, hg79, hg88]; simp; done) | (refine vb ?_; rw [← hst, hg79]; simp_all; done) | (simp; done))) | (apply look_miss; focus rfl))); done), (by (repeat (first | exact look_hit | (apply look_at; focus (first | rfl | (congr 2; omega) | (refine vb ?_; simp [aheadB]; done) | (refine vb ?_; rw [← hst, hg79]; simp; done) | (refine vb ?_; rw [← hst, hg79, hg88]; simp; done) | (refine vb ?_; rw [← hst, hg79]; simp_all; done) | (simp; done))) | (apply look_miss; focus rfl))); done), (by (repeat (first | exact look_hit | (apply look_at; focus (first | rfl | (congr 2; omega) | (refine vb ?_; simp [aheadB]; done) | (refine vb ?_; rw [← hst, hg79]; simp; done) | (refine vb ?_; rw [← hst, hg79, hg88]; simp; done) | (refine vb ?_; rw [← hst, hg79]; simp_all; done) | (simp; done))) | (apply look_miss; focus rfl))); done), (by (repeat (first | exact look_hit | (apply look_at; focus (first | rfl | (congr 2; omega) | (refine vb ?_; simp [aheadB]; done) | (refine vb ?_; rw [← hst, hg79]; simp; done) | (refine vb ?_; rw [← hst, hg79, hg88]; simp; done) | (refine vb ?_; rw [← hst, hg79]; simp_all; done) | (simp; done))) | (apply look_miss; focus rfl))); done), (by (repeat (first | exact look_hit | (apply look_at; focus (first | rfl | (congr 2; omega) | (refine vb ?_; simp [aheadB]; done) | (refine vb ?_; rw [← hst, hg79]; simp; done) | (refine vb ?_; rw [← hst, hg79, hg88]; simp; done) | (refine vb ?_; rw [← hst, hg79]; simp_all; done) | (simp; done))) | (apply look_miss; focus rfl))); done), trivial⟩, (by omega), rfl⟩
                    first | omega | (simp only []; omega)
                  · have hg88' := hg88; (try simp only [decide_eq_true_eq, decide_eq_false_iff_not, beq_iff_eq, bne_iff_ne, Bool.not_eq_true', Bool.not_eq_false', Bool.not_eq_true, Bool.not_eq_false, beq_eq_false_iff_ne, ne_eq, bne_eq_false_iff_eq, Bool.and_eq_true, Bool.or_eq_true, Bool.not_not, Bool.and_eq_false_iff, Bool.or_eq_false_iff, Int.not_lt, Int.not_le] at hg88')
                    refine AD0.takeSkip (i := 11) rfl (by kernel_rfl) (by kernel_rfl) (by kernel_rfl) (by repeat (first | exact NP.body | apply NP.then | apply NP.cut | apply NP.inBlock | apply NP.round)) (wants_F rfl rfl rfl lk (by first | rfl | assumption)) rfl ?_
                    refine AD0.takeSkip (i := 12) rfl (by kernel_rfl) (by kernel_rfl) (by kernel_rfl) (by repeat (first | exact NP.body | apply NP.then | apply NP.cut | apply NP.inBlock | apply NP.round)) (wants_F rfl rfl rfl lk (by first | rfl | assumption)) rfl ?_
                    refine AD0.takeSkip (i := 13) rfl (by kernel_rfl) (by kernel_rfl) (by kernel_rfl) (by repeat (first | exact NP.body | apply NP.then | apply NP.cut | apply NP.inBlock | apply NP.round)) (wants_F rfl rfl rfl lk (by first | rfl | assumption)) rfl ?_
                    refine AD0.takeSkip (i := 14) rfl (by kernel_rfl) (by kernel_rfl) (by kernel_rfl) (by repeat (first | exact NP.body | apply NP.then | apply NP.cut | apply NP.inBlock | apply NP.round)) (wants_F rfl rfl rfl lk (by first | rfl | assumption)) rfl ?_
                    refine AD0.takeSkip (i := 15) rfl (by kernel_rfl) (by kernel_rfl) (by kernel_rfl) (by repeat (first | exact NP.body | apply NP.then | apply NP.cut | apply NP.inBlock | apply NP.round)) (wants_F rfl rfl rfl lk (by first | rfl | assumption)) rfl ?_
                    refine AD0.takeSkip (i := 16) rfl (by kernel_rfl) (by kernel_rfl) (by kernel_rfl) (by repeat (first | exact NP.body | apply NP.then | apply NP.cut | apply NP.inBlock | apply NP.round)) (wants_F rfl rfl rfl lk (by first | rfl | assumption)) rfl ?_
                    refine AD0.takeSkip (i := 17) rfl (by kernel_rfl) (by kernel_rfl) (by kernel_rfl) (by repeat (first | exact NP.body | apply NP.then | apply NP.cut | apply NP.inBlock | apply NP.round)) (wants_F rfl rfl rfl lk (by first | rfl | assumption)) rfl ?_
                    refine AD0.takeSkip (i := 18) rfl (by kernel_rfl) (by kernel_rfl) (by kernel_rfl) (by repeat (first | exact NP.body | apply NP.then | apply NP.cut | apply NP.inBlock | apply NP.round)) (wants_F rfl rfl rfl lk (by first | rfl | assumption)) rfl ?_
                    refine AD0.takeSkip (i := 19) rfl (by kernel_rfl) (by kernel_rfl) (by kernel_rfl) (by repeat (first | exact NP.body | apply NP.then | apply NP.cut | apply NP.inBlock | apply NP.round)) (wants_F rfl rfl rfl lk (by first | rfl | assumption)) rfl ?_
                    refine AD0.takeSkip (i := 20) rfl (by kernel_rfl) (by kernel_rfl) (by kernel_rfl) (by repeat (first | exact NP.body | apply NP.then | apply NP.cut | apply NP.inBlock | apply NP.round)) (wants_F rfl rfl rfl lk (by first | rfl | assumption)) rfl ?_
                    refine AD0.takeSkip (i := 21) rfl (by kernel_rfl) (by kernel_rfl) (by kernel_rfl) (by repeat (first | exact NP.body | apply NP.then | apply NP.cut | apply NP.inBlock | apply NP.round)) (wants_F rfl rfl rfl lk (by first | rfl | assumption)) rfl ?_
                    refine AD0.takeSkip (i := 22) rfl (by kernel_rfl) (by kernel_rfl) (by kernel_rfl) (by repeat (first | exact NP.body | apply NP.then | apply NP.cut | apply NP.inBlock | apply NP.round)) (wants_F rfl rfl rfl lk (by first | rfl | assumption)) rfl ?_
                    refine AD0.takeSkip (i := 23) rfl (by kernel_rfl) (by kernel_rfl) (by kernel_rfl) (by repeat (first | exact NP.body | apply NP.then | apply NP.cut | apply NP.inBlock | apply NP.round)) (wants_F rfl rfl rfl lk (by first | rfl | assumption)) rfl ?_
                    refine AD0.take (i := 24) rfl (by kernel_rfl) (by kernel_rfl) (by kernel_rfl) (by repeat (first | exact NP.body | apply NP.then | apply NP.cut | apply NP.inBlock | apply NP.round)) (wants_T rfl rfl rfl lk (by first | rfl | assumption)) rfl (still_pickF rfl ot (by first | rfl | assumption) opd_const) (by exact trivial) ?_
                    refine AD0.take (i := 25) rfl (by kernel_rfl) (by kernel_rfl) (by kernel_rfl) (by repeat (first | exact NP.body | apply NP.then | apply NP.cut | apply NP.inBlock | apply NP.round)) (wants_plain rfl) rfl (still_pickF rfl ot (by first | rfl | assumption) ot) (by exact trivial) ?_
                    refine AD0.take (i := 26) rfl (by kernel_rfl) (by kernel_rfl) (by kernel_rfl) (by repeat (first | exact NP.body | apply NP.then | apply NP.cut | apply NP.inBlock | apply NP.round)) (wants_plain rfl) rfl (still_as rfl ot) (by exact trivial) ?_
                    refine AD0.later rfl ?_
                    refine AD.wk (y := ⟨132, [(3, _), (4, _), (6, _), (7, _), (8, _), (9, _), (10, _)], [⟨b3, 25, 2, [_, _]⟩]⟩) (Wk.as_ rfl rfl ⟨lk, lk, lk, lk, lk, lk, lk, trivial⟩) rfl ?_
                    refine AD.done (by kernel_rfl) ?_
                    refine CD.region ?_
                    refine OD.still (wants_plain rfl) rfl (still_mv rfl ot) ?_
                    refine OD.still (wants_plain rfl) rfl (still_bin rfl ot opd_const (bin_add (wrap_i64 (by omega) (by omega)))) ?_
                    refine OD.still (wants_plain rfl) rfl (still_as rfl ot) ?_
                    refine OD.wk (Wk.as_ (n := 132) (l' := [(3, _), (4, _), (6, _), (7, _), (8, _), (9, _), (10, _)]) (S' := [⟨b3, 25, 2, [_, _]⟩]) rfl rfl ⟨lk, lk, lk, lk, lk, lk, lk, trivial⟩) ?_
                    refine OD.nil ?_
                    refine ⟨(k + 1), ⟨132, [(3, .v (.pointer (some ⟨b3, 0, none⟩))), (4, .list 1 ((waitsAll held queue).flatMap cII) (waitsAll held queue).length), (6, .v (.int .i64 (i : Nat))), (7, .v (.int .i64 (j : Nat))), (8, .v (.int .i64 (waitsAll held queue)[i][j])), (9, .v (.bool (decide (modeF held (waitsAll held queue)[i][j] queue[i].th > 0) || aheadB queue ((k + 1)) (waitsAll held queue)[i][j] queue[i]))), (10, .v (.int .i64 (((k + 1)) : Nat)))], [⟨b3, 25, 2, [.list 3 (held.flatMap cL) held.length, .list 3 (queue.flatMap cL) queue.length]⟩]⟩, ?_, Wk.asS (n := 132) rfl (by repeat (first | exact List.Sublist.refl _ | apply List.Sublist.cons)) ⟨(by (repeat (first | exact look_hit | (apply look_at; focus (first | rfl | (congr 2; omega) | (refine vb ?_; simp [aheadB]; done) | (refine vb ?_; rw [← hst, hg79]; simp; done) | (refine vb ?_; rw [← hst, hg79, hg88]; simp; done) | (refine vb ?_; rw [← hst, hg79]; simp_all; done) | (simp; done))) | (apply look_miss; focus rfl))); done), (by (repeat (first | exact look_hit | (apply look_at; focus (first | rfl | (congr 2; omega) | (refine vb ?_; simp [aheadB]; done) | (refine vb ?_; rw [← hst, hg79]; simp; done) | (refine vb ?_; rw [← hst, hg79, hg88]; simp; done) | (refine vb ?_; rw [← hst, hg79]; simp_all; done) | (simp; done))) | (apply look_miss; focus rfl))); done), (by (repeat (first | exact look_hit | (apply look_at; focus (first | rfl | (congr 2; omega) | (refine vb ?_; simp [aheadB]; done) | (refine vb ?_; rw [← hst, hg79]; simp; done) | (refine vb ?_; rw [← hst, hg79, hg88]; simp; done) | (refine vb ?_; rw [← hst, hg79]; simp_all; done) | (simp; done))) | (apply look_miss; focus rfl))); done), (by (repeat (first | exact look_hit | (apply look_at; focus (first | rfl | (congr 2; omega) | (refine vb ?_; simp [aheadB]; done) | (refine vb ?_; rw [← hst, hg79]; simp; done) | (refine vb ?_; rw [← hst, hg79, hg88]; simp; done) | (refine vb ?_; rw [← hst, hg79]; simp_all; done) | (simp; done))) | (apply look_miss; focus rfl))); done), (by (repeat (first | exact look_hit | (apply look_at; focus (first | rfl | (congr 2; omega) | (refine vb ?_; simp [aheadB]; done) | (refine vb ?_; rw [← hst, hg79]; simp; done) | (refine vb ?_; rw [← hst, hg79, hg88]; simp; done) | (refine vb ?_; rw [← hst, hg79]; simp_all; done) | (simp; done))) | (apply look_miss; focus rfl))); done), (by (repeat (first | exact look_hit | (apply look_at; focus (first | rfl | (congr 2; omega) | (refine vb ?_; simp [aheadB]; done) | (refine vb ?_; rw [← hst, hg79]; simp; done) | (refine vb ?_; rw [← hst, hg79, hg88]; simp; done) | (refine vb ?_; rw [← hst, hg79]; simp_all; done) | (simp; done))) | (apply look_miss; focus rfl))); done), (by (repeat (first | exact look_hit | (apply look_at; focus (first | rfl | (congr 2; omega) | (refine vb ?_; simp [aheadB]; done) | (refine vb ?_; rw [← hst, hg79]; simp; done) | (refine vb ?_; rw [← hst, hg79, hg88]; simp; done) | (refine vb ?_; rw [← hst, hg79]; simp_all; done) | (simp; done))) | (apply look_miss; focus rfl))); done), trivial⟩, (by omega), rfl⟩
                    first | omega | (simp only []; omega)
              · have hc4' := hc4
                (try simp only [decide_eq_true_eq, decide_eq_false_iff_not, beq_iff_eq, bne_iff_ne, Bool.not_eq_true', Bool.not_eq_false', Bool.not_eq_true, Bool.not_eq_false, beq_eq_false_iff_ne, ne_eq, bne_eq_false_iff_eq, Bool.and_eq_true, Bool.or_eq_true, Bool.not_not, Bool.and_eq_false_iff, Bool.or_eq_false_iff, Int.not_lt, Int.not_le] at hc4')
                have hki : k = i := by omega
                have hok2 : (decide (modeF held (waitsAll held queue)[i][j] queue[i].th > 0) || aheadB queue k (waitsAll held queue)[i][j] queue[i]) = true := by rw [hki]; exact hok
                refine CD.exit ?_
                refine CD.seq ?_
                refine CD.region ?_
                refine OD.still (wants_plain rfl) rfl (still_mv rfl ot) ?_
                refine OD.still (wants_plain rfl) rfl (still_un rfl ot un_not) ?_
                refine OD.still (wants_plain rfl) rfl (still_mv rfl ot) ?_
                refine OD.split (t := 106) lk (fun hg106 => ?_) (fun hg106 => ?_)
                · exact absurd hg106 (by simp [hok2])
                · have hg106' := hg106; (try simp only [decide_eq_true_eq, decide_eq_false_iff_not, beq_iff_eq, bne_iff_ne, Bool.not_eq_true', Bool.not_eq_false', Bool.not_eq_true, Bool.not_eq_false, beq_eq_false_iff_ne, ne_eq, bne_eq_false_iff_eq, Bool.and_eq_true, Bool.or_eq_true, Bool.not_not] at hg106')
                  refine OD.still (wants_T rfl rfl rfl lk (by first | rfl | assumption)) rfl (still_mv rfl ot) ?_
                  refine OD.still (wants_T rfl rfl rfl lk (by first | rfl | assumption)) rfl (still_r1 (mk := fun y => Op.fieldAddr 25 y 1) rfl ot (by first | exact fa_ptr (off := 1) Tryd.runUnderlying25 rfl Tryd.sizeOf23 rfl | exact fa_iptr (off := 1) Tryd.runUnderlying25 rfl Tryd.sizeOf23 rfl)) ?_
                  refine OD.still (wants_T rfl rfl rfl lk (by first | rfl | assumption)) rfl (still_r1 (mk := Op.load 23) rfl ot (by first | exact ld_blk (k := 0) rfl rfl Tryd.isAgg23 rfl | exact ld_fm cW_len Tryd.isAgg23 (by first | assumption | omega) rfl | exact ld_fm0 cW_len Tryd.isAgg23 (by first | assumption | omega) rfl | exact ld_fm cL_len Tryd.isAgg23 (by first | assumption | omega) rfl | exact ld_fm0 cL_len Tryd.isAgg23 (by first | assumption | omega) rfl | exact ld_fm cI_len Tryd.isAgg23 (by first | assumption | omega) rfl | exact ld_fm0 cI_len Tryd.isAgg23 (by first | assumption | omega) rfl | exact ld_fm cII_len Tryd.isAgg23 (by first | assumption | omega) rfl | exact ld_fm0 cII_len Tryd.isAgg23 (by first | assumption | omega) rfl | exact ld_row (k := 0) cW_len rfl rfl rfl Tryd.isAgg23 (by first | assumption | omega) rfl | exact ld_row0 (k := 0) cW_len rfl rfl rfl Tryd.isAgg23 (by first | assumption | omega) rfl | exact ld_row (k := 0) cL_len rfl rfl rfl Tryd.isAgg23 (by first | assumption | omega) rfl | exact ld_row0 (k := 0) cL_len rfl rfl rfl Tryd.isAgg23 (by first | assumption | omega) rfl | exact ld_row (k := 0) cI_len rfl rfl rfl Tryd.isAgg23 (by first | assumption | omega) rfl | exact ld_row0 (k := 0) cI_len rfl rfl rfl Tryd.isAgg23 (by first | assumption | omega) rfl | exact ld_row (k := 0) cII_len rfl rfl rfl Tryd.isAgg23 (by first | assumption | omega) rfl | exact ld_row0 (k := 0) cII_len rfl rfl rfl Tryd.isAgg23 (by first | assumption | omega) rfl | exact ld_i Tryd.isAgg23 rfl)) ?_
                  refine OD.still (wants_T rfl rfl rfl lk (by first | rfl | assumption)) rfl (still_mv rfl ot) ?_
                  refine OD.still (wants_T rfl rfl rfl lk (by first | rfl | assumption)) rfl (still_r2 (mk := Op.indexAddr 23) rfl ot ot (by first | exact ix_list Tryd.runUnderlying23 Tryd.sizeOf27 rfl (by first | assumption | omega) | exact ix_list (j := Int.toNat _) Tryd.runUnderlying23 Tryd.sizeOf27 (Int.toNat_of_nonneg (by omega)).symm (by omega) | exact ix_row Tryd.runUnderlying23 Tryd.sizeOf27 rfl (by first | assumption | omega) | exact ix_row (j := Int.toNat _) Tryd.runUnderlying23 Tryd.sizeOf27 (Int.toNat_of_nonneg (by omega)).symm (by omega))) ?_
                  refine OD.still (wants_T rfl rfl rfl lk (by first | rfl | assumption)) rfl (still_r1 (mk := fun y => Op.fieldAddr 27 y 0) rfl ot (by first | exact fa_ptr (off := 0) Tryd.runUnderlying27 rfl Tryd.sizeOf3 rfl | exact fa_iptr (off := 0) Tryd.runUnderlying27 rfl Tryd.sizeOf3 rfl)) ?_
                  refine OD.still (wants_T rfl rfl rfl lk (by first | rfl | assumption)) rfl (still_r1 (mk := Op.load 3) rfl ot (by first | exact ld_blk (k := 0) rfl rfl Tryd.isAgg3 rfl | exact ld_fm cW_len Tryd.isAgg3 (by first | assumption | omega) rfl | exact ld_fm0 cW_len Tryd.isAgg3 (by first | assumption | omega) rfl | exact ld_fm cL_len Tryd.isAgg3 (by first | assumption | omega) rfl | exact ld_fm0 cL_len Tryd.isAgg3 (by first | assumption | omega) rfl | exact ld_fm cI_len Tryd.isAgg3 (by first | assumption | omega) rfl | exact ld_fm0 cI_len Tryd.isAgg3 (by first | assumption | omega) rfl | exact ld_fm cII_len Tryd.isAgg3 (by first | assumption | omega) rfl | exact ld_fm0 cII_len Tryd.isAgg3 (by first | assumption | omega) rfl | exact ld_row (k := 0) cW_len rfl rfl rfl Tryd.isAgg3 (by first | assumption | omega) rfl | exact ld_row0 (k := 0) cW_len rfl rfl rfl Tryd.isAgg3 (by first | assumption | omega) rfl | exact ld_row (k := 0) cL_len rfl rfl rfl Tryd.isAgg3 (by first | assumption | omega) rfl | exact ld_row0 (k := 0) cL_len rfl rfl rfl Tryd.isAgg3 (by first | assumption | omega) rfl | exact ld_row (k := 0) cI_len rfl rfl rfl Tryd.isAgg3 (by first | assumption | omega) rfl | exact ld_row0 (k := 0) cI_len rfl rfl rfl Tryd.isAgg3 (by first | assumption | omega) rfl | exact ld_row (k := 0) cII_len rfl rfl rfl Tryd.isAgg3 (by first | assumption | omega) rfl | exact ld_row0 (k := 0) cII_len rfl rfl rfl Tryd.isAgg3 (by first | assumption | omega) rfl | exact ld_i Tryd.isAgg3 rfl)) ?_
                  refine OD.still (wants_T rfl rfl rfl lk (by first | rfl | assumption)) rfl (still_bin rfl ot ot bin_eql) ?_
                  refine OD.still (wants_plain rfl) rfl (still_pickF rfl ot (by first | rfl | assumption) ot) ?_
                  refine OD.still (wants_plain rfl) rfl (still_mv rfl ot) ?_
                  refine OD.split (t := 116) lk (fun hg116 => ?_) (fun hg116 => ?_)
                  · exact absurd hg116 (by simp [u1])
                  · have hg116' := hg116; (try simp only [decide_eq_true_eq, decide_eq_false_iff_not, beq_iff_eq, bne_iff_ne, Bool.not_eq_true', Bool.not_eq_false', Bool.not_eq_true, Bool.not_eq_false, beq_eq_false_iff_ne, ne_eq, bne_eq_false_iff_eq, Bool.and_eq_true, Bool.or_eq_true, Bool.not_not] at hg116')
                    refine OD.still (wants_T rfl rfl rfl lk (by first | rfl | assumption)) rfl (still_mv rfl ot) ?_
                    refine OD.still (wants_T rfl rfl rfl lk (by first | rfl | assumption)) rfl (still_bin rfl ot opd_const bin_gtr) ?_
                    refine OD.still (wants_T rfl rfl rfl lk (by first | rfl | assumption)) rfl (still_mv rfl ot) ?_
                    refine OD.split (t := 119) lk (fun hg119 => ?_) (fun hg119 => ?_)
                    · have hg119' := hg119; (try simp only [decide_eq_true_eq, decide_eq_false_iff_not, beq_iff_eq, bne_iff_ne, Bool.not_eq_true', Bool.not_eq_false', Bool.not_eq_true, Bool.not_eq_false, beq_eq_false_iff_ne, ne_eq, bne_eq_false_iff_eq, Bool.and_eq_true, Bool.or_eq_true, Bool.not_not] at hg119')
                      refine OD.still (wants_T rfl rfl rfl lk (by first | rfl | assumption)) rfl (still_mv rfl ot) ?_
                      refine OD.still (wants_T rfl rfl rfl lk (by first | rfl | assumption)) rfl (still_mv rfl ot) ?_
                      refine OD.still (wants_T rfl rfl rfl lk (by first | rfl | assumption)) rfl (still_mv rfl ot) ?_
                      refine OD.still (wants_T rfl rfl rfl lk (by first | rfl | assumption)) rfl (still_r2 (mk := Op.indexAddr 50) rfl ot ot (by first | exact ix_list Tryd.runUnderlying50 Tryd.sizeOf34 rfl (by first | assumption | omega) | exact ix_list (j := Int.toNat _) Tryd.runUnderlying50 Tryd.sizeOf34 (Int.toNat_of_nonneg (by omega)).symm (by omega) | exact ix_row Tryd.runUnderlying50 Tryd.sizeOf34 rfl (by first | assumption | omega) | exact ix_row (j := Int.toNat _) Tryd.runUnderlying50 Tryd.sizeOf34 (Int.toNat_of_nonneg (by omega)).symm (by omega))) ?_
                      refine OD.still (wants_T rfl rfl rfl lk (by first | rfl | assumption)) rfl (still_r1 (mk := Op.load 34) rfl ot (by first | exact ld_blk (k := 0) rfl rfl Tryd.isAgg34 rfl | exact ld_fm cW_len Tryd.isAgg34 (by first | assumption | omega) rfl | exact ld_fm0 cW_len Tryd.isAgg34 (by first | assumption | omega) rfl | exact ld_fm cL_len Tryd.isAgg34 (by first | assumption | omega) rfl | exact ld_fm0 cL_len Tryd.isAgg34 (by first | assumption | omega) rfl | exact ld_fm cI_len Tryd.isAgg34 (by first | assumption | omega) rfl | exact ld_fm0 cI_len Tryd.isAgg34 (by first | assumption | omega) rfl | exact ld_fm cII_len Tryd.isAgg34 (by first | assumption | omega) rfl | exact ld_fm0 cII_len Tryd.isAgg34 (by first | assumption | omega) rfl | exact ld_row (k := 0) cW_len rfl rfl rfl Tryd.isAgg34 (by first | assumption | omega) rfl | exact ld_row0 (k := 0) cW_len rfl rfl rfl Tryd.isAgg34 (by first | assumption | omega) rfl | exact ld_row (k := 0) cL_len rfl rfl rfl Tryd.isAgg34 (by first | assumption | omega) rfl | exact ld_row0 (k := 0) cL_len rfl rfl rfl Tryd.isAgg34 (by first | assumption | omega) rfl | exact ld_row (k := 0) cI_len rfl rfl rfl Tryd.isAgg34 (by first | assumption | omega) rfl | exact ld_row0 (k := 0) cI_len rfl rfl rfl Tryd.isAgg34 (by first | assumption | omega) rfl | exact ld_row (k := 0) cII_len rfl rfl rfl Tryd.isAgg34 (by first | assumption | omega) rfl | exact ld_row0 (k := 0) cII_len rfl rfl rfl Tryd.isAgg34 (by first | assumption | omega) rfl | exact ld_i Tryd.isAgg34 rfl)) ?_
                      refine OD.still (wants_T rfl rfl rfl lk (by first | rfl | assumption)) rfl (still_mv rfl ot) ?_
                      refine OD.still (wants_T rfl rfl rfl lk (by first | rfl | assumption)) rfl (still_bin rfl ot opd_const (bin_sub (wrap_i64 (by omega) (by omega)))) ?_
                      refine OD.still (wants_T rfl rfl rfl lk (by first | rfl | assumption)) rfl (still_r2 (mk := Op.indexAddr 34) rfl ot ot (by first | exact ix_list Tryd.runUnderlying34 Tryd.sizeOf3 rfl (by first | assumption | omega) | exact ix_list (j := Int.toNat _) Tryd.runUnderlying34 Tryd.sizeOf3 (Int.toNat_of_nonneg (by omega)).symm (by omega) | exact ix_row Tryd.runUnderlying34 Tryd.sizeOf3 rfl (by first | assumption | omega) | exact ix_row (j := Int.toNat _) Tryd.runUnderlying34 Tryd.sizeOf3 (Int.toNat_of_nonneg (by omega)).symm (by omega))) ?_
                      refine OD.still (wants_T rfl rfl rfl lk (by first | rfl | assumption)) rfl (still_r1 (mk := Op.load 3) rfl ot (by first | exact ld_blk (k := 0) rfl rfl Tryd.isAgg3 rfl | exact ld_fm cW_len Tryd.isAgg3 (by first | assumption | omega) rfl | exact ld_fm0 cW_len Tryd.isAgg3 (by first | assumption | omega) rfl | exact ld_fm cL_len Tryd.isAgg3 (by first | assumption | omega) rfl | exact ld_fm0 cL_len Tryd.isAgg3 (by first | assumption | omega) rfl | exact ld_fm cI_len Tryd.isAgg3 (by first | assumption | omega) rfl | exact ld_fm0 cI_len Tryd.isAgg3 (by first | assumption | omega) rfl | exact ld_fm cII_len Tryd.isAgg3 (by first | assumption | omega) rfl | exact ld_fm0 cII_len Tryd.isAgg3 (by first | assumption | omega) rfl | exact ld_row (k := 0) cW_len rfl rfl rfl Tryd.isAgg3 (by first | assumption | omega) rfl | exact ld_row0 (k := 0) cW_len rfl rfl rfl Tryd.isAgg3 (by first | assumption | omega) rfl | exact ld_row (k := 0) cL_len rfl rfl rfl Tryd.isAgg3 (by first | assumption | omega) rfl | exact ld_row0 (k := 0) cL_len rfl rfl rfl Tryd.isAgg3 (by first | assumption | omega) rfl | exact ld_row (k := 0) cI_len rfl rfl rfl Tryd.isAgg3 (by first | assumption | omega) rfl | exact ld_row0 (k := 0) cI_len rfl rfl rfl Tryd.isAgg3 (by first | assumption | omega) rfl | exact ld_row (k := 0) cII_len rfl rfl rfl Tryd.isAgg3 (by first | assumption | omega) rfl | exact ld_row0 (k := 0) cII_len rfl rfl rfl Tryd.isAgg3 (by first | assumption | omega) rfl | exact ld_i Tryd.isAgg3 rfl)) ?_
                      refine OD.still (wants_T rfl rfl rfl lk (by first | rfl | assumption)) rfl (still_bin rfl ot ot bin_leq) ?_
                      refine OD.still (wants_T rfl rfl rfl lk (by first | rfl | assumption)) rfl (still_pickT rfl ot (by first | rfl | assumption) ot) ?_
                      refine OD.still (wants_plain rfl) rfl (still_pickF rfl ot (by first | rfl | assumption) ot) ?_
                      refine OD.wk (Wk.as_ (n := 132) (l' := [(3, _), (4, _), (6, _), (7, _), (131, _)]) (S' := [⟨b3, 25, 2, [_, _]⟩]) rfl rfl ⟨lk, lk, lk, lk, lk, trivial⟩) ?_
                      refine OD.nil ?_
                      refine CD.cond ot (fun hc5 => ?_) (fun hc5 => ?_)
                      · exact absurd hc5 (by first | (simp; done) | (have hpw := List.pairwise_iff_getElem.1 t2 (j - 1) j (by omega) hjl (by omega); simp_all; omega))
                      · have hc5' := hc5
                        (try simp only [decide_eq_true_eq, decide_eq_false_iff_not, beq_iff_eq, bne_iff_ne, Bool.not_eq_true', Bool.not_eq_false', Bool.not_eq_true, Bool.not_eq_false, beq_eq_false_iff_ne, ne_eq, bne_eq_false_iff_eq, Bool.and_eq_true, Bool.or_eq_true, Bool.not_not, Bool.and_eq_false_iff, Bool.or_eq_false_iff, Int.not_lt, Int.not_le] at hc5')
                        refine CD.skip ?_
                        refine CD.region ?_
                        refine OD.still (wants_plain rfl) rfl (still_mv rfl ot) ?_
                        refine OD.still (wants_plain rfl) rfl (still_bin rfl ot opd_const (bin_add (wrap_i64 (by omega) (by omega)))) ?_
                        refine OD.still (wants_plain rfl) rfl (still_as rfl ot) ?_
                        refine OD.wk (Wk.as_ (n := 132) (l' := [(3, _), (4, _), (6, _), (7, _)]) (S' := [⟨b3, 25, 2, [_, _]⟩]) rfl rfl ⟨lk, lk, lk, lk, trivial⟩) ?_
                        refine OD.nil ?_
                        refine ⟨(j + 1), ⟨132, [(3, .v (.pointer (some ⟨b3, 0, none⟩))), (4, .list 1 ((waitsAll held queue).flatMap cII) (waitsAll held queue).length), (6, .v (.int .i64 (i : Nat))), (7, .v (.int .i64 (((j + 1)) : Nat)))], [⟨b3, 25, 2, [.list 3 (held.flatMap cL) held.length, .list 3 (queue.flatMap cL) queue.length]⟩]⟩, ?_, Wk.asS (n := 132) rfl (by repeat (first | exact List.Sublist.refl _ | apply List.Sublist.cons)) ⟨(by (repeat (first | exact look_hit | (apply look_at; focus (first | rfl | (simp; done) | (congr 2; omega))) | (apply look_miss; focus rfl))); done), (by (repeat (first | exact look_hit | (apply look_at; focus (first | rfl | (simp; done) | (congr 2; omega))) | (apply look_miss; focus rfl))); done), (by (repeat (first | exact look_hit | (apply look_at; focus (first | rfl | (simp; done) | (congr 2; omega))) | (apply look_miss; focus rfl))); done), (by (repeat (first | exact look_hit | (apply look_at; focus (first | rfl | (simp; done) | (congr 2; omega))) | (apply look_miss; focus rfl))); done), trivial⟩, (by omega), rfl⟩
                        first | omega | (simp only []; omega)
                    · have hg119' := hg119; (try simp only [decide_eq_true_eq, decide_eq_false_iff_not, beq_iff_eq, bne_iff_ne, Bool.not_eq_true', Bool.not_eq_false', Bool.not_eq_true, Bool.not_eq_false, beq_eq_false_iff_ne, ne_eq, bne_eq_false_iff_eq, Bool.and_eq_true, Bool.or_eq_true, Bool.not_not] at hg119')
                      refine OD.skip (wants_F rfl rfl rfl lk (by first | rfl | assumption)) rfl ?_
                      refine OD.skip (wants_F rfl rfl rfl lk (by first | rfl | assumption)) rfl ?_
                      refine OD.skip (wants_F rfl rfl rfl lk (by first | rfl | assumption)) rfl ?_
                      refine OD.skip (wants_F rfl rfl rfl lk (by first | rfl | assumption)) rfl ?_
                      refine OD.skip (wants_F rfl rfl rfl lk (by first | rfl | assumption)) rfl ?_
                      refine OD.skip (wants_F rfl rfl rfl lk (by first | rfl | assumption)) rfl ?_
                      refine OD.skip (wants_F rfl rfl rfl lk (by first | rfl | assumption)) rfl ?_
                      refine OD.skip (wants_F rfl rfl rfl lk (by first | rfl | assumption)) rfl ?_
                      refine OD.skip (wants_F rfl rfl rfl lk (by first | rfl | assumption)) rfl ?_
                      refine OD.skip (wants_F rfl rfl rfl lk (by first | rfl | assumption)) rfl ?_
                      refine OD.still (wants_T rfl rfl rfl lk (by first | rfl | assumption)) rfl (still_pickF rfl ot (by first | rfl | assumption) opd_const) ?_
                      refine OD.still (wants_plain rfl) rfl (still_pickF rfl ot (by first | rfl | assumption) ot) ?_
                      refine OD.wk (Wk.as_ (n := 132) (l' := [(3, _), (4, _), (6, _), (7, _), (131, _)]) (S' := [⟨b3, 25, 2, [_, _]⟩]) rfl rfl ⟨lk, lk, lk, lk, lk, trivial⟩) ?_
                      refine OD.nil ?_
                      refine CD.condF ot (by first | rfl | assumption) ?_
                      refine CD.skip ?_
                      refine CD.region ?_
                      refine OD.still (wants_plain rfl) rfl (still_mv rfl ot) ?_
                      refine OD.still (wants_plain rfl) rfl (still_bin rfl ot opd_const (bin_add (wrap_i64 (by omega) (by omega)))) ?_
                      refine OD.still (wants_plain rfl) rfl (still_as rfl ot) ?_
                      refine OD.wk (Wk.as_ (n := 132) (l' := [(3, _), (4, _), (6, _), (7, _)]) (S' := [⟨b3, 25, 2, [_, _]⟩]) rfl rfl ⟨lk, lk, lk, lk, trivial⟩) ?_
                      refine OD.nil ?_
                      refine ⟨(j + 1), ⟨132, [(3, .v (.pointer (some ⟨b3, 0, none⟩))), (4, .list 1 ((waitsAll held queue).flatMap cII) (waitsAll held queue).length), (6, .v (.int .i64 (i : Nat))), (7, .v (.int .i64 (((j + 1)) : Nat)))], [⟨b3, 25, 2, [.list 3 (held.flatMap cL) held.length, .list 3 (queue.flatMap cL) queue.length]⟩]⟩, ?_, Wk.asS (n := 132) rfl (by repeat (first | exact List.Sublist.refl _ | apply List.Sublist.cons)) ⟨(by (repeat (first | exact look_hit | (apply look_at; focus (first | rfl | (simp; done) | (congr 2; omega))) | (apply look_miss; focus rfl))); done), (by (repeat (first | exact look_hit | (apply look_at; focus (first | rfl | (simp; done) | (congr 2; omega))) | (apply look_miss; focus rfl))); done), (by (repeat (first | exact look_hit | (apply look_at; focus (first | rfl | (simp; done) | (congr 2; omega))) | (apply look_miss; focus rfl))); done), (by (repeat (first | exact look_hit | (apply look_at; focus (first | rfl | (simp; done) | (congr 2; omega))) | (apply look_miss; focus rfl))); done), trivial⟩, (by omega), rfl⟩
                      first | omega | (simp only []; omega)
            · have hc3' := hc3
              (try simp only [decide_eq_true_eq, decide_eq_false_iff_not, beq_iff_eq, bne_iff_ne, Bool.not_eq_true', Bool.not_eq_false', Bool.not_eq_true, Bool.not_eq_false, beq_eq_false_iff_ne, ne_eq, bne_eq_false_iff_eq, Bool.and_eq_true, Bool.or_eq_true, Bool.not_not, Bool.and_eq_false_iff, Bool.or_eq_false_iff, Int.not_lt, Int.not_le] at hc3')
              refine CD.exit ?_
              refine CD.region ?_
              refine OD.still (wants_plain rfl) rfl (still_mv rfl ot) ?_
              refine OD.still (wants_plain rfl) rfl (still_bin rfl ot opd_const (bin_add (wrap_i64 (by omega) (by omega)))) ?_
              refine OD.still (wants_plain rfl) rfl (still_as rfl ot) ?_
              refine OD.wk (Wk.as_ (n := 132) (l' := [(3, _), (4, _), (6, _)]) (S' := [⟨b3, 25, 2, [_, _]⟩]) rfl rfl ⟨lk, lk, lk, trivial⟩) ?_
              refine OD.nil ?_
              refine ⟨(i + 1), ⟨132, [(3, .v (.pointer (some ⟨b3, 0, none⟩))), (4, .list 1 ((waitsAll held queue).flatMap cII) (waitsAll held queue).length), (6, .v (.int .i64 (((i + 1)) : Nat)))], [⟨b3, 25, 2, [.list 3 (held.flatMap cL) held.length, .list 3 (queue.flatMap cL) queue.length]⟩]⟩, ?_, Wk.asS (n := 132) rfl (by repeat (first | exact List.Sublist.refl _ | apply List.Sublist.cons)) ⟨(by (repeat (first | exact look_hit | (apply look_at; focus (first | rfl | (simp; done) | (congr 2; omega))) | (apply look_miss; focus rfl))); done), (by (repeat (first | exact look_hit | (apply look_at; focus (first | rfl | (simp; done) | (congr 2; omega))) | (apply look_miss; focus rfl))); done), (by (repeat (first | exact look_hit | (apply look_at; focus (first | rfl | (simp; done) | (congr 2; omega))) | (apply look_miss; focus rfl))); done), trivial⟩, (by omega), rfl⟩
              first | omega | (simp only []; omega)
        · have hc1' := hc1
          (try simp only [decide_eq_true_eq, decide_eq_false_iff_not, beq_iff_eq, bne_iff_ne, Bool.not_eq_true', Bool.not_eq_false', Bool.not_eq_true, Bool.not_eq_false, beq_eq_false_iff_ne, ne_eq, bne_eq_false_iff_eq, Bool.and_eq_true, Bool.or_eq_true, Bool.not_not, Bool.and_eq_false_iff, Bool.or_eq_false_iff, Int.not_lt, Int.not_le] at hc1')
          refine CD.exit ?_
          refine CD.seq ?_
          refine CD.region ?_
          refine OD.still (wants_plain rfl) rfl (still_as rfl opd_const) ?_
          refine OD.wk (Wk.as_ (n := 132) (l' := [(2, _)]) (S' := [⟨b3, 25, 2, [_, _]⟩]) rfl rfl ⟨lk, trivial⟩) ?_
          refine OD.nil ?_
          refine CD.ret ?_
          refine ⟨.inr rfl, _, [], List.nil_sublist _, ret_one Tryd.results12 (res_tmp (Nat.le_of_ble_eq_true rfl) lk), ?_⟩
          exact ⟨rfl, rfl⟩

theorem walkWaitsSomebody (l : List W3) (v : Value) (hok : ∀ x ∈ l, x.Ok) (w : World) (h1 : FitsTab w) (h2 : JoinsTab w) (hv : Rep w (fun _ => False) (.list 3 (l.flatMap cW) l.length) v) : Calls Tryd.prog 12 #[v] w fun e w' => e = .returned (.bool true) ∧ Below w.heap.size w w' :=
  (waitsSomebody_vp l hok).runL (tabs h1 h2) (vs := [v]) (RepL.cons hv ⟨rfl, fun i h => by simp at h⟩)

end Go.Proofs.YtcogdagfcndbfaaDoor.Lk
