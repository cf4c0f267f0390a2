/-
  What the proof of VictimsEnd leans on, part 4 of 4: walks of the program's functions at the level of values, and plain facts of what they compute.
-/
import Derived.Test.YtcogdagfcndbfaaDoorPVictimsEnd3
namespace Go.Proofs.YtcogdagfcndbfaaDoor.Lk
open Go.RowKit V
set_option linter.unusedVariables false
set_option linter.unusedSimpArgs false

/-- For whom one waits: who holds the thing and does not go with it, and, if one holds nothing of it, who stands ahead. -/
def waitsL (held pre : List L) (q : L) : List Int := (held.filter (clash q)).map L.t ++ (if findI held q.t q.th < 0 then (pre.filter (onTh q)).map L.t else [])
theorem filt_hit {p : L → Bool} {base : List Int} {l : List L} {i : Nat} (hi : i < l.length) (h : p l[i] = true) : (base ++ ((l.take i).filter p).map L.t) ++ [l[i].t] = base ++ ((l.take (i + 1)).filter p).map L.t := by
  rw [List.take_succ_eq_append_getElem hi, List.filter_append, List.map_append, List.append_assoc]; simp [h]
theorem filt_miss {p : L → Bool} {base : List Int} {l : List L} {i : Nat} (hi : i < l.length) (h : ¬ p l[i] = true) : base ++ ((l.take i).filter p).map L.t = base ++ ((l.take (i + 1)).filter p).map L.t := by
  rw [List.take_succ_eq_append_getElem hi, List.filter_append, List.map_append]; simp [h]
theorem filt_len {p : L → Bool} {l : List L} {i : Nat} : (((l.take i).filter p).map L.t).length ≤ l.length := by
  rw [List.length_map]; exact Nat.le_trans (List.length_filter_le _ _) (by rw [List.length_take]; omega)

theorem info3_Lkj : (Tryd.prog.info? 3).map (fun i => (i.zero, i.size, i.bytes)) = some (some (.int .i64 0), 1, 8) := by kernel_rfl

set_option maxHeartbeats 4000000 in
set_option maxRecDepth 100000 in
theorem waits_vc (held queue : List L) (i : Nat) (hi : i < queue.length) (hhs : ∀ h ∈ held, modeB h.m = true) (hqs : ∀ h ∈ queue, modeB h.m = true) (hh : held.length ≤ 1000) (hqq : queue.length ≤ 1000) : VC Tryd.prog TG 39 [locksS held queue, .v (.int .i64 (i : Int))] [] (RetL cI 3 1 (waitsL held (queue.take i) queue[i])) := by
  refine VC.body Tryd.func39 rfl Tryd.ntmps39 (Nat.le_of_ble_eq_true rfl) fun X0 w0 S00 => ?_
  have hmx : maxLen = 9223372036854775807 := rfl
  unfold locksS locksD
  obtain ⟨q, hq⟩ : ∃ q, queue[i] = q := ⟨_, rfl⟩
  obtain ⟨pre, hpre⟩ : ∃ p, queue.take i = p := ⟨_, rfl⟩
  have hqm := modeB_bd (hqs _ (List.getElem_mem hi))
  have hqm0 := hqm
  have hti : (queue.take i).length = i := by rw [List.length_take]; omega
  rw [hq] at hqm
  refine CD.seq ?_
  refine CD.region ?_
  refine OD.box (ds := [_, _]) (wants_plain rfl) rfl rfl ot rfl rfl (fun b2 => ?_)
  refine OD.still (wants_plain rfl) rfl (still_as rfl opd_const) ?_
  refine OD.wk (Wk.as_ (n := 80) (l' := [(1, _), (2, _)]) (S' := [⟨b2, 25, 2, [_, _]⟩]) rfl rfl ⟨lk, lk, trivial⟩) ?_
  refine OD.nil ?_
  refine CD.seq ?_
  refine CD.region ?_
  refine OD.still (wants_plain rfl) rfl (still_r1 (mk := fun y => Op.fieldAddr 25 y 1) rfl ot (by first | exact fa_ptr (off := 1) Tryd.runUnderlying25 rfl Tryd.sizeOf23 rfl | exact fa_iptr (off := 1) Tryd.runUnderlying25 rfl Tryd.sizeOf23 rfl)) ?_
  refine OD.still (wants_plain rfl) rfl (still_r1 (mk := Op.load 23) rfl ot (by first | exact ld_blk (k := 0) rfl rfl Tryd.isAgg23 rfl | exact ld_fm cL_len Tryd.isAgg23 (by first | assumption | omega) rfl | exact ld_fm0 cL_len Tryd.isAgg23 (by first | assumption | omega) rfl | exact ld_row (k := 0) cL_len rfl rfl rfl Tryd.isAgg23 (by first | assumption | omega) rfl | exact ld_row0 (k := 0) cL_len rfl rfl rfl Tryd.isAgg23 (by first | assumption | omega) rfl | exact ld_i Tryd.isAgg23 rfl | exact ld_tab (List.mem_cons_self) Tryd.isAgg23 (fitsC_off (by omega) (by omega) (by omega) (by omega)))) ?_
  refine OD.still (wants_plain rfl) rfl (still_mv rfl ot) ?_
  refine OD.still (wants_plain rfl) rfl (still_r2 (mk := Op.indexAddr 23) rfl ot ot (by first | exact ix_list Tryd.runUnderlying23 Tryd.sizeOf27 rfl (by first | assumption | omega) | exact ix_list (j := Int.toNat _) Tryd.runUnderlying23 Tryd.sizeOf27 (Int.toNat_of_nonneg (by omega)).symm (by omega) | exact ix_row Tryd.runUnderlying23 Tryd.sizeOf27 rfl (by first | assumption | omega) | exact ix_row (j := Int.toNat _) Tryd.runUnderlying23 Tryd.sizeOf27 (Int.toNat_of_nonneg (by omega)).symm (by omega))) ?_
  refine OD.still (wants_plain rfl) rfl (still_r1 (mk := Op.load 27) rfl ot (by first | exact ld_blks (k := 0) (ds := [_, _, _]) rfl rfl Tryd.isAgg27 Tryd.sizeOf27 rfl rfl | exact ld_fms cL_len Tryd.isAgg27 Tryd.sizeOf27 (by first | assumption | omega) | exact ld_rows (k := 0) cL_len rfl rfl rfl Tryd.isAgg27 Tryd.sizeOf27 (by first | assumption | omega) | exact ld_is (ds := [_, _, _]) Tryd.isAgg27 Tryd.sizeOf27 rfl rfl)) ?_
  refine OD.alloc (ds := [_, _, _]) (wants_plain rfl) rfl rfl Tryd.zeroValue27 rfl (fun b5 => ?_)
  refine OD.store (k := 0) (cs' := [_, _, _]) (wants_plain rfl) rfl rfl ot rfl rfl ot rfl rfl Tryd.sizeOf27 rfl rfl rfl ?_
  refine OD.wk (Wk.as_ (n := 80) (l' := [(1, _), (2, _), (5, _)]) (S' := [⟨b5, 27, 3, [_, _, _]⟩, ⟨b2, 25, 2, [_, _]⟩]) rfl rfl ⟨lk, lk, lk, trivial⟩) ?_
  refine OD.nil ?_
  refine CD.seq ?_
  refine CD.region ?_
  refine OD.still (wants_plain rfl) rfl (still_as rfl opd_const) ?_
  refine OD.wk (Wk.as_ (n := 80) (l' := [(1, _), (2, _), (5, _), (6, _)]) (S' := (⟨b5, 27, 3, [_, _, _]⟩ :: ⟨b2, 25, 2, [_, _]⟩ :: [])) rfl rfl ⟨lk, lk, lk, lk, trivial⟩) ?_
  refine OD.nil ?_
  refine CD.seq ?_
  refine CD.seq ?_
  refine CD.region ?_
  refine OD.still (wants_plain rfl) rfl (still_r1 (mk := fun y => Op.fieldAddr 25 y 0) rfl ot (by first | exact fa_ptr (off := 0) Tryd.runUnderlying25 rfl Tryd.sizeOf23 rfl | exact fa_iptr (off := 0) Tryd.runUnderlying25 rfl Tryd.sizeOf23 rfl)) ?_
  refine OD.still (wants_plain rfl) rfl (still_r1 (mk := Op.load 23) rfl ot (by first | exact ld_blk (k := 1) rfl rfl Tryd.isAgg23 rfl | exact ld_fm cL_len Tryd.isAgg23 (by first | assumption | omega) rfl | exact ld_fm0 cL_len Tryd.isAgg23 (by first | assumption | omega) rfl | exact ld_row (k := 0) cL_len rfl rfl rfl Tryd.isAgg23 (by first | assumption | omega) rfl | exact ld_row0 (k := 0) cL_len rfl rfl rfl Tryd.isAgg23 (by first | assumption | omega) rfl | exact ld_row (k := 1) cL_len rfl rfl rfl Tryd.isAgg23 (by first | assumption | omega) rfl | exact ld_row0 (k := 1) cL_len rfl rfl rfl Tryd.isAgg23 (by first | assumption | omega) rfl | exact ld_i Tryd.isAgg23 rfl | exact ld_tab (List.mem_cons_self) Tryd.isAgg23 (fitsC_off (by omega) (by omega) (by omega) (by omega)))) ?_
  refine OD.still (wants_plain rfl) rfl (still_r1 (mk := fun y => .call { callee := .builtin .len, args := #[y], argTypes := #[23] }) rfl ot (by first | exact len_list rfl Tryd.runUnderlying23 | exact len_row rfl Tryd.runUnderlying23)) ?_
  refine OD.still (wants_plain rfl) rfl (still_mv rfl opd_const) ?_
  refine OD.wk (Wk.as_ (n := 80) (l' := [(1, _), (2, _), (5, _), (6, _), (17, _), (18, _), (19, _)]) (S' := (⟨b5, 27, 3, [_, _, _]⟩ :: ⟨b2, 25, 2, [_, _]⟩ :: [])) rfl rfl ⟨lk, lk, lk, lk, lk, lk, lk, trivial⟩) ?_
  refine OD.nil ?_
  refine CD.block ?_
  refine CD.wk (Wk.asS (n := 80) (l' := [(1, .v (.int .i64 (i : Int))), (2, .v (.pointer (some ⟨b2, 0, none⟩))), (5, .v (.pointer (some ⟨b5, 0, none⟩))), (6, .v (.slice none (([] ++ ((held.take (0)).filter (clash q)).map L.t)).length (0))), (17, .list 3 (held.flatMap cL) held.length), (18, .v (.int .i64 (held.length : Nat))), (19, .v (.int .i64 ((0) : Nat)))]) (S' := ((⟨b5, 27, 3, cL queue[i]⟩ : Blk) :: (⟨b2, 25, 2, [.list 3 (held.flatMap cL) held.length, .list 3 (queue.flatMap cL) queue.length]⟩ : Blk) :: ([]))) rfl (by repeat (first | exact List.Sublist.refl _ | apply List.Sublist.cons_cons | apply List.Sublist.cons)) ⟨(by (repeat (first | exact look_hit | (apply look_at; focus (first | rfl | (simp; done) | (congr 2; omega) | (apply row_eq; first | exact filt_hit hlt hcl | exact filt_miss hlt hcl) | (apply row_eq; simp; done))) | (apply look_miss; focus rfl))); done), (by (repeat (first | exact look_hit | (apply look_at; focus (first | rfl | (simp; done) | (congr 2; omega) | (apply row_eq; first | exact filt_hit hlt hcl | exact filt_miss hlt hcl) | (apply row_eq; simp; done))) | (apply look_miss; focus rfl))); done), (by (repeat (first | exact look_hit | (apply look_at; focus (first | rfl | (simp; done) | (congr 2; omega) | (apply row_eq; first | exact filt_hit hlt hcl | exact filt_miss hlt hcl) | (apply row_eq; simp; done))) | (apply look_miss; focus rfl))); done), (by (repeat (first | exact look_hit | (apply look_at; focus (first | rfl | (simp; done) | (congr 2; omega) | (apply row_eq; first | exact filt_hit hlt hcl | exact filt_miss hlt hcl) | (apply row_eq; simp; done))) | (apply look_miss; focus rfl))); done), (by (repeat (first | exact look_hit | (apply look_at; focus (first | rfl | (simp; done) | (congr 2; omega) | (apply row_eq; first | exact filt_hit hlt hcl | exact filt_miss hlt hcl) | (apply row_eq; simp; done))) | (apply look_miss; focus rfl))); done), (by (repeat (first | exact look_hit | (apply look_at; focus (first | rfl | (simp; done) | (congr 2; omega) | (apply row_eq; first | exact filt_hit hlt hcl | exact filt_miss hlt hcl) | (apply row_eq; simp; done))) | (apply look_miss; focus rfl))); done), (by (repeat (first | exact look_hit | (apply look_at; focus (first | rfl | (simp; done) | (congr 2; omega) | (apply row_eq; first | exact filt_hit hlt hcl | exact filt_miss hlt hcl) | (apply row_eq; simp; done))) | (apply look_miss; focus rfl))); done), trivial⟩) (CD.loop (fun (gh__ : Nat × Option Addr × Nat × List Blk) y__ => match gh__ with | (k, adw, cpw, Sw) => (k ≤ held.length) ∧ (OwnL 3 1 ((([] ++ ((held.take k).filter (clash q)).map L.t)).flatMap cI) (([] ++ ((held.take k).filter (clash q)).map L.t)).length adw cpw Sw) ∧ y__ = (⟨80, [(1, .v (.int .i64 (i : Int))), (2, .v (.pointer (some ⟨b2, 0, none⟩))), (5, .v (.pointer (some ⟨b5, 0, none⟩))), (6, .v (.slice adw (([] ++ ((held.take k).filter (clash q)).map L.t)).length cpw)), (17, .list 3 (held.flatMap cL) held.length), (18, .v (.int .i64 (held.length : Nat))), (19, .v (.int .i64 (k : Nat)))], ((⟨b5, 27, 3, cL queue[i]⟩ : Blk) :: (⟨b2, 25, 2, [.list 3 (held.flatMap cL) held.length, .list 3 (queue.flatMap cL) queue.length]⟩ : Blk) :: Sw)⟩ : St)) (fun (gh__ : Nat × Option Addr × Nat × List Blk) => match gh__ with | (k, adw, cpw, Sw) => held.length - k) (0, none, 0, []) ⟨(Nat.zero_le _), (OwnL.cast ownL_nil (by first | rfl | simp)), rfl⟩ ?_)
  rintro ⟨k, adw, cpw, Sw⟩ _ ⟨hk, how, rfl⟩
  refine CD.seq ?_
  refine CD.region ?_
  refine OD.still (wants_plain rfl) rfl (still_bin rfl ot ot bin_lss) ?_
  refine OD.wk (Wk.as_ (n := 80) (l' := [(1, _), (2, _), (5, _), (6, _), (17, _), (18, _), (19, _), (20, _)]) (S' := (⟨b5, 27, 3, [_, _, _]⟩ :: ⟨b2, 25, 2, [_, _]⟩ :: Sw)) rfl rfl ⟨lk, lk, lk, lk, lk, lk, lk, lk, trivial⟩) ?_
  refine OD.nil ?_
  refine CD.seq ?_
  refine CD.cond ot (fun hc0 => ?_) (fun hc0 => ?_)
  · have hc0' := hc0
    (try simp only [decide_eq_true_eq, decide_eq_false_iff_not, beq_iff_eq, bne_iff_ne, Bool.not_eq_true', Bool.not_eq_false', Bool.not_eq_true, Bool.not_eq_false, beq_eq_false_iff_ne, ne_eq, bne_eq_false_iff_eq, Bool.and_eq_true, Bool.or_eq_true, Bool.not_not, Bool.and_eq_false_iff, Bool.or_eq_false_iff, Int.not_lt, Int.not_le] at hc0')
    have hlt : k < held.length := by omega
    have hhm := modeB_bd (hhs _ (List.getElem_mem hlt))
    refine CD.skip ?_
    refine CD.seq ?_
    refine CD.block ?_
    refine CD.seq ?_
    refine CD.region ?_
    refine OD.still (wants_plain rfl) rfl (still_r2 (mk := Op.indexAddr 23) rfl ot ot (by first | exact ix_list Tryd.runUnderlying23 Tryd.sizeOf27 rfl (by first | assumption | omega) | exact ix_list (j := Int.toNat _) Tryd.runUnderlying23 Tryd.sizeOf27 (Int.toNat_of_nonneg (by omega)).symm (by omega) | exact ix_row Tryd.runUnderlying23 Tryd.sizeOf27 rfl (by first | assumption | omega) | exact ix_row (j := Int.toNat _) Tryd.runUnderlying23 Tryd.sizeOf27 (Int.toNat_of_nonneg (by omega)).symm (by omega))) ?_
    refine OD.still (wants_plain rfl) rfl (still_r1 (mk := Op.load 27) rfl ot (by first | exact ld_blks (k := 0) (ds := [_, _, _]) rfl rfl Tryd.isAgg27 Tryd.sizeOf27 rfl rfl | exact ld_blks (k := 1) (ds := [_, _, _]) rfl rfl Tryd.isAgg27 Tryd.sizeOf27 rfl rfl | exact ld_fms cL_len Tryd.isAgg27 Tryd.sizeOf27 (by first | assumption | omega) | exact ld_rows (k := 0) cL_len rfl rfl rfl Tryd.isAgg27 Tryd.sizeOf27 (by first | assumption | omega) | exact ld_rows (k := 1) cL_len rfl rfl rfl Tryd.isAgg27 Tryd.sizeOf27 (by first | assumption | omega) | exact ld_is (ds := [_, _, _]) Tryd.isAgg27 Tryd.sizeOf27 rfl rfl)) ?_
    refine OD.alloc (ds := [_, _, _]) (wants_plain rfl) rfl rfl Tryd.zeroValue27 rfl (fun b8 => ?_)
    refine OD.store (k := 0) (cs' := [_, _, _]) (wants_plain rfl) rfl rfl ot rfl rfl ot rfl rfl Tryd.sizeOf27 rfl rfl rfl ?_
    refine OD.wk (Wk.as_ (n := 80) (l' := [(1, _), (2, _), (5, _), (6, _), (8, _), (17, _), (18, _), (19, _)]) (S' := (⟨b8, 27, 3, [_, _, _]⟩ :: ⟨b5, 27, 3, [_, _, _]⟩ :: ⟨b2, 25, 2, [_, _]⟩ :: Sw)) rfl rfl ⟨lk, lk, lk, lk, lk, lk, lk, lk, trivial⟩) ?_
    refine OD.nil ?_
    refine CD.seq ?_
    refine CD.draw (bks _) (by kernel_rfl) (fun _ h => h) ?_
    refine AD0.take (i := 0) rfl (by kernel_rfl) (by kernel_rfl) (by kernel_rfl) (by repeat (first | exact NP.body | apply NP.then | apply NP.cut | apply NP.inBlock | apply NP.round)) (wants_plain rfl) rfl (still_r1 (mk := fun y => Op.fieldAddr 27 y 1) rfl ot (by first | exact fa_ptr (off := 1) Tryd.runUnderlying27 rfl Tryd.sizeOf9 rfl | exact fa_iptr (off := 1) Tryd.runUnderlying27 rfl Tryd.sizeOf9 rfl)) (by exact trivial) ?_
    refine AD0.take (i := 1) rfl (by kernel_rfl) (by kernel_rfl) (by kernel_rfl) (by repeat (first | exact NP.body | apply NP.then | apply NP.cut | apply NP.inBlock | apply NP.round)) (wants_plain rfl) rfl (still_r1 (mk := Op.load 9) rfl ot (by first | exact ld_blk (k := 0) rfl rfl Tryd.isAgg9 rfl | exact ld_fm cL_len Tryd.isAgg9 (by first | assumption | omega) rfl | exact ld_fm0 cL_len Tryd.isAgg9 (by first | assumption | omega) rfl | exact ld_row (k := 0) cL_len rfl rfl rfl Tryd.isAgg9 (by first | assumption | omega) rfl | exact ld_row0 (k := 0) cL_len rfl rfl rfl Tryd.isAgg9 (by first | assumption | omega) rfl | exact ld_row (k := 1) cL_len rfl rfl rfl Tryd.isAgg9 (by first | assumption | omega) rfl | exact ld_row0 (k := 1) cL_len rfl rfl rfl Tryd.isAgg9 (by first | assumption | omega) rfl | exact ld_row (k := 2) cL_len rfl rfl rfl Tryd.isAgg9 (by first | assumption | omega) rfl | exact ld_row0 (k := 2) cL_len rfl rfl rfl Tryd.isAgg9 (by first | assumption | omega) rfl | exact ld_i Tryd.isAgg9 rfl | exact ld_tab (List.mem_cons_self) Tryd.isAgg9 (fitsC_off (by omega) (by omega) (by omega) (by omega)))) (by first | exact trivial | exact safe_blk (k0 := 0) rfl rfl | exact safe_blk (k0 := 1) rfl rfl | exact safe_blk (k0 := 2) rfl rfl) ?_
    refine AD0.take (i := 2) rfl (by kernel_rfl) (by kernel_rfl) (by kernel_rfl) (by repeat (first | exact NP.body | apply NP.then | apply NP.cut | apply NP.inBlock | apply NP.round)) (wants_plain rfl) rfl (still_r1 (mk := fun y => Op.fieldAddr 27 y 1) rfl ot (by first | exact fa_ptr (off := 1) Tryd.runUnderlying27 rfl Tryd.sizeOf9 rfl | exact fa_iptr (off := 1) Tryd.runUnderlying27 rfl Tryd.sizeOf9 rfl)) (by exact trivial) ?_
    refine AD0.take (i := 3) rfl (by kernel_rfl) (by kernel_rfl) (by kernel_rfl) (by repeat (first | exact NP.body | apply NP.then | apply NP.cut | apply NP.inBlock | apply NP.round)) (wants_plain rfl) rfl (still_r1 (mk := Op.load 9) rfl ot (by first | exact ld_blk (k := 1) rfl rfl Tryd.isAgg9 rfl | exact ld_fm cL_len Tryd.isAgg9 (by first | assumption | omega) rfl | exact ld_fm0 cL_len Tryd.isAgg9 (by first | assumption | omega) rfl | exact ld_row (k := 0) cL_len rfl rfl rfl Tryd.isAgg9 (by first | assumption | omega) rfl | exact ld_row0 (k := 0) cL_len rfl rfl rfl Tryd.isAgg9 (by first | assumption | omega) rfl | exact ld_row (k := 1) cL_len rfl rfl rfl Tryd.isAgg9 (by first | assumption | omega) rfl | exact ld_row0 (k := 1) cL_len rfl rfl rfl Tryd.isAgg9 (by first | assumption | omega) rfl | exact ld_row (k := 2) cL_len rfl rfl rfl Tryd.isAgg9 (by first | assumption | omega) rfl | exact ld_row0 (k := 2) cL_len rfl rfl rfl Tryd.isAgg9 (by first | assumption | omega) rfl | exact ld_i Tryd.isAgg9 rfl | exact ld_tab (List.mem_cons_self) Tryd.isAgg9 (fitsC_off (by omega) (by omega) (by omega) (by omega)))) (by first | exact trivial | exact safe_blk (k0 := 0) rfl rfl | exact safe_blk (k0 := 1) rfl rfl | exact safe_blk (k0 := 2) rfl rfl) ?_
    refine AD0.take (i := 4) rfl (by kernel_rfl) (by kernel_rfl) (by kernel_rfl) (by repeat (first | exact NP.body | apply NP.then | apply NP.cut | apply NP.inBlock | apply NP.round)) (wants_plain rfl) rfl (still_bin rfl ot ot bin_seql) (by exact trivial) ?_
    refine AD0.take (i := 5) rfl (by kernel_rfl) (by kernel_rfl) (by kernel_rfl) (by repeat (first | exact NP.body | apply NP.then | apply NP.cut | apply NP.inBlock | apply NP.round)) (wants_plain rfl) rfl (still_mv rfl ot) (by exact trivial) ?_
    refine AD0.split (t := 28) lk (fun hg28 => ?_) (fun hg28 => ?_)
    · have hg28' := hg28; (try simp only [decide_eq_true_eq, decide_eq_false_iff_not, beq_iff_eq, bne_iff_ne, Bool.not_eq_true', Bool.not_eq_false', Bool.not_eq_true, Bool.not_eq_false, beq_eq_false_iff_ne, ne_eq, bne_eq_false_iff_eq, Bool.and_eq_true, Bool.or_eq_true, Bool.not_not, Bool.and_eq_false_iff, Bool.or_eq_false_iff, Int.not_lt, Int.not_le] at hg28')
      refine AD0.take (i := 6) rfl (by kernel_rfl) (by kernel_rfl) (by kernel_rfl) (by repeat (first | exact NP.body | apply NP.then | apply NP.cut | apply NP.inBlock | apply NP.round)) (wants_T rfl rfl rfl lk (by first | rfl | assumption)) rfl (still_r1 (mk := fun y => Op.fieldAddr 27 y 0) rfl ot (by first | exact fa_ptr (off := 0) Tryd.runUnderlying27 rfl Tryd.sizeOf3 rfl | exact fa_iptr (off := 0) Tryd.runUnderlying27 rfl Tryd.sizeOf3 rfl)) (by exact trivial) ?_
      refine AD0.take (i := 7) rfl (by kernel_rfl) (by kernel_rfl) (by kernel_rfl) (by repeat (first | exact NP.body | apply NP.then | apply NP.cut | apply NP.inBlock | apply NP.round)) (wants_T rfl rfl rfl lk (by first | rfl | assumption)) rfl (still_r1 (mk := Op.load 3) rfl ot (by first | exact ld_blk (k := 0) rfl rfl Tryd.isAgg3 rfl | exact ld_fm cL_len Tryd.isAgg3 (by first | assumption | omega) rfl | exact ld_fm0 cL_len Tryd.isAgg3 (by first | assumption | omega) rfl | exact ld_row (k := 0) cL_len rfl rfl rfl Tryd.isAgg3 (by first | assumption | omega) rfl | exact ld_row0 (k := 0) cL_len rfl rfl rfl Tryd.isAgg3 (by first | assumption | omega) rfl | exact ld_row (k := 1) cL_len rfl rfl rfl Tryd.isAgg3 (by first | assumption | omega) rfl | exact ld_row0 (k := 1) cL_len rfl rfl rfl Tryd.isAgg3 (by first | assumption | omega) rfl | exact ld_row (k := 2) cL_len rfl rfl rfl Tryd.isAgg3 (by first | assumption | omega) rfl | exact ld_row0 (k := 2) cL_len rfl rfl rfl Tryd.isAgg3 (by first | assumption | omega) rfl | exact ld_i Tryd.isAgg3 rfl | exact ld_tab (List.mem_cons_self) Tryd.isAgg3 (fitsC_off (by omega) (by omega) (by omega) (by omega)))) (by first | exact trivial | exact safe_blk (k0 := 0) rfl rfl | exact safe_blk (k0 := 1) rfl rfl | exact safe_blk (k0 := 2) rfl rfl) ?_
      refine AD0.take (i := 8) rfl (by kernel_rfl) (by kernel_rfl) (by kernel_rfl) (by repeat (first | exact NP.body | apply NP.then | apply NP.cut | apply NP.inBlock | apply NP.round)) (wants_T rfl rfl rfl lk (by first | rfl | assumption)) rfl (still_r1 (mk := fun y => Op.fieldAddr 27 y 0) rfl ot (by first | exact fa_ptr (off := 0) Tryd.runUnderlying27 rfl Tryd.sizeOf3 rfl | exact fa_iptr (off := 0) Tryd.runUnderlying27 rfl Tryd.sizeOf3 rfl)) (by exact trivial) ?_
      refine AD0.take (i := 9) rfl (by kernel_rfl) (by kernel_rfl) (by kernel_rfl) (by repeat (first | exact NP.body | apply NP.then | apply NP.cut | apply NP.inBlock | apply NP.round)) (wants_T rfl rfl rfl lk (by first | rfl | assumption)) rfl (still_r1 (mk := Op.load 3) rfl ot (by first | exact ld_blk (k := 1) rfl rfl Tryd.isAgg3 rfl | exact ld_fm cL_len Tryd.isAgg3 (by first | assumption | omega) rfl | exact ld_fm0 cL_len Tryd.isAgg3 (by first | assumption | omega) rfl | exact ld_row (k := 0) cL_len rfl rfl rfl Tryd.isAgg3 (by first | assumption | omega) rfl | exact ld_row0 (k := 0) cL_len rfl rfl rfl Tryd.isAgg3 (by first | assumption | omega) rfl | exact ld_row (k := 1) cL_len rfl rfl rfl Tryd.isAgg3 (by first | assumption | omega) rfl | exact ld_row0 (k := 1) cL_len rfl rfl rfl Tryd.isAgg3 (by first | assumption | omega) rfl | exact ld_row (k := 2) cL_len rfl rfl rfl Tryd.isAgg3 (by first | assumption | omega) rfl | exact ld_row0 (k := 2) cL_len rfl rfl rfl Tryd.isAgg3 (by first | assumption | omega) rfl | exact ld_i Tryd.isAgg3 rfl | exact ld_tab (List.mem_cons_self) Tryd.isAgg3 (fitsC_off (by omega) (by omega) (by omega) (by omega)))) (by first | exact trivial | exact safe_blk (k0 := 0) rfl rfl | exact safe_blk (k0 := 1) rfl rfl | exact safe_blk (k0 := 2) rfl rfl) ?_
      refine AD0.take (i := 10) rfl (by kernel_rfl) (by kernel_rfl) (by kernel_rfl) (by repeat (first | exact NP.body | apply NP.then | apply NP.cut | apply NP.inBlock | apply NP.round)) (wants_T rfl rfl rfl lk (by first | rfl | assumption)) rfl (still_bin rfl ot ot bin_neq) (by exact trivial) ?_
      refine AD0.take (i := 11) rfl (by kernel_rfl) (by kernel_rfl) (by kernel_rfl) (by repeat (first | exact NP.body | apply NP.then | apply NP.cut | apply NP.inBlock | apply NP.round)) (wants_plain rfl) rfl (still_pickT rfl ot (by first | rfl | assumption) ot) (by exact trivial) ?_
      refine AD0.take (i := 12) rfl (by kernel_rfl) (by kernel_rfl) (by kernel_rfl) (by repeat (first | exact NP.body | apply NP.then | apply NP.cut | apply NP.inBlock | apply NP.round)) (wants_plain rfl) rfl (still_mv rfl ot) (by exact trivial) ?_
      refine AD0.split (t := 35) lk (fun hg35 => ?_) (fun hg35 => ?_)
      · have hg35' := hg35; (try simp only [decide_eq_true_eq, decide_eq_false_iff_not, beq_iff_eq, bne_iff_ne, Bool.not_eq_true', Bool.not_eq_false', Bool.not_eq_true, Bool.not_eq_false, beq_eq_false_iff_ne, ne_eq, bne_eq_false_iff_eq, Bool.and_eq_true, Bool.or_eq_true, Bool.not_not, Bool.and_eq_false_iff, Bool.or_eq_false_iff, Int.not_lt, Int.not_le] at hg35')
        refine AD0.take (i := 13) rfl (by kernel_rfl) (by kernel_rfl) (by kernel_rfl) (by repeat (first | exact NP.body | apply NP.then | apply NP.cut | apply NP.inBlock | apply NP.round)) (wants_T rfl rfl rfl lk (by first | rfl | assumption)) rfl (still_r1 (mk := fun y => Op.fieldAddr 27 y 2) rfl ot (by first | exact fa_ptr (off := 2) Tryd.runUnderlying27 rfl Tryd.sizeOf3 rfl | exact fa_iptr (off := 2) Tryd.runUnderlying27 rfl Tryd.sizeOf3 rfl)) (by exact trivial) ?_
        refine AD0.take (i := 14) rfl (by kernel_rfl) (by kernel_rfl) (by kernel_rfl) (by repeat (first | exact NP.body | apply NP.then | apply NP.cut | apply NP.inBlock | apply NP.round)) (wants_T rfl rfl rfl lk (by first | rfl | assumption)) rfl (still_r1 (mk := Op.load 3) rfl ot (by first | exact ld_blk (k := 0) rfl rfl Tryd.isAgg3 rfl | exact ld_fm cL_len Tryd.isAgg3 (by first | assumption | omega) rfl | exact ld_fm0 cL_len Tryd.isAgg3 (by first | assumption | omega) rfl | exact ld_row (k := 0) cL_len rfl rfl rfl Tryd.isAgg3 (by first | assumption | omega) rfl | exact ld_row0 (k := 0) cL_len rfl rfl rfl Tryd.isAgg3 (by first | assumption | omega) rfl | exact ld_row (k := 1) cL_len rfl rfl rfl Tryd.isAgg3 (by first | assumption | omega) rfl | exact ld_row0 (k := 1) cL_len rfl rfl rfl Tryd.isAgg3 (by first | assumption | omega) rfl | exact ld_row (k := 2) cL_len rfl rfl rfl Tryd.isAgg3 (by first | assumption | omega) rfl | exact ld_row0 (k := 2) cL_len rfl rfl rfl Tryd.isAgg3 (by first | assumption | omega) rfl | exact ld_i Tryd.isAgg3 rfl | exact ld_tab (List.mem_cons_self) Tryd.isAgg3 (fitsC_off (by omega) (by omega) (by omega) (by omega)))) (by first | exact trivial | exact safe_blk (k0 := 0) rfl rfl | exact safe_blk (k0 := 1) rfl rfl | exact safe_blk (k0 := 2) rfl rfl) ?_
        refine AD0.take (i := 15) rfl (by kernel_rfl) (by kernel_rfl) (by kernel_rfl) (by repeat (first | exact NP.body | apply NP.then | apply NP.cut | apply NP.inBlock | apply NP.round)) (wants_T rfl rfl rfl lk (by first | rfl | assumption)) rfl (still_r1 (mk := fun y => Op.fieldAddr 27 y 2) rfl ot (by first | exact fa_ptr (off := 2) Tryd.runUnderlying27 rfl Tryd.sizeOf3 rfl | exact fa_iptr (off := 2) Tryd.runUnderlying27 rfl Tryd.sizeOf3 rfl)) (by exact trivial) ?_
        refine AD0.take (i := 16) rfl (by kernel_rfl) (by kernel_rfl) (by kernel_rfl) (by repeat (first | exact NP.body | apply NP.then | apply NP.cut | apply NP.inBlock | apply NP.round)) (wants_T rfl rfl rfl lk (by first | rfl | assumption)) rfl (still_r1 (mk := Op.load 3) rfl ot (by first | exact ld_blk (k := 1) rfl rfl Tryd.isAgg3 rfl | exact ld_fm cL_len Tryd.isAgg3 (by first | assumption | omega) rfl | exact ld_fm0 cL_len Tryd.isAgg3 (by first | assumption | omega) rfl | exact ld_row (k := 0) cL_len rfl rfl rfl Tryd.isAgg3 (by first | assumption | omega) rfl | exact ld_row0 (k := 0) cL_len rfl rfl rfl Tryd.isAgg3 (by first | assumption | omega) rfl | exact ld_row (k := 1) cL_len rfl rfl rfl Tryd.isAgg3 (by first | assumption | omega) rfl | exact ld_row0 (k := 1) cL_len rfl rfl rfl Tryd.isAgg3 (by first | assumption | omega) rfl | exact ld_row (k := 2) cL_len rfl rfl rfl Tryd.isAgg3 (by first | assumption | omega) rfl | exact ld_row0 (k := 2) cL_len rfl rfl rfl Tryd.isAgg3 (by first | assumption | omega) rfl | exact ld_i Tryd.isAgg3 rfl | exact ld_tab (List.mem_cons_self) Tryd.isAgg3 (fitsC_off (by omega) (by omega) (by omega) (by omega)))) (by first | exact trivial | exact safe_blk (k0 := 0) rfl rfl | exact safe_blk (k0 := 1) rfl rfl | exact safe_blk (k0 := 2) rfl rfl) ?_
        refine AD0.take (i := 17) rfl (by kernel_rfl) (by kernel_rfl) (by kernel_rfl) (by repeat (first | exact NP.body | apply NP.then | apply NP.cut | apply NP.inBlock | apply NP.round)) (wants_T rfl rfl rfl lk (by first | rfl | assumption)) rfl (still_r2 (mk := Op.indexAddr 68) rfl opd_glob ot (by first | exact ix_arr Tryd.runUnderlying68 Tryd.sizeOf67 rfl (by first | assumption | omega) | exact ix_arr (j := Int.toNat _) Tryd.runUnderlying68 Tryd.sizeOf67 (Int.toNat_of_nonneg (by omega)).symm (by omega))) (by exact trivial) ?_
        refine AD0.take (i := 18) rfl (by kernel_rfl) (by kernel_rfl) (by kernel_rfl) (by repeat (first | exact NP.body | apply NP.then | apply NP.cut | apply NP.inBlock | apply NP.round)) (wants_T rfl rfl rfl lk (by first | rfl | assumption)) rfl (still_r2 (mk := Op.indexAddr 67) rfl ot ot (by first | exact ix_arr Tryd.runUnderlying67 Tryd.sizeOf4 rfl (by first | assumption | omega) | exact ix_arr (j := Int.toNat _) Tryd.runUnderlying67 Tryd.sizeOf4 (Int.toNat_of_nonneg (by omega)).symm (by omega))) (by exact trivial) ?_
        refine AD0.take (i := 19) rfl (by kernel_rfl) (by kernel_rfl) (by kernel_rfl) (by repeat (first | exact NP.body | apply NP.then | apply NP.cut | apply NP.inBlock | apply NP.round)) (wants_T rfl rfl rfl lk (by first | rfl | assumption)) rfl (still_r1 (mk := Op.load 4) rfl ot (by first | exact ld_blk (k := 0) rfl rfl Tryd.isAgg4 rfl | exact ld_blk (k := 1) rfl rfl Tryd.isAgg4 rfl | exact ld_blk (k := 2) rfl rfl Tryd.isAgg4 rfl | exact ld_fm cL_len Tryd.isAgg4 (by first | assumption | omega) rfl | exact ld_fm0 cL_len Tryd.isAgg4 (by first | assumption | omega) rfl | exact ld_row (k := 0) cL_len rfl rfl rfl Tryd.isAgg4 (by first | assumption | omega) rfl | exact ld_row0 (k := 0) cL_len rfl rfl rfl Tryd.isAgg4 (by first | assumption | omega) rfl | exact ld_row (k := 1) cL_len rfl rfl rfl Tryd.isAgg4 (by first | assumption | omega) rfl | exact ld_row0 (k := 1) cL_len rfl rfl rfl Tryd.isAgg4 (by first | assumption | omega) rfl | exact ld_row (k := 2) cL_len rfl rfl rfl Tryd.isAgg4 (by first | assumption | omega) rfl | exact ld_row0 (k := 2) cL_len rfl rfl rfl Tryd.isAgg4 (by first | assumption | omega) rfl | exact ld_i Tryd.isAgg4 rfl | exact ld_tab (List.mem_cons_self) Tryd.isAgg4 (fitsC_off (by omega) (by omega) (by omega) (by omega)))) (by first | exact trivial | exact safe_blk (k0 := 0) rfl rfl | exact safe_blk (k0 := 1) rfl rfl | exact safe_blk (k0 := 2) rfl rfl) ?_
        refine AD0.take (i := 20) rfl (by kernel_rfl) (by kernel_rfl) (by kernel_rfl) (by repeat (first | exact NP.body | apply NP.then | apply NP.cut | apply NP.inBlock | apply NP.round)) (wants_T rfl rfl rfl lk (by first | rfl | assumption)) rfl (still_un rfl ot un_not) (by exact trivial) ?_
        refine AD0.take (i := 21) rfl (by kernel_rfl) (by kernel_rfl) (by kernel_rfl) (by repeat (first | exact NP.body | apply NP.then | apply NP.cut | apply NP.inBlock | apply NP.round)) (wants_plain rfl) rfl (still_pickT rfl ot (by first | rfl | assumption) ot) (by exact trivial) ?_
        refine AD0.later rfl ?_
        refine AD.wk (y := ⟨80, [(1, _), (2, _), (5, _), (6, _), (8, _), (17, _), (18, _), (19, _), (44, _)], (⟨b8, 27, 3, [_, _, _]⟩ :: ⟨b5, 27, 3, [_, _, _]⟩ :: ⟨b2, 25, 2, [_, _]⟩ :: Sw)⟩) (Wk.as_ rfl rfl ⟨lk, lk, lk, lk, lk, lk, lk, lk, lk, trivial⟩) rfl ?_
        refine AD.done (by kernel_rfl) ?_
        refine CD.cond ot (fun hc1 => ?_) (fun hc1 => ?_)
        · have hc1' := hc1
          (try simp only [decide_eq_true_eq, decide_eq_false_iff_not, beq_iff_eq, bne_iff_ne, Bool.not_eq_true', Bool.not_eq_false', Bool.not_eq_true, Bool.not_eq_false, beq_eq_false_iff_ne, ne_eq, bne_eq_false_iff_eq, Bool.and_eq_true, Bool.or_eq_true, Bool.not_not, Bool.and_eq_false_iff, Bool.or_eq_false_iff, Int.not_lt, Int.not_le] at hc1')
          have hcl : clash q held[k] = true := by unfold clash; subst hq; simp_all
          refine CD.region ?_
          refine OD.still (wants_plain rfl) rfl (still_mv rfl ot) ?_
          refine OD.still (wants_plain rfl) rfl (still_r1 (mk := fun y => Op.fieldAddr 27 y 0) rfl ot (by first | exact fa_ptr (off := 0) Tryd.runUnderlying27 rfl Tryd.sizeOf3 rfl | exact fa_iptr (off := 0) Tryd.runUnderlying27 rfl Tryd.sizeOf3 rfl)) ?_
          refine OD.still (wants_plain rfl) rfl (still_r1 (mk := Op.load 3) rfl ot (by first | exact ld_blk (k := 0) rfl rfl Tryd.isAgg3 rfl | exact ld_fm cL_len Tryd.isAgg3 (by first | assumption | omega) rfl | exact ld_fm0 cL_len Tryd.isAgg3 (by first | assumption | omega) rfl | exact ld_row (k := 0) cL_len rfl rfl rfl Tryd.isAgg3 (by first | assumption | omega) rfl | exact ld_row0 (k := 0) cL_len rfl rfl rfl Tryd.isAgg3 (by first | assumption | omega) rfl | exact ld_row (k := 1) cL_len rfl rfl rfl Tryd.isAgg3 (by first | assumption | omega) rfl | exact ld_row0 (k := 1) cL_len rfl rfl rfl Tryd.isAgg3 (by first | assumption | omega) rfl | exact ld_row (k := 2) cL_len rfl rfl rfl Tryd.isAgg3 (by first | assumption | omega) rfl | exact ld_row0 (k := 2) cL_len rfl rfl rfl Tryd.isAgg3 (by first | assumption | omega) rfl | exact ld_i Tryd.isAgg3 rfl | exact ld_tab (List.mem_cons_self) Tryd.isAgg3 (fitsC_off (by omega) (by omega) (by omega) (by omega)))) ?_
          refine OD.bldS (pl := [(0, _)]) (zvs := [.int .i64 0]) (ds := [_]) (wants_plain rfl) rfl rfl Tryd.zeroValue3 Tryd.runUnderlying34 Tryd.sizeOf3 rfl rfl (by kernel_rfl) ⟨rfl, ot, trivial⟩ rfl rfl (fun b48 => ?_)
          refine OD.give (k := 0) (t := 48) (sz := 1) (m := 1) rfl lk rfl rfl rfl (Nat.le_refl _) (by decide) ?_
          refine OD.appendG (ls := (([] ++ ((held.take k).filter (clash q)).map L.t))) (new := [held[k].t]) (Sq := Sw) cI_len cI_one (wants_plain rfl) rfl rfl Tryd.underlying34 info3_Lkj rfl (by decide) ot how (perm_r11 (A := [_, _, _])) ot (by simp) (by have hmx : maxLen = 9223372036854775807 := rfl; have q1 := filt_len (p := clash q) (l := held) (i := held.length); have q2 := filt_len (p := clash q) (l := held) (i := k); (try have q3 := filt_len (p := onTh q) (l := pre) (i := j)); (try simp only [List.length_append, List.length_cons, List.length_nil]); omega) (by have hmx : maxLen = 9223372036854775807 := rfl; have q1 := filt_len (p := clash q) (l := held) (i := held.length); have q2 := filt_len (p := clash q) (l := held) (i := k); (try have q3 := filt_len (p := onTh q) (l := pre) (i := j)); (try simp only [List.length_append, List.length_cons, List.length_nil]); omega) (fun b49 cp49 h149 h249 => ?_)
          refine OD.perm (perm_q11 (S1 := [⟨b49, 3, cp49 * 1, List.flatMap cI ((([] ++ ((held.take k).filter (clash q)).map L.t)) ++ [held[k].t])⟩]) (A := [_, _, _])) ?_
          refine OD.still (wants_plain rfl) rfl (still_as rfl ot) ?_
          refine OD.wk (Wk.as_ (n := 80) (l' := [(1, _), (2, _), (5, _), (6, _), (17, _), (18, _), (19, _)]) (S' := (⟨b8, 27, 3, [_, _, _]⟩ :: ⟨b5, 27, 3, [_, _, _]⟩ :: ⟨b2, 25, 2, [_, _]⟩ :: [⟨b49, 3, cp49 * 1, List.flatMap cI ((([] ++ ((held.take k).filter (clash q)).map L.t)) ++ [held[k].t])⟩])) rfl rfl ⟨lk, lk, lk, lk, lk, lk, lk, trivial⟩) ?_
          refine OD.nil ?_
          refine CD.region ?_
          refine OD.still (wants_plain rfl) rfl (still_bin rfl ot opd_const (bin_add (wrap_i64 (by omega) (by omega)))) ?_
          refine OD.still (wants_plain rfl) rfl (still_mv rfl ot) ?_
          refine OD.wk (Wk.as_ (n := 80) (l' := [(1, _), (2, _), (5, _), (6, _), (17, _), (18, _), (19, _)]) (S' := (⟨b8, 27, 3, [_, _, _]⟩ :: ⟨b5, 27, 3, [_, _, _]⟩ :: ⟨b2, 25, 2, [_, _]⟩ :: [⟨b49, 3, cp49 * 1, List.flatMap cI ((([] ++ ((held.take k).filter (clash q)).map L.t)) ++ [held[k].t])⟩])) rfl rfl ⟨lk, lk, lk, lk, lk, lk, lk, trivial⟩) ?_
          refine OD.nil ?_
          refine ⟨((k + 1), (some ⟨b49, 0, none⟩), cp49, [⟨b49, 3, cp49 * 1, List.flatMap cI ((([] ++ ((held.take k).filter (clash q)).map L.t)) ++ [held[k].t])⟩]), ⟨80, [(1, .v (.int .i64 (i : Int))), (2, .v (.pointer (some ⟨b2, 0, none⟩))), (5, .v (.pointer (some ⟨b5, 0, none⟩))), (6, .v (.slice ((some ⟨b49, 0, none⟩)) (([] ++ ((held.take ((k + 1))).filter (clash q)).map L.t)).length cp49)), (17, .list 3 (held.flatMap cL) held.length), (18, .v (.int .i64 (held.length : Nat))), (19, .v (.int .i64 (((k + 1)) : Nat)))], ((⟨b5, 27, 3, cL queue[i]⟩ : Blk) :: (⟨b2, 25, 2, [.list 3 (held.flatMap cL) held.length, .list 3 (queue.flatMap cL) queue.length]⟩ : Blk) :: ([⟨b49, 3, cp49 * 1, List.flatMap cI ((([] ++ ((held.take k).filter (clash q)).map L.t)) ++ [held[k].t])⟩]))⟩, ?_, Wk.asS (n := 80) rfl (by repeat (first | exact List.Sublist.refl _ | apply List.Sublist.cons_cons | apply List.Sublist.cons)) ⟨(by (repeat (first | exact look_hit | (apply look_at; focus (first | rfl | (simp; done) | (congr 2; omega) | (apply row_eq; first | exact filt_hit hlt hcl | exact filt_miss hlt hcl) | (apply row_eq; simp; done))) | (apply look_miss; focus rfl))); done), (by (repeat (first | exact look_hit | (apply look_at; focus (first | rfl | (simp; done) | (congr 2; omega) | (apply row_eq; first | exact filt_hit hlt hcl | exact filt_miss hlt hcl) | (apply row_eq; simp; done))) | (apply look_miss; focus rfl))); done), (by (repeat (first | exact look_hit | (apply look_at; focus (first | rfl | (simp; done) | (congr 2; omega) | (apply row_eq; first | exact filt_hit hlt hcl | exact filt_miss hlt hcl) | (apply row_eq; simp; done))) | (apply look_miss; focus rfl))); done), (by (repeat (first | exact look_hit | (apply look_at; focus (first | rfl | (simp; done) | (congr 2; omega) | (apply row_eq; first | exact filt_hit hlt hcl | exact filt_miss hlt hcl) | (apply row_eq; simp; done))) | (apply look_miss; focus rfl))); done), (by (repeat (first | exact look_hit | (apply look_at; focus (first | rfl | (simp; done) | (congr 2; omega) | (apply row_eq; first | exact filt_hit hlt hcl | exact filt_miss hlt hcl) | (apply row_eq; simp; done))) | (apply look_miss; focus rfl))); done), (by (repeat (first | exact look_hit | (apply look_at; focus (first | rfl | (simp; done) | (congr 2; omega) | (apply row_eq; first | exact filt_hit hlt hcl | exact filt_miss hlt hcl) | (apply row_eq; simp; done))) | (apply look_miss; focus rfl))); done), (by (repeat (first | exact look_hit | (apply look_at; focus (first | rfl | (simp; done) | (congr 2; omega) | (apply row_eq; first | exact filt_hit hlt hcl | exact filt_miss hlt hcl) | (apply row_eq; simp; done))) | (apply look_miss; focus rfl))); done), trivial⟩, (by omega), (OwnL.cast (ownL_row h149 h249) (by first | exact filt_hit hlt hcl | exact filt_miss hlt hcl)), rfl⟩
          first | omega | (simp only []; omega)
        · have hc1' := hc1
          (try simp only [decide_eq_true_eq, decide_eq_false_iff_not, beq_iff_eq, bne_iff_ne, Bool.not_eq_true', Bool.not_eq_false', Bool.not_eq_true, Bool.not_eq_false, beq_eq_false_iff_ne, ne_eq, bne_eq_false_iff_eq, Bool.and_eq_true, Bool.or_eq_true, Bool.not_not, Bool.and_eq_false_iff, Bool.or_eq_false_iff, Int.not_lt, Int.not_le] at hc1')
          have hcl : ¬ clash q held[k] = true := by unfold clash; subst hq; simp_all
          refine CD.skip ?_
          refine CD.region ?_
          refine OD.still (wants_plain rfl) rfl (still_bin rfl ot opd_const (bin_add (wrap_i64 (by omega) (by omega)))) ?_
          refine OD.still (wants_plain rfl) rfl (still_mv rfl ot) ?_
          refine OD.wk (Wk.as_ (n := 80) (l' := [(1, _), (2, _), (5, _), (6, _), (17, _), (18, _), (19, _)]) (S' := (⟨b8, 27, 3, [_, _, _]⟩ :: ⟨b5, 27, 3, [_, _, _]⟩ :: ⟨b2, 25, 2, [_, _]⟩ :: Sw)) rfl rfl ⟨lk, lk, lk, lk, lk, lk, lk, trivial⟩) ?_
          refine OD.nil ?_
          refine ⟨((k + 1), adw, cpw, Sw), ⟨80, [(1, .v (.int .i64 (i : Int))), (2, .v (.pointer (some ⟨b2, 0, none⟩))), (5, .v (.pointer (some ⟨b5, 0, none⟩))), (6, .v (.slice adw (([] ++ ((held.take ((k + 1))).filter (clash q)).map L.t)).length cpw)), (17, .list 3 (held.flatMap cL) held.length), (18, .v (.int .i64 (held.length : Nat))), (19, .v (.int .i64 (((k + 1)) : Nat)))], ((⟨b5, 27, 3, cL queue[i]⟩ : Blk) :: (⟨b2, 25, 2, [.list 3 (held.flatMap cL) held.length, .list 3 (queue.flatMap cL) queue.length]⟩ : Blk) :: Sw)⟩, ?_, Wk.asS (n := 80) rfl (by repeat (first | exact List.Sublist.refl _ | apply List.Sublist.cons_cons | apply List.Sublist.cons)) ⟨(by (repeat (first | exact look_hit | (apply look_at; focus (first | rfl | (simp; done) | (congr 2; omega) | (apply row_eq; first | exact filt_hit hlt hcl | exact filt_miss hlt hcl) | (apply row_eq; simp; done))) | (apply look_miss; focus rfl))); done), (by (repeat (first | exact look_hit | (apply look_at; focus (first | rfl | (simp; done) | (congr 2; omega) | (apply row_eq; first | exact filt_hit hlt hcl | exact filt_miss hlt hcl) | (apply row_eq; simp; done))) | (apply look_miss; focus rfl))); done), (by (repeat (first | exact look_hit | (apply look_at; focus (first | rfl | (simp; done) | (congr 2; omega) | (apply row_eq; first | exact filt_hit hlt hcl | exact filt_miss hlt hcl) | (apply row_eq; simp; done))) | (apply look_miss; focus rfl))); done), (by (repeat (first | exact look_hit | (apply look_at; focus (first | rfl | (simp; done) | (congr 2; omega) | (apply row_eq; first | exact filt_hit hlt hcl | exact filt_miss hlt hcl) | (apply row_eq; simp; done))) | (apply look_miss; focus rfl))); done), (by (repeat (first | exact look_hit | (apply look_at; focus (first | rfl | (simp; done) | (congr 2; omega) | (apply row_eq; first | exact filt_hit hlt hcl | exact filt_miss hlt hcl) | (apply row_eq; simp; done))) | (apply look_miss; focus rfl))); done), (by (repeat (first | exact look_hit | (apply look_at; focus (first | rfl | (simp; done) | (congr 2; omega) | (apply row_eq; first | exact filt_hit hlt hcl | exact filt_miss hlt hcl) | (apply row_eq; simp; done))) | (apply look_miss; focus rfl))); done), (by (repeat (first | exact look_hit | (apply look_at; focus (first | rfl | (simp; done) | (congr 2; omega) | (apply row_eq; first | exact filt_hit hlt hcl | exact filt_miss hlt hcl) | (apply row_eq; simp; done))) | (apply look_miss; focus rfl))); done), trivial⟩, (by omega), (OwnL.cast how (by first | exact filt_hit hlt hcl | exact filt_miss hlt hcl)), rfl⟩
          first | omega | (simp only []; omega)
      · have hg35' := hg35; (try simp only [decide_eq_true_eq, decide_eq_false_iff_not, beq_iff_eq, bne_iff_ne, Bool.not_eq_true', Bool.not_eq_false', Bool.not_eq_true, Bool.not_eq_false, beq_eq_false_iff_ne, ne_eq, bne_eq_false_iff_eq, Bool.and_eq_true, Bool.or_eq_true, Bool.not_not, Bool.and_eq_false_iff, Bool.or_eq_false_iff, Int.not_lt, Int.not_le] at hg35')
        refine AD0.takeSkip (i := 13) rfl (by kernel_rfl) (by kernel_rfl) (by kernel_rfl) (by repeat (first | exact NP.body | apply NP.then | apply NP.cut | apply NP.inBlock | apply NP.round)) (wants_F rfl rfl rfl lk (by first | rfl | assumption)) rfl ?_
        refine AD0.takeSkip (i := 14) rfl (by kernel_rfl) (by kernel_rfl) (by kernel_rfl) (by repeat (first | exact NP.body | apply NP.then | apply NP.cut | apply NP.inBlock | apply NP.round)) (wants_F rfl rfl rfl lk (by first | rfl | assumption)) rfl ?_
        refine AD0.takeSkip (i := 15) rfl (by kernel_rfl) (by kernel_rfl) (by kernel_rfl) (by repeat (first | exact NP.body | apply NP.then | apply NP.cut | apply NP.inBlock | apply NP.round)) (wants_F rfl rfl rfl lk (by first | rfl | assumption)) rfl ?_
        refine AD0.takeSkip (i := 16) rfl (by kernel_rfl) (by kernel_rfl) (by kernel_rfl) (by repeat (first | exact NP.body | apply NP.then | apply NP.cut | apply NP.inBlock | apply NP.round)) (wants_F rfl rfl rfl lk (by first | rfl | assumption)) rfl ?_
        refine AD0.takeSkip (i := 17) rfl (by kernel_rfl) (by kernel_rfl) (by kernel_rfl) (by repeat (first | exact NP.body | apply NP.then | apply NP.cut | apply NP.inBlock | apply NP.round)) (wants_F rfl rfl rfl lk (by first | rfl | assumption)) rfl ?_
        refine AD0.takeSkip (i := 18) rfl (by kernel_rfl) (by kernel_rfl) (by kernel_rfl) (by repeat (first | exact NP.body | apply NP.then | apply NP.cut | apply NP.inBlock | apply NP.round)) (wants_F rfl rfl rfl lk (by first | rfl | assumption)) rfl ?_
        refine AD0.takeSkip (i := 19) rfl (by kernel_rfl) (by kernel_rfl) (by kernel_rfl) (by repeat (first | exact NP.body | apply NP.then | apply NP.cut | apply NP.inBlock | apply NP.round)) (wants_F rfl rfl rfl lk (by first | rfl | assumption)) rfl ?_
        refine AD0.takeSkip (i := 20) rfl (by kernel_rfl) (by kernel_rfl) (by kernel_rfl) (by repeat (first | exact NP.body | apply NP.then | apply NP.cut | apply NP.inBlock | apply NP.round)) (wants_F rfl rfl rfl lk (by first | rfl | assumption)) rfl ?_
        refine AD0.take (i := 21) rfl (by kernel_rfl) (by kernel_rfl) (by kernel_rfl) (by repeat (first | exact NP.body | apply NP.then | apply NP.cut | apply NP.inBlock | apply NP.round)) (wants_plain rfl) rfl (still_pickF rfl ot (by first | rfl | assumption) opd_const) (by exact trivial) ?_
        refine AD0.later rfl ?_
        refine AD.wk (y := ⟨80, [(1, _), (2, _), (5, _), (6, _), (8, _), (17, _), (18, _), (19, _), (44, _)], (⟨b8, 27, 3, [_, _, _]⟩ :: ⟨b5, 27, 3, [_, _, _]⟩ :: ⟨b2, 25, 2, [_, _]⟩ :: Sw)⟩) (Wk.as_ rfl rfl ⟨lk, lk, lk, lk, lk, lk, lk, lk, lk, trivial⟩) rfl ?_
        refine AD.done (by kernel_rfl) ?_
        refine CD.condF ot (by first | rfl | assumption) ?_
        have hcl : ¬ clash q held[k] = true := by unfold clash; subst hq; simp_all
        refine CD.skip ?_
        refine CD.region ?_
        refine OD.still (wants_plain rfl) rfl (still_bin rfl ot opd_const (bin_add (wrap_i64 (by omega) (by omega)))) ?_
        refine OD.still (wants_plain rfl) rfl (still_mv rfl ot) ?_
        refine OD.wk (Wk.as_ (n := 80) (l' := [(1, _), (2, _), (5, _), (6, _), (17, _), (18, _), (19, _)]) (S' := (⟨b8, 27, 3, [_, _, _]⟩ :: ⟨b5, 27, 3, [_, _, _]⟩ :: ⟨b2, 25, 2, [_, _]⟩ :: Sw)) rfl rfl ⟨lk, lk, lk, lk, lk, lk, lk, trivial⟩) ?_
        refine OD.nil ?_
        refine ⟨((k + 1), adw, cpw, Sw), ⟨80, [(1, .v (.int .i64 (i : Int))), (2, .v (.pointer (some ⟨b2, 0, none⟩))), (5, .v (.pointer (some ⟨b5, 0, none⟩))), (6, .v (.slice adw (([] ++ ((held.take ((k + 1))).filter (clash q)).map L.t)).length cpw)), (17, .list 3 (held.flatMap cL) held.length), (18, .v (.int .i64 (held.length : Nat))), (19, .v (.int .i64 (((k + 1)) : Nat)))], ((⟨b5, 27, 3, cL queue[i]⟩ : Blk) :: (⟨b2, 25, 2, [.list 3 (held.flatMap cL) held.length, .list 3 (queue.flatMap cL) queue.length]⟩ : Blk) :: Sw)⟩, ?_, Wk.asS (n := 80) rfl (by repeat (first | exact List.Sublist.refl _ | apply List.Sublist.cons_cons | apply List.Sublist.cons)) ⟨(by (repeat (first | exact look_hit | (apply look_at; focus (first | rfl | (simp; done) | (congr 2; omega) | (apply row_eq; first | exact filt_hit hlt hcl | exact filt_miss hlt hcl) | (apply row_eq; simp; done))) | (apply look_miss; focus rfl))); done), (by (repeat (first | exact look_hit | (apply look_at; focus (first | rfl | (simp; done) | (congr 2; omega) | (apply row_eq; first | exact filt_hit hlt hcl | exact filt_miss hlt hcl) | (apply row_eq; simp; done))) | (apply look_miss; focus rfl))); done), (by (repeat (first | exact look_hit | (apply look_at; focus (first | rfl | (simp; done) | (congr 2; omega) | (apply row_eq; first | exact filt_hit hlt hcl | exact filt_miss hlt hcl) | (apply row_eq; simp; done))) | (apply look_miss; focus rfl))); done), (by (repeat (first | exact look_hit | (apply look_at; focus (first | rfl | (simp; done) | (congr 2; omega) | (apply row_eq; first | exact filt_hit hlt hcl | exact filt_miss hlt hcl) | (apply row_eq; simp; done))) | (apply look_miss; focus rfl))); done), (by (repeat (first | exact look_hit | (apply look_at; focus (first | rfl | (simp; done) | (congr 2; omega) | (apply row_eq; first | exact filt_hit hlt hcl | exact filt_miss hlt hcl) | (apply row_eq; simp; done))) | (apply look_miss; focus rfl))); done), (by (repeat (first | exact look_hit | (apply look_at; focus (first | rfl | (simp; done) | (congr 2; omega) | (apply row_eq; first | exact filt_hit hlt hcl | exact filt_miss hlt hcl) | (apply row_eq; simp; done))) | (apply look_miss; focus rfl))); done), (by (repeat (first | exact look_hit | (apply look_at; focus (first | rfl | (simp; done) | (congr 2; omega) | (apply row_eq; first | exact filt_hit hlt hcl | exact filt_miss hlt hcl) | (apply row_eq; simp; done))) | (apply look_miss; focus rfl))); done), trivial⟩, (by omega), (OwnL.cast how (by first | exact filt_hit hlt hcl | exact filt_miss hlt hcl)), rfl⟩
        first | omega | (simp only []; omega)
    · have hg28' := hg28; (try simp only [decide_eq_true_eq, decide_eq_false_iff_not, beq_iff_eq, bne_iff_ne, Bool.not_eq_true', Bool.not_eq_false', Bool.not_eq_true, Bool.not_eq_false, beq_eq_false_iff_ne, ne_eq, bne_eq_false_iff_eq, Bool.and_eq_true, Bool.or_eq_true, Bool.not_not, Bool.and_eq_false_iff, Bool.or_eq_false_iff, Int.not_lt, Int.not_le] at hg28')
      refine AD0.takeSkip (i := 6) rfl (by kernel_rfl) (by kernel_rfl) (by kernel_rfl) (by repeat (first | exact NP.body | apply NP.then | apply NP.cut | apply NP.inBlock | apply NP.round)) (wants_F rfl rfl rfl lk (by first | rfl | assumption)) rfl ?_
      refine AD0.takeSkip (i := 7) rfl (by kernel_rfl) (by kernel_rfl) (by kernel_rfl) (by repeat (first | exact NP.body | apply NP.then | apply NP.cut | apply NP.inBlock | apply NP.round)) (wants_F rfl rfl rfl lk (by first | rfl | assumption)) rfl ?_
      refine AD0.takeSkip (i := 8) rfl (by kernel_rfl) (by kernel_rfl) (by kernel_rfl) (by repeat (first | exact NP.body | apply NP.then | apply NP.cut | apply NP.inBlock | apply NP.round)) (wants_F rfl rfl rfl lk (by first | rfl | assumption)) rfl ?_
      refine AD0.takeSkip (i := 9) rfl (by kernel_rfl) (by kernel_rfl) (by kernel_rfl) (by repeat (first | exact NP.body | apply NP.then | apply NP.cut | apply NP.inBlock | apply NP.round)) (wants_F rfl rfl rfl lk (by first | rfl | assumption)) rfl ?_
      refine AD0.takeSkip (i := 10) rfl (by kernel_rfl) (by kernel_rfl) (by kernel_rfl) (by repeat (first | exact NP.body | apply NP.then | apply NP.cut | apply NP.inBlock | apply NP.round)) (wants_F rfl rfl rfl lk (by first | rfl | assumption)) rfl ?_
      refine AD0.take (i := 11) rfl (by kernel_rfl) (by kernel_rfl) (by kernel_rfl) (by repeat (first | exact NP.body | apply NP.then | apply NP.cut | apply NP.inBlock | apply NP.round)) (wants_plain rfl) rfl (still_pickF rfl ot (by first | rfl | assumption) opd_const) (by exact trivial) ?_
      refine AD0.take (i := 12) rfl (by kernel_rfl) (by kernel_rfl) (by kernel_rfl) (by repeat (first | exact NP.body | apply NP.then | apply NP.cut | apply NP.inBlock | apply NP.round)) (wants_plain rfl) rfl (still_mv rfl ot) (by exact trivial) ?_
      refine AD0.takeSkip (i := 13) rfl (by kernel_rfl) (by kernel_rfl) (by kernel_rfl) (by repeat (first | exact NP.body | apply NP.then | apply NP.cut | apply NP.inBlock | apply NP.round)) (wants_F rfl rfl rfl lk (by first | rfl | assumption)) rfl ?_
      refine AD0.takeSkip (i := 14) rfl (by kernel_rfl) (by kernel_rfl) (by kernel_rfl) (by repeat (first | exact NP.body | apply NP.then | apply NP.cut | apply NP.inBlock | apply NP.round)) (wants_F rfl rfl rfl lk (by first | rfl | assumption)) rfl ?_
      refine AD0.takeSkip (i := 15) rfl (by kernel_rfl) (by kernel_rfl) (by kernel_rfl) (by repeat (first | exact NP.body | apply NP.then | apply NP.cut | apply NP.inBlock | apply NP.round)) (wants_F rfl rfl rfl lk (by first | rfl | assumption)) rfl ?_
      refine AD0.takeSkip (i := 16) rfl (by kernel_rfl) (by kernel_rfl) (by kernel_rfl) (by repeat (first | exact NP.body | apply NP.then | apply NP.cut | apply NP.inBlock | apply NP.round)) (wants_F rfl rfl rfl lk (by first | rfl | assumption)) rfl ?_
      refine AD0.takeSkip (i := 17) rfl (by kernel_rfl) (by kernel_rfl) (by kernel_rfl) (by repeat (first | exact NP.body | apply NP.then | apply NP.cut | apply NP.inBlock | apply NP.round)) (wants_F rfl rfl rfl lk (by first | rfl | assumption)) rfl ?_
      refine AD0.takeSkip (i := 18) rfl (by kernel_rfl) (by kernel_rfl) (by kernel_rfl) (by repeat (first | exact NP.body | apply NP.then | apply NP.cut | apply NP.inBlock | apply NP.round)) (wants_F rfl rfl rfl lk (by first | rfl | assumption)) rfl ?_
      refine AD0.takeSkip (i := 19) rfl (by kernel_rfl) (by kernel_rfl) (by kernel_rfl) (by repeat (first | exact NP.body | apply NP.then | apply NP.cut | apply NP.inBlock | apply NP.round)) (wants_F rfl rfl rfl lk (by first | rfl | assumption)) rfl ?_
      refine AD0.takeSkip (i := 20) rfl (by kernel_rfl) (by kernel_rfl) (by kernel_rfl) (by repeat (first | exact NP.body | apply NP.then | apply NP.cut | apply NP.inBlock | apply NP.round)) (wants_F rfl rfl rfl lk (by first | rfl | assumption)) rfl ?_
      refine AD0.take (i := 21) rfl (by kernel_rfl) (by kernel_rfl) (by kernel_rfl) (by repeat (first | exact NP.body | apply NP.then | apply NP.cut | apply NP.inBlock | apply NP.round)) (wants_plain rfl) rfl (still_pickF rfl ot (by first | rfl | assumption) opd_const) (by exact trivial) ?_
      refine AD0.later rfl ?_
      refine AD.wk (y := ⟨80, [(1, _), (2, _), (5, _), (6, _), (8, _), (17, _), (18, _), (19, _), (44, _)], (⟨b8, 27, 3, [_, _, _]⟩ :: ⟨b5, 27, 3, [_, _, _]⟩ :: ⟨b2, 25, 2, [_, _]⟩ :: Sw)⟩) (Wk.as_ rfl rfl ⟨lk, lk, lk, lk, lk, lk, lk, lk, lk, trivial⟩) rfl ?_
      refine AD.done (by kernel_rfl) ?_
      refine CD.condF ot (by first | rfl | assumption) ?_
      have hcl : ¬ clash q held[k] = true := by unfold clash; subst hq; simp_all
      refine CD.skip ?_
      refine CD.region ?_
      refine OD.still (wants_plain rfl) rfl (still_bin rfl ot opd_const (bin_add (wrap_i64 (by omega) (by omega)))) ?_
      refine OD.still (wants_plain rfl) rfl (still_mv rfl ot) ?_
      refine OD.wk (Wk.as_ (n := 80) (l' := [(1, _), (2, _), (5, _), (6, _), (17, _), (18, _), (19, _)]) (S' := (⟨b8, 27, 3, [_, _, _]⟩ :: ⟨b5, 27, 3, [_, _, _]⟩ :: ⟨b2, 25, 2, [_, _]⟩ :: Sw)) rfl rfl ⟨lk, lk, lk, lk, lk, lk, lk, trivial⟩) ?_
      refine OD.nil ?_
      refine ⟨((k + 1), adw, cpw, Sw), ⟨80, [(1, .v (.int .i64 (i : Int))), (2, .v (.pointer (some ⟨b2, 0, none⟩))), (5, .v (.pointer (some ⟨b5, 0, none⟩))), (6, .v (.slice adw (([] ++ ((held.take ((k + 1))).filter (clash q)).map L.t)).length cpw)), (17, .list 3 (held.flatMap cL) held.length), (18, .v (.int .i64 (held.length : Nat))), (19, .v (.int .i64 (((k + 1)) : Nat)))], ((⟨b5, 27, 3, cL queue[i]⟩ : Blk) :: (⟨b2, 25, 2, [.list 3 (held.flatMap cL) held.length, .list 3 (queue.flatMap cL) queue.length]⟩ : Blk) :: Sw)⟩, ?_, Wk.asS (n := 80) rfl (by repeat (first | exact List.Sublist.refl _ | apply List.Sublist.cons_cons | apply List.Sublist.cons)) ⟨(by (repeat (first | exact look_hit | (apply look_at; focus (first | rfl | (simp; done) | (congr 2; omega) | (apply row_eq; first | exact filt_hit hlt hcl | exact filt_miss hlt hcl) | (apply row_eq; simp; done))) | (apply look_miss; focus rfl))); done), (by (repeat (first | exact look_hit | (apply look_at; focus (first | rfl | (simp; done) | (congr 2; omega) | (apply row_eq; first | exact filt_hit hlt hcl | exact filt_miss hlt hcl) | (apply row_eq; simp; done))) | (apply look_miss; focus rfl))); done), (by (repeat (first | exact look_hit | (apply look_at; focus (first | rfl | (simp; done) | (congr 2; omega) | (apply row_eq; first | exact filt_hit hlt hcl | exact filt_miss hlt hcl) | (apply row_eq; simp; done))) | (apply look_miss; focus rfl))); done), (by (repeat (first | exact look_hit | (apply look_at; focus (first | rfl | (simp; done) | (congr 2; omega) | (apply row_eq; first | exact filt_hit hlt hcl | exact filt_miss hlt hcl) | (apply row_eq; simp; done))) | (apply look_miss; focus rfl))); done), (by (repeat (first | exact look_hit | (apply look_at; focus (first | rfl | (simp; done) | (congr 2; omega) | (apply row_eq; first | exact filt_hit hlt hcl | exact filt_miss hlt hcl) | (apply row_eq; simp; done))) | (apply look_miss; focus rfl))); done), (by (repeat (first | exact look_hit | (apply look_at; focus (first | rfl | (simp; done) | (congr 2; omega) | (apply row_eq; first | exact filt_hit hlt hcl | exact filt_miss hlt hcl) | (apply row_eq; simp; done))) | (apply look_miss; focus rfl))); done), (by (repeat (first | exact look_hit | (apply look_at; focus (first | rfl | (simp; done) | (congr 2; omega) | (apply row_eq; first | exact filt_hit hlt hcl | exact filt_miss hlt hcl) | (apply row_eq; simp; done))) | (apply look_miss; focus rfl))); done), trivial⟩, (by omega), (OwnL.cast how (by first | exact filt_hit hlt hcl | exact filt_miss hlt hcl)), rfl⟩
      first | omega | (simp only []; omega)
  · have hc0' := hc0
    (try simp only [decide_eq_true_eq, decide_eq_false_iff_not, beq_iff_eq, bne_iff_ne, Bool.not_eq_true', Bool.not_eq_false', Bool.not_eq_true, Bool.not_eq_false, beq_eq_false_iff_ne, ne_eq, bne_eq_false_iff_eq, Bool.and_eq_true, Bool.or_eq_true, Bool.not_not, Bool.and_eq_false_iff, Bool.or_eq_false_iff, Int.not_lt, Int.not_le] at hc0')
    have hfull : held.take k = held := List.take_of_length_le (by omega)
    refine CD.exit ?_
    refine CD.seq ?_
    refine CD.seq ?_
    refine CD.region ?_
    refine OD.still (wants_plain rfl) rfl (still_r1 (mk := fun y => Op.fieldAddr 25 y 0) rfl ot (by first | exact fa_ptr (off := 0) Tryd.runUnderlying25 rfl Tryd.sizeOf23 rfl | exact fa_iptr (off := 0) Tryd.runUnderlying25 rfl Tryd.sizeOf23 rfl)) ?_
    refine OD.still (wants_plain rfl) rfl (still_r1 (mk := Op.load 23) rfl ot (by first | exact ld_blk (k := 1) rfl rfl Tryd.isAgg23 rfl | exact ld_fm cL_len Tryd.isAgg23 (by first | assumption | omega) rfl | exact ld_fm0 cL_len Tryd.isAgg23 (by first | assumption | omega) rfl | exact ld_row (k := 0) cL_len rfl rfl rfl Tryd.isAgg23 (by first | assumption | omega) rfl | exact ld_row0 (k := 0) cL_len rfl rfl rfl Tryd.isAgg23 (by first | assumption | omega) rfl | exact ld_row (k := 1) cL_len rfl rfl rfl Tryd.isAgg23 (by first | assumption | omega) rfl | exact ld_row0 (k := 1) cL_len rfl rfl rfl Tryd.isAgg23 (by first | assumption | omega) rfl | exact ld_i Tryd.isAgg23 rfl | exact ld_tab (List.mem_cons_self) Tryd.isAgg23 (fitsC_off (by omega) (by omega) (by omega) (by omega)))) ?_
    refine OD.still (wants_plain rfl) rfl (still_r1 (mk := fun y => Op.fieldAddr 27 y 0) rfl ot (by first | exact fa_ptr (off := 0) Tryd.runUnderlying27 rfl Tryd.sizeOf3 rfl | exact fa_iptr (off := 0) Tryd.runUnderlying27 rfl Tryd.sizeOf3 rfl)) ?_
    refine OD.still (wants_plain rfl) rfl (still_r1 (mk := Op.load 3) rfl ot (by first | exact ld_blk (k := 0) rfl rfl Tryd.isAgg3 rfl | exact ld_fm cL_len Tryd.isAgg3 (by first | assumption | omega) rfl | exact ld_fm0 cL_len Tryd.isAgg3 (by first | assumption | omega) rfl | exact ld_row (k := 0) cL_len rfl rfl rfl Tryd.isAgg3 (by first | assumption | omega) rfl | exact ld_row0 (k := 0) cL_len rfl rfl rfl Tryd.isAgg3 (by first | assumption | omega) rfl | exact ld_row (k := 1) cL_len rfl rfl rfl Tryd.isAgg3 (by first | assumption | omega) rfl | exact ld_row0 (k := 1) cL_len rfl rfl rfl Tryd.isAgg3 (by first | assumption | omega) rfl | exact ld_i Tryd.isAgg3 rfl | exact ld_tab (List.mem_cons_self) Tryd.isAgg3 (fitsC_off (by omega) (by omega) (by omega) (by omega)))) ?_
    refine OD.still (wants_plain rfl) rfl (still_r1 (mk := fun y => Op.fieldAddr 27 y 1) rfl ot (by first | exact fa_ptr (off := 1) Tryd.runUnderlying27 rfl Tryd.sizeOf9 rfl | exact fa_iptr (off := 1) Tryd.runUnderlying27 rfl Tryd.sizeOf9 rfl)) ?_
    refine OD.still (wants_plain rfl) rfl (still_r1 (mk := Op.load 9) rfl ot (by first | exact ld_blk (k := 0) rfl rfl Tryd.isAgg9 rfl | exact ld_fm cL_len Tryd.isAgg9 (by first | assumption | omega) rfl | exact ld_fm0 cL_len Tryd.isAgg9 (by first | assumption | omega) rfl | exact ld_row (k := 0) cL_len rfl rfl rfl Tryd.isAgg9 (by first | assumption | omega) rfl | exact ld_row0 (k := 0) cL_len rfl rfl rfl Tryd.isAgg9 (by first | assumption | omega) rfl | exact ld_row (k := 1) cL_len rfl rfl rfl Tryd.isAgg9 (by first | assumption | omega) rfl | exact ld_row0 (k := 1) cL_len rfl rfl rfl Tryd.isAgg9 (by first | assumption | omega) rfl | exact ld_i Tryd.isAgg9 rfl | exact ld_tab (List.mem_cons_self) Tryd.isAgg9 (fitsC_off (by omega) (by omega) (by omega) (by omega)))) ?_
    refine OD.callP (wants_plain rfl) rfl rfl rfl Tryd.call29 (find_vp _ held queue[i].t queue[i].th (by omega)) ⟨ot, ot, ot, trivial⟩ ?_
    refine OD.still (wants_plain rfl) rfl (still_bin rfl ot opd_const bin_lss) ?_
    refine OD.wk (Wk.as_ (n := 80) (l' := [(1, _), (2, _), (5, _), (6, _), (58, _)]) (S' := (⟨b5, 27, 3, [_, _, _]⟩ :: ⟨b2, 25, 2, [_, _]⟩ :: Sw)) rfl rfl ⟨lk, lk, lk, lk, lk, trivial⟩) ?_
    refine OD.nil ?_
    refine CD.cond ot (fun hc2 => ?_) (fun hc2 => ?_)
    · have hc2' := hc2
      (try simp only [decide_eq_true_eq, decide_eq_false_iff_not, beq_iff_eq, bne_iff_ne, Bool.not_eq_true', Bool.not_eq_false', Bool.not_eq_true, Bool.not_eq_false, beq_eq_false_iff_ne, ne_eq, bne_eq_false_iff_eq, Bool.and_eq_true, Bool.or_eq_true, Bool.not_not, Bool.and_eq_false_iff, Bool.or_eq_false_iff, Int.not_lt, Int.not_le] at hc2')
      have hneg : findI held q.t q.th < 0 := by subst hq; simpa using hc2
      refine CD.seq ?_
      refine CD.region ?_
      refine OD.still (wants_plain rfl) rfl (still_r1 (mk := fun y => Op.fieldAddr 25 y 1) rfl ot (by first | exact fa_ptr (off := 1) Tryd.runUnderlying25 rfl Tryd.sizeOf23 rfl | exact fa_iptr (off := 1) Tryd.runUnderlying25 rfl Tryd.sizeOf23 rfl)) ?_
      refine OD.still (wants_plain rfl) rfl (still_r1 (mk := Op.load 23) rfl ot (by first | exact ld_blk (k := 1) rfl rfl Tryd.isAgg23 rfl | exact ld_fm cL_len Tryd.isAgg23 (by first | assumption | omega) rfl | exact ld_fm0 cL_len Tryd.isAgg23 (by first | assumption | omega) rfl | exact ld_row (k := 0) cL_len rfl rfl rfl Tryd.isAgg23 (by first | assumption | omega) rfl | exact ld_row0 (k := 0) cL_len rfl rfl rfl Tryd.isAgg23 (by first | assumption | omega) rfl | exact ld_row (k := 1) cL_len rfl rfl rfl Tryd.isAgg23 (by first | assumption | omega) rfl | exact ld_row0 (k := 1) cL_len rfl rfl rfl Tryd.isAgg23 (by first | assumption | omega) rfl | exact ld_i Tryd.isAgg23 rfl | exact ld_tab (List.mem_cons_self) Tryd.isAgg23 (fitsC_off (by omega) (by omega) (by omega) (by omega)))) ?_
      refine OD.still (wants_plain rfl) rfl (still_mv rfl ot) ?_
      refine OD.still (wants_plain rfl) rfl (still_rs (l := 0) rfl ot trivial ⟨_, ot⟩ (by first | exact sl_head cL_len (fun h => by cases h) Tryd.runUnderlying23 Tryd.sizeOf27 (by omega) | exact sl_row (fun h => by cases h) Tryd.runUnderlying23 Tryd.sizeOf27 (by omega) | exact sl_list (fun _ => rfl) (fun h => by cases h) Tryd.runUnderlying23 Tryd.sizeOf27 (by omega) (by omega))) ?_
      refine OD.still (wants_plain rfl) rfl (still_r1 (mk := fun y => .call { callee := .builtin .len, args := #[y], argTypes := #[23] }) rfl ot (by first | exact len_list rfl Tryd.runUnderlying23 | exact len_row rfl Tryd.runUnderlying23)) ?_
      refine OD.still (wants_plain rfl) rfl (still_mv rfl opd_const) ?_
      refine OD.wk (Wk.as_ (n := 80) (l' := [(5, _), (6, _), (62, _), (63, _), (64, _)]) (S' := (⟨b5, 27, 3, [_, _, _]⟩ :: ⟨b2, 25, 2, [_, _]⟩ :: Sw)) rfl rfl ⟨lk, lk, lk, lk, lk, trivial⟩) ?_
      refine OD.nil ?_
      refine CD.block ?_
      refine CD.wk (Wk.asS (n := 80) (l' := [(5, .v (.pointer (some ⟨b5, 0, none⟩))), (6, .v (.slice adw (((([] ++ ((held.take k).filter (clash q)).map L.t)) ++ (((queue.take i).take (0)).filter (onTh q)).map L.t)).length cpw)), (62, .list 3 ((queue.take i).flatMap cL) (queue.take i).length), (63, .v (.int .i64 ((queue.take i).length : Nat))), (64, .v (.int .i64 ((0) : Nat)))]) (S' := ((⟨b5, 27, 3, cL queue[i]⟩ : Blk) :: (⟨b2, 25, 2, [.list 3 (held.flatMap cL) held.length, .list 3 (queue.flatMap cL) queue.length]⟩ : Blk) :: Sw)) rfl (by repeat (first | exact List.Sublist.refl _ | apply List.Sublist.cons_cons | apply List.Sublist.cons)) ⟨(by (repeat (first | exact look_hit | (apply look_at; focus (first | rfl | (simp; done) | (congr 2; omega) | (apply row_eq; first | exact filt_hit hlt2 hth | exact filt_miss hlt2 hth) | (apply row_eq; simp; done))) | (apply look_miss; focus rfl))); done), (by (repeat (first | exact look_hit | (apply look_at; focus (first | rfl | (simp; done) | (congr 2; omega) | (apply row_eq; first | exact filt_hit hlt2 hth | exact filt_miss hlt2 hth) | (apply row_eq; simp; done))) | (apply look_miss; focus rfl))); done), (by (repeat (first | exact look_hit | (apply look_at; focus (first | rfl | (simp; done) | (congr 2; omega) | (apply row_eq; first | exact filt_hit hlt2 hth | exact filt_miss hlt2 hth) | (apply row_eq; simp; done))) | (apply look_miss; focus rfl))); done), (by (repeat (first | exact look_hit | (apply look_at; focus (first | rfl | (simp; done) | (congr 2; omega) | (apply row_eq; first | exact filt_hit hlt2 hth | exact filt_miss hlt2 hth) | (apply row_eq; simp; done))) | (apply look_miss; focus rfl))); done), (by (repeat (first | exact look_hit | (apply look_at; focus (first | rfl | (simp; done) | (congr 2; omega) | (apply row_eq; first | exact filt_hit hlt2 hth | exact filt_miss hlt2 hth) | (apply row_eq; simp; done))) | (apply look_miss; focus rfl))); done), trivial⟩) (CD.loop (fun (gh__ : Nat × Option Addr × Nat × List Blk) y__ => match gh__ with | (j, adw, cpw, Sw) => (j ≤ (queue.take i).length) ∧ (OwnL 3 1 ((((([] ++ ((held.take k).filter (clash q)).map L.t)) ++ (((queue.take i).take j).filter (onTh q)).map L.t)).flatMap cI) (((([] ++ ((held.take k).filter (clash q)).map L.t)) ++ (((queue.take i).take j).filter (onTh q)).map L.t)).length adw cpw Sw) ∧ y__ = (⟨80, [(5, .v (.pointer (some ⟨b5, 0, none⟩))), (6, .v (.slice adw (((([] ++ ((held.take k).filter (clash q)).map L.t)) ++ (((queue.take i).take j).filter (onTh q)).map L.t)).length cpw)), (62, .list 3 ((queue.take i).flatMap cL) (queue.take i).length), (63, .v (.int .i64 ((queue.take i).length : Nat))), (64, .v (.int .i64 (j : Nat)))], ((⟨b5, 27, 3, cL queue[i]⟩ : Blk) :: (⟨b2, 25, 2, [.list 3 (held.flatMap cL) held.length, .list 3 (queue.flatMap cL) queue.length]⟩ : Blk) :: Sw)⟩ : St)) (fun (gh__ : Nat × Option Addr × Nat × List Blk) => match gh__ with | (j, adw, cpw, Sw) => (queue.take i).length - j) (0, adw, cpw, Sw) ⟨(Nat.zero_le _), (OwnL.cast how (by first | rfl | simp)), rfl⟩ ?_)
      rintro ⟨j, adw, cpw, Sw⟩ _ ⟨hj, how, rfl⟩
      refine CD.seq ?_
      refine CD.region ?_
      refine OD.still (wants_plain rfl) rfl (still_bin rfl ot ot bin_lss) ?_
      refine OD.wk (Wk.as_ (n := 80) (l' := [(5, _), (6, _), (62, _), (63, _), (64, _), (65, _)]) (S' := (⟨b5, 27, 3, [_, _, _]⟩ :: ⟨b2, 25, 2, [_, _]⟩ :: Sw)) rfl rfl ⟨lk, lk, lk, lk, lk, lk, trivial⟩) ?_
      refine OD.nil ?_
      refine CD.seq ?_
      refine CD.cond ot (fun hc3 => ?_) (fun hc3 => ?_)
      · have hc3' := hc3
        (try simp only [decide_eq_true_eq, decide_eq_false_iff_not, beq_iff_eq, bne_iff_ne, Bool.not_eq_true', Bool.not_eq_false', Bool.not_eq_true, Bool.not_eq_false, beq_eq_false_iff_ne, ne_eq, bne_eq_false_iff_eq, Bool.and_eq_true, Bool.or_eq_true, Bool.not_not, Bool.and_eq_false_iff, Bool.or_eq_false_iff, Int.not_lt, Int.not_le] at hc3')
        have hlt2 : j < (queue.take i).length := by omega
        refine CD.skip ?_
        refine CD.seq ?_
        refine CD.block ?_
        refine CD.seq ?_
        refine CD.region ?_
        refine OD.still (wants_plain rfl) rfl (still_r2 (mk := Op.indexAddr 23) rfl ot ot (by first | exact ix_list Tryd.runUnderlying23 Tryd.sizeOf27 rfl (by first | assumption | omega) | exact ix_list (j := Int.toNat _) Tryd.runUnderlying23 Tryd.sizeOf27 (Int.toNat_of_nonneg (by omega)).symm (by omega) | exact ix_row Tryd.runUnderlying23 Tryd.sizeOf27 rfl (by first | assumption | omega) | exact ix_row (j := Int.toNat _) Tryd.runUnderlying23 Tryd.sizeOf27 (Int.toNat_of_nonneg (by omega)).symm (by omega))) ?_
        refine OD.still (wants_plain rfl) rfl (still_r1 (mk := Op.load 27) rfl ot (by first | exact ld_blks (k := 0) (ds := [_, _, _]) rfl rfl Tryd.isAgg27 Tryd.sizeOf27 rfl rfl | exact ld_blks (k := 1) (ds := [_, _, _]) rfl rfl Tryd.isAgg27 Tryd.sizeOf27 rfl rfl | exact ld_fms cL_len Tryd.isAgg27 Tryd.sizeOf27 (by first | assumption | omega) | exact ld_rows (k := 0) cL_len rfl rfl rfl Tryd.isAgg27 Tryd.sizeOf27 (by first | assumption | omega) | exact ld_rows (k := 1) cL_len rfl rfl rfl Tryd.isAgg27 Tryd.sizeOf27 (by first | assumption | omega) | exact ld_is (ds := [_, _, _]) Tryd.isAgg27 Tryd.sizeOf27 rfl rfl)) ?_
        refine OD.alloc (ds := [_, _, _]) (wants_plain rfl) rfl rfl Tryd.zeroValue27 rfl (fun b10 => ?_)
        refine OD.store (k := 0) (cs' := [_, _, _]) (wants_plain rfl) rfl rfl ot rfl rfl ot rfl rfl Tryd.sizeOf27 rfl rfl rfl ?_
        refine OD.wk (Wk.as_ (n := 80) (l' := [(5, _), (6, _), (10, _), (62, _), (63, _), (64, _)]) (S' := (⟨b10, 27, 3, [_, _, _]⟩ :: ⟨b5, 27, 3, [_, _, _]⟩ :: ⟨b2, 25, 2, [_, _]⟩ :: Sw)) rfl rfl ⟨lk, lk, lk, lk, lk, lk, trivial⟩) ?_
        refine OD.nil ?_
        refine CD.seq ?_
        refine CD.region ?_
        refine OD.still (wants_plain rfl) rfl (still_r1 (mk := fun y => Op.fieldAddr 27 y 1) rfl ot (by first | exact fa_ptr (off := 1) Tryd.runUnderlying27 rfl Tryd.sizeOf9 rfl | exact fa_iptr (off := 1) Tryd.runUnderlying27 rfl Tryd.sizeOf9 rfl)) ?_
        refine OD.still (wants_plain rfl) rfl (still_r1 (mk := Op.load 9) rfl ot (by first | exact ld_blk (k := 0) rfl rfl Tryd.isAgg9 rfl | exact ld_fm cL_len Tryd.isAgg9 (by first | assumption | omega) rfl | exact ld_fm0 cL_len Tryd.isAgg9 (by first | assumption | omega) rfl | exact ld_row (k := 0) cL_len rfl rfl rfl Tryd.isAgg9 (by first | assumption | omega) rfl | exact ld_row0 (k := 0) cL_len rfl rfl rfl Tryd.isAgg9 (by first | assumption | omega) rfl | exact ld_row (k := 1) cL_len rfl rfl rfl Tryd.isAgg9 (by first | assumption | omega) rfl | exact ld_row0 (k := 1) cL_len rfl rfl rfl Tryd.isAgg9 (by first | assumption | omega) rfl | exact ld_row (k := 2) cL_len rfl rfl rfl Tryd.isAgg9 (by first | assumption | omega) rfl | exact ld_row0 (k := 2) cL_len rfl rfl rfl Tryd.isAgg9 (by first | assumption | omega) rfl | exact ld_i Tryd.isAgg9 rfl | exact ld_tab (List.mem_cons_self) Tryd.isAgg9 (fitsC_off (by omega) (by omega) (by omega) (by omega)))) ?_
        refine OD.still (wants_plain rfl) rfl (still_r1 (mk := fun y => Op.fieldAddr 27 y 1) rfl ot (by first | exact fa_ptr (off := 1) Tryd.runUnderlying27 rfl Tryd.sizeOf9 rfl | exact fa_iptr (off := 1) Tryd.runUnderlying27 rfl Tryd.sizeOf9 rfl)) ?_
        refine OD.still (wants_plain rfl) rfl (still_r1 (mk := Op.load 9) rfl ot (by first | exact ld_blk (k := 1) rfl rfl Tryd.isAgg9 rfl | exact ld_fm cL_len Tryd.isAgg9 (by first | assumption | omega) rfl | exact ld_fm0 cL_len Tryd.isAgg9 (by first | assumption | omega) rfl | exact ld_row (k := 0) cL_len rfl rfl rfl Tryd.isAgg9 (by first | assumption | omega) rfl | exact ld_row0 (k := 0) cL_len rfl rfl rfl Tryd.isAgg9 (by first | assumption | omega) rfl | exact ld_row (k := 1) cL_len rfl rfl rfl Tryd.isAgg9 (by first | assumption | omega) rfl | exact ld_row0 (k := 1) cL_len rfl rfl rfl Tryd.isAgg9 (by first | assumption | omega) rfl | exact ld_row (k := 2) cL_len rfl rfl rfl Tryd.isAgg9 (by first | assumption | omega) rfl | exact ld_row0 (k := 2) cL_len rfl rfl rfl Tryd.isAgg9 (by first | assumption | omega) rfl | exact ld_i Tryd.isAgg9 rfl | exact ld_tab (List.mem_cons_self) Tryd.isAgg9 (fitsC_off (by omega) (by omega) (by omega) (by omega)))) ?_
        refine OD.still (wants_plain rfl) rfl (still_bin rfl ot ot bin_seql) ?_
        refine OD.wk (Wk.as_ (n := 80) (l' := [(5, _), (6, _), (10, _), (62, _), (63, _), (64, _), (72, _)]) (S' := (⟨b10, 27, 3, [_, _, _]⟩ :: ⟨b5, 27, 3, [_, _, _]⟩ :: ⟨b2, 25, 2, [_, _]⟩ :: Sw)) rfl rfl ⟨lk, lk, lk, lk, lk, lk, lk, trivial⟩) ?_
        refine OD.nil ?_
        refine CD.cond ot (fun hc4 => ?_) (fun hc4 => ?_)
        · have hc4' := hc4
          (try simp only [decide_eq_true_eq, decide_eq_false_iff_not, beq_iff_eq, bne_iff_ne, Bool.not_eq_true', Bool.not_eq_false', Bool.not_eq_true, Bool.not_eq_false, beq_eq_false_iff_ne, ne_eq, bne_eq_false_iff_eq, Bool.and_eq_true, Bool.or_eq_true, Bool.not_not, Bool.and_eq_false_iff, Bool.or_eq_false_iff, Int.not_lt, Int.not_le] at hc4')
          have hth : onTh q (queue.take i)[j] = true := by unfold onTh; subst hq; simp_all
          refine CD.region ?_
          refine OD.still (wants_plain rfl) rfl (still_mv rfl ot) ?_
          refine OD.still (wants_plain rfl) rfl (still_r1 (mk := fun y => Op.fieldAddr 27 y 0) rfl ot (by first | exact fa_ptr (off := 0) Tryd.runUnderlying27 rfl Tryd.sizeOf3 rfl | exact fa_iptr (off := 0) Tryd.runUnderlying27 rfl Tryd.sizeOf3 rfl)) ?_
          refine OD.still (wants_plain rfl) rfl (still_r1 (mk := Op.load 3) rfl ot (by first | exact ld_blk (k := 0) rfl rfl Tryd.isAgg3 rfl | exact ld_fm cL_len Tryd.isAgg3 (by first | assumption | omega) rfl | exact ld_fm0 cL_len Tryd.isAgg3 (by first | assumption | omega) rfl | exact ld_row (k := 0) cL_len rfl rfl rfl Tryd.isAgg3 (by first | assumption | omega) rfl | exact ld_row0 (k := 0) cL_len rfl rfl rfl Tryd.isAgg3 (by first | assumption | omega) rfl | exact ld_row (k := 1) cL_len rfl rfl rfl Tryd.isAgg3 (by first | assumption | omega) rfl | exact ld_row0 (k := 1) cL_len rfl rfl rfl Tryd.isAgg3 (by first | assumption | omega) rfl | exact ld_row (k := 2) cL_len rfl rfl rfl Tryd.isAgg3 (by first | assumption | omega) rfl | exact ld_row0 (k := 2) cL_len rfl rfl rfl Tryd.isAgg3 (by first | assumption | omega) rfl | exact ld_i Tryd.isAgg3 rfl | exact ld_tab (List.mem_cons_self) Tryd.isAgg3 (fitsC_off (by omega) (by omega) (by omega) (by omega)))) ?_
          refine OD.bldS (pl := [(0, _)]) (zvs := [.int .i64 0]) (ds := [_]) (wants_plain rfl) rfl rfl Tryd.zeroValue3 Tryd.runUnderlying34 Tryd.sizeOf3 rfl rfl (by kernel_rfl) ⟨rfl, ot, trivial⟩ rfl rfl (fun b76 => ?_)
          refine OD.give (k := 0) (t := 76) (sz := 1) (m := 1) rfl lk rfl rfl rfl (Nat.le_refl _) (by decide) ?_
          refine OD.appendG (ls := (((([] ++ ((held.take k).filter (clash q)).map L.t)) ++ (((queue.take i).take j).filter (onTh q)).map L.t))) (new := [(queue.take i)[j].t]) (Sq := Sw) cI_len cI_one (wants_plain rfl) rfl rfl Tryd.underlying34 info3_Lkj rfl (by decide) ot how (perm_r11 (A := [_, _, _])) ot (by simp) (by have hmx : maxLen = 9223372036854775807 := rfl; have q1 := filt_len (p := clash q) (l := held) (i := held.length); have q2 := filt_len (p := clash q) (l := held) (i := k); (try have q3 := filt_len (p := onTh q) (l := queue.take i) (i := j)); (try simp only [List.length_append, List.length_cons, List.length_nil]); omega) (by have hmx : maxLen = 9223372036854775807 := rfl; have q1 := filt_len (p := clash q) (l := held) (i := held.length); have q2 := filt_len (p := clash q) (l := held) (i := k); (try have q3 := filt_len (p := onTh q) (l := queue.take i) (i := j)); (try simp only [List.length_append, List.length_cons, List.length_nil]); omega) (fun b77 cp77 h177 h277 => ?_)
          refine OD.perm (perm_q11 (S1 := [⟨b77, 3, cp77 * 1, List.flatMap cI ((((([] ++ ((held.take k).filter (clash q)).map L.t)) ++ (((queue.take i).take j).filter (onTh q)).map L.t)) ++ [(queue.take i)[j].t])⟩]) (A := [_, _, _])) ?_
          refine OD.still (wants_plain rfl) rfl (still_as rfl ot) ?_
          refine OD.wk (Wk.as_ (n := 80) (l' := [(5, _), (6, _), (62, _), (63, _), (64, _)]) (S' := (⟨b10, 27, 3, [_, _, _]⟩ :: ⟨b5, 27, 3, [_, _, _]⟩ :: ⟨b2, 25, 2, [_, _]⟩ :: [⟨b77, 3, cp77 * 1, List.flatMap cI ((((([] ++ ((held.take k).filter (clash q)).map L.t)) ++ (((queue.take i).take j).filter (onTh q)).map L.t)) ++ [(queue.take i)[j].t])⟩])) rfl rfl ⟨lk, lk, lk, lk, lk, trivial⟩) ?_
          refine OD.nil ?_
          refine CD.region ?_
          refine OD.still (wants_plain rfl) rfl (still_bin rfl ot opd_const (bin_add (wrap_i64 (by omega) (by omega)))) ?_
          refine OD.still (wants_plain rfl) rfl (still_mv rfl ot) ?_
          refine OD.wk (Wk.as_ (n := 80) (l' := [(5, _), (6, _), (62, _), (63, _), (64, _)]) (S' := (⟨b10, 27, 3, [_, _, _]⟩ :: ⟨b5, 27, 3, [_, _, _]⟩ :: ⟨b2, 25, 2, [_, _]⟩ :: [⟨b77, 3, cp77 * 1, List.flatMap cI ((((([] ++ ((held.take k).filter (clash q)).map L.t)) ++ (((queue.take i).take j).filter (onTh q)).map L.t)) ++ [(queue.take i)[j].t])⟩])) rfl rfl ⟨lk, lk, lk, lk, lk, trivial⟩) ?_
          refine OD.nil ?_
          refine ⟨((j + 1), (some ⟨b77, 0, none⟩), cp77, [⟨b77, 3, cp77 * 1, List.flatMap cI ((((([] ++ ((held.take k).filter (clash q)).map L.t)) ++ (((queue.take i).take j).filter (onTh q)).map L.t)) ++ [(queue.take i)[j].t])⟩]), ⟨80, [(5, .v (.pointer (some ⟨b5, 0, none⟩))), (6, .v (.slice ((some ⟨b77, 0, none⟩)) (((([] ++ ((held.take k).filter (clash q)).map L.t)) ++ (((queue.take i).take ((j + 1))).filter (onTh q)).map L.t)).length cp77)), (62, .list 3 ((queue.take i).flatMap cL) (queue.take i).length), (63, .v (.int .i64 ((queue.take i).length : Nat))), (64, .v (.int .i64 (((j + 1)) : Nat)))], ((⟨b5, 27, 3, cL queue[i]⟩ : Blk) :: (⟨b2, 25, 2, [.list 3 (held.flatMap cL) held.length, .list 3 (queue.flatMap cL) queue.length]⟩ : Blk) :: ([⟨b77, 3, cp77 * 1, List.flatMap cI ((((([] ++ ((held.take k).filter (clash q)).map L.t)) ++ (((queue.take i).take j).filter (onTh q)).map L.t)) ++ [(queue.take i)[j].t])⟩]))⟩, ?_, Wk.asS (n := 80) rfl (by repeat (first | exact List.Sublist.refl _ | apply List.Sublist.cons_cons | apply List.Sublist.cons)) ⟨(by (repeat (first | exact look_hit | (apply look_at; focus (first | rfl | (simp; done) | (congr 2; omega) | (apply row_eq; first | exact filt_hit hlt2 hth | exact filt_miss hlt2 hth) | (apply row_eq; simp; done))) | (apply look_miss; focus rfl))); done), (by (repeat (first | exact look_hit | (apply look_at; focus (first | rfl | (simp; done) | (congr 2; omega) | (apply row_eq; first | exact filt_hit hlt2 hth | exact filt_miss hlt2 hth) | (apply row_eq; simp; done))) | (apply look_miss; focus rfl))); done), (by (repeat (first | exact look_hit | (apply look_at; focus (first | rfl | (simp; done) | (congr 2; omega) | (apply row_eq; first | exact filt_hit hlt2 hth | exact filt_miss hlt2 hth) | (apply row_eq; simp; done))) | (apply look_miss; focus rfl))); done), (by (repeat (first | exact look_hit | (apply look_at; focus (first | rfl | (simp; done) | (congr 2; omega) | (apply row_eq; first | exact filt_hit hlt2 hth | exact filt_miss hlt2 hth) | (apply row_eq; simp; done))) | (apply look_miss; focus rfl))); done), (by (repeat (first | exact look_hit | (apply look_at; focus (first | rfl | (simp; done) | (congr 2; omega) | (apply row_eq; first | exact filt_hit hlt2 hth | exact filt_miss hlt2 hth) | (apply row_eq; simp; done))) | (apply look_miss; focus rfl))); done), trivial⟩, (by omega), (OwnL.cast (ownL_row h177 h277) (by first | exact filt_hit hlt2 hth | exact filt_miss hlt2 hth)), rfl⟩
          first | omega | (simp only []; omega)
        · have hc4' := hc4
          (try simp only [decide_eq_true_eq, decide_eq_false_iff_not, beq_iff_eq, bne_iff_ne, Bool.not_eq_true', Bool.not_eq_false', Bool.not_eq_true, Bool.not_eq_false, beq_eq_false_iff_ne, ne_eq, bne_eq_false_iff_eq, Bool.and_eq_true, Bool.or_eq_true, Bool.not_not, Bool.and_eq_false_iff, Bool.or_eq_false_iff, Int.not_lt, Int.not_le] at hc4')
          have hth : ¬ onTh q (queue.take i)[j] = true := by unfold onTh; subst hq; simp_all
          refine CD.skip ?_
          refine CD.region ?_
          refine OD.still (wants_plain rfl) rfl (still_bin rfl ot opd_const (bin_add (wrap_i64 (by omega) (by omega)))) ?_
          refine OD.still (wants_plain rfl) rfl (still_mv rfl ot) ?_
          refine OD.wk (Wk.as_ (n := 80) (l' := [(5, _), (6, _), (62, _), (63, _), (64, _)]) (S' := (⟨b10, 27, 3, [_, _, _]⟩ :: ⟨b5, 27, 3, [_, _, _]⟩ :: ⟨b2, 25, 2, [_, _]⟩ :: Sw)) rfl rfl ⟨lk, lk, lk, lk, lk, trivial⟩) ?_
          refine OD.nil ?_
          refine ⟨((j + 1), adw, cpw, Sw), ⟨80, [(5, .v (.pointer (some ⟨b5, 0, none⟩))), (6, .v (.slice adw (((([] ++ ((held.take k).filter (clash q)).map L.t)) ++ (((queue.take i).take ((j + 1))).filter (onTh q)).map L.t)).length cpw)), (62, .list 3 ((queue.take i).flatMap cL) (queue.take i).length), (63, .v (.int .i64 ((queue.take i).length : Nat))), (64, .v (.int .i64 (((j + 1)) : Nat)))], ((⟨b5, 27, 3, cL queue[i]⟩ : Blk) :: (⟨b2, 25, 2, [.list 3 (held.flatMap cL) held.length, .list 3 (queue.flatMap cL) queue.length]⟩ : Blk) :: Sw)⟩, ?_, Wk.asS (n := 80) rfl (by repeat (first | exact List.Sublist.refl _ | apply List.Sublist.cons_cons | apply List.Sublist.cons)) ⟨(by (repeat (first | exact look_hit | (apply look_at; focus (first | rfl | (simp; done) | (congr 2; omega) | (apply row_eq; first | exact filt_hit hlt2 hth | exact filt_miss hlt2 hth) | (apply row_eq; simp; done))) | (apply look_miss; focus rfl))); done), (by (repeat (first | exact look_hit | (apply look_at; focus (first | rfl | (simp; done) | (congr 2; omega) | (apply row_eq; first | exact filt_hit hlt2 hth | exact filt_miss hlt2 hth) | (apply row_eq; simp; done))) | (apply look_miss; focus rfl))); done), (by (repeat (first | exact look_hit | (apply look_at; focus (first | rfl | (simp; done) | (congr 2; omega) | (apply row_eq; first | exact filt_hit hlt2 hth | exact filt_miss hlt2 hth) | (apply row_eq; simp; done))) | (apply look_miss; focus rfl))); done), (by (repeat (first | exact look_hit | (apply look_at; focus (first | rfl | (simp; done) | (congr 2; omega) | (apply row_eq; first | exact filt_hit hlt2 hth | exact filt_miss hlt2 hth) | (apply row_eq; simp; done))) | (apply look_miss; focus rfl))); done), (by (repeat (first | exact look_hit | (apply look_at; focus (first | rfl | (simp; done) | (congr 2; omega) | (apply row_eq; first | exact filt_hit hlt2 hth | exact filt_miss hlt2 hth) | (apply row_eq; simp; done))) | (apply look_miss; focus rfl))); done), trivial⟩, (by omega), (OwnL.cast how (by first | exact filt_hit hlt2 hth | exact filt_miss hlt2 hth)), rfl⟩
          first | omega | (simp only []; omega)
      · have hc3' := hc3
        (try simp only [decide_eq_true_eq, decide_eq_false_iff_not, beq_iff_eq, bne_iff_ne, Bool.not_eq_true', Bool.not_eq_false', Bool.not_eq_true, Bool.not_eq_false, beq_eq_false_iff_ne, ne_eq, bne_eq_false_iff_eq, Bool.and_eq_true, Bool.or_eq_true, Bool.not_not, Bool.and_eq_false_iff, Bool.or_eq_false_iff, Int.not_lt, Int.not_le] at hc3')
        have hfull2 : (queue.take i).take j = queue.take i := List.take_of_length_le (by omega)
        refine CD.exit ?_
        refine CD.seq ?_
        refine CD.region ?_
        refine OD.still (wants_plain rfl) rfl (still_mv rfl ot) ?_
        refine OD.still (wants_plain rfl) rfl (still_as rfl ot) ?_
        refine OD.wk (Wk.as_ (n := 80) (l' := [(4, _)]) (S' := (⟨b5, 27, 3, [_, _, _]⟩ :: ⟨b2, 25, 2, [_, _]⟩ :: Sw)) rfl rfl ⟨lk, trivial⟩) ?_
        refine OD.nil ?_
        refine CD.ret ?_
        refine ⟨.inr rfl, _, Sw, (List.sublist_append_right [_, _] _), ret_one Tryd.results39 (res_tmp (Nat.le_of_ble_eq_true rfl) lk), ?_⟩
        first | exact RetL.cast (RetL.mk how) (by rw [hfull, hfull2]; unfold waitsL; rw [hq, if_pos hneg]; rfl) | exact RetL.cast (RetL.mk how) (by rw [hfull]; unfold waitsL; rw [hq, if_neg hneg]; simp)
    · have hc2' := hc2
      (try simp only [decide_eq_true_eq, decide_eq_false_iff_not, beq_iff_eq, bne_iff_ne, Bool.not_eq_true', Bool.not_eq_false', Bool.not_eq_true, Bool.not_eq_false, beq_eq_false_iff_ne, ne_eq, bne_eq_false_iff_eq, Bool.and_eq_true, Bool.or_eq_true, Bool.not_not, Bool.and_eq_false_iff, Bool.or_eq_false_iff, Int.not_lt, Int.not_le] at hc2')
      have hneg : ¬ findI held q.t q.th < 0 := by subst hq; simpa using hc2
      refine CD.skip ?_
      refine CD.seq ?_
      refine CD.region ?_
      refine OD.still (wants_plain rfl) rfl (still_mv rfl ot) ?_
      refine OD.still (wants_plain rfl) rfl (still_as rfl ot) ?_
      refine OD.wk (Wk.as_ (n := 80) (l' := [(4, _)]) (S' := (⟨b5, 27, 3, [_, _, _]⟩ :: ⟨b2, 25, 2, [_, _]⟩ :: Sw)) rfl rfl ⟨lk, trivial⟩) ?_
      refine OD.nil ?_
      refine CD.ret ?_
      refine ⟨.inr rfl, _, Sw, (List.sublist_append_right [_, _] _), ret_one Tryd.results39 (res_tmp (Nat.le_of_ble_eq_true rfl) lk), ?_⟩
      first | exact RetL.cast (RetL.mk how) (by rw [hfull, hfull2]; unfold waitsL; rw [hq, if_pos hneg]; rfl) | exact RetL.cast (RetL.mk how) (by rw [hfull]; unfold waitsL; rw [hq, if_neg hneg]; simp)

end Go.Proofs.YtcogdagfcndbfaaDoor.Lk

namespace Go.Proofs
open Go.Shelf
def Tryd.lays189_ren : Go.Shelf.Ren := ⟨fun | 189 => 40 | 125 => 50 | 257 => 49 | 128 => 60 | 129 => 61 | 294 => 51 | 295 => 52 | 296 => 53 | 297 => 54 | 298 => 55 | 299 => 56 | 216 => 57 | 300 => 58 | 301 => 59 | 328 => 62 | 329 => 63 | 330 => 64 | 331 => 65 | 332 => 66 | 215 => 67 | 343 => 68 | n => n, fun | 28 => 34 | 3 => 3 | 46 => 80 | 0 => 0 | 51 => 91 | 53 => 93 | 4 => 4 | 183 => 83 | 182 => 82 | 131 => 88 | 5 => 5 | 9 => 9 | 218 => 94 | 222 => 98 | 228 => 100 | 229 => 101 | n => n, fun | n => n⟩
theorem Tryd.lays189 : Go.Proofs.Lays.n189 Tryd.prog Tryd.lays189_ren := {
  mixed := by kernel_rfl
  f125 := Tryd.func50.trans (congrArg some (by kernel_rfl))
  f128 := Tryd.func60.trans (congrArg some (by kernel_rfl))
  f129 := Tryd.func61.trans (congrArg some (by kernel_rfl))
  f189 := Tryd.func40.trans (congrArg some (by kernel_rfl))
  f215 := Tryd.func67.trans (congrArg some (by kernel_rfl))
  f216 := Tryd.func57.trans (congrArg some (by kernel_rfl))
  f257 := Tryd.func49.trans (congrArg some (by kernel_rfl))
  f294 := Tryd.func51.trans (congrArg some (by kernel_rfl))
  f295 := Tryd.func52.trans (congrArg some (by kernel_rfl))
  f296 := Tryd.func53.trans (congrArg some (by kernel_rfl))
  f297 := Tryd.func54.trans (congrArg some (by kernel_rfl))
  f298 := Tryd.func55.trans (congrArg some (by kernel_rfl))
  f299 := Tryd.func56.trans (congrArg some (by kernel_rfl))
  f300 := Tryd.func58.trans (congrArg some (by kernel_rfl))
  f301 := Tryd.func59.trans (congrArg some (by kernel_rfl))
  f328 := Tryd.func62.trans (congrArg some (by kernel_rfl))
  f329 := Tryd.func63.trans (congrArg some (by kernel_rfl))
  f330 := Tryd.func64.trans (congrArg some (by kernel_rfl))
  f331 := Tryd.func65.trans (congrArg some (by kernel_rfl))
  f332 := Tryd.func66.trans (congrArg some (by kernel_rfl))
  f343 := Tryd.func68.trans (congrArg some (by kernel_rfl))
  t0 := Tryd.underlying0
  a0 := Tryd.isAgg0
  z0 := Tryd.sizeOf0
  v0 := Tryd.zeroValue0
  t3 := Tryd.underlying3
  a3 := Tryd.isAgg3
  z3 := Tryd.sizeOf3
  v3 := Tryd.zeroValue3
  t4 := Tryd.underlying4
  a4 := Tryd.isAgg4
  z4 := Tryd.sizeOf4
  v4 := Tryd.zeroValue4
  t5 := Tryd.underlying5
  a5 := Tryd.isAgg5
  z5 := Tryd.sizeOf5
  v5 := Tryd.zeroValue5
  t9 := Tryd.underlying9
  a9 := Tryd.isAgg9
  z9 := Tryd.sizeOf9
  v9 := Tryd.zeroValue9
  t28 := Tryd.underlying34
  a28 := Tryd.isAgg34
  z28 := Tryd.sizeOf34
  v28 := Tryd.zeroValue34
  t46 := Tryd.underlying80
  a46 := Tryd.isAgg80
  z46 := Tryd.sizeOf80
  v46 := Tryd.zeroValue80
  t51 := Tryd.underlying91
  a51 := Tryd.isAgg91
  z51 := Tryd.sizeOf91
  v51 := Tryd.zeroValue91
  t53 := Tryd.underlying93
  a53 := Tryd.isAgg93
  z53 := Tryd.sizeOf93
  v53 := Tryd.zeroValue93
  t131 := Tryd.underlying88
  a131 := Tryd.isAgg88
  z131 := Tryd.sizeOf88
  v131 := Tryd.zeroValue88
  t182 := Tryd.underlying82
  a182 := Tryd.isAgg82
  z182 := Tryd.sizeOf82
  v182 := Tryd.zeroValue82
  t183 := Tryd.underlying83
  a183 := Tryd.isAgg83
  z183 := Tryd.sizeOf83
  v183 := Tryd.zeroValue83
  t218 := Tryd.underlying94
  a218 := Tryd.isAgg94
  z218 := Tryd.sizeOf94
  v218 := Tryd.zeroValue94
  t222 := Tryd.underlying98
  a222 := Tryd.isAgg98
  z222 := Tryd.sizeOf98
  v222 := Tryd.zeroValue98
  t228 := Tryd.underlying100
  a228 := Tryd.isAgg100
  z228 := Tryd.sizeOf100
  v228 := Tryd.zeroValue100
  t229 := Tryd.underlying101
  a229 := Tryd.isAgg101
  z229 := Tryd.sizeOf101
  v229 := Tryd.zeroValue101 }
open Go.Sort Go.RowKit in
theorem Tryd.slices_Sort_int (blk off cap : Nat) (zs : List Int) (w : World) (hH : Holds (Value.int .i64) w blk off zs.toArray) (hblk : blk < w.heap.size) (hsz : zs.length < 4611686018427387904) :
    Calls Tryd.prog 40 #[.slice (some ⟨blk, off, none⟩) zs.length cap] w fun e w' =>
      e = .returned (.tuple #[]) ∧ ∃ n os, w' = grow (putRow (Value.int .i64) (Sort.ahead w n) blk off (zs.mergeSort fun x y => decide (x ≤ y)).toArray) os := Any.slices_Sort_int Tryd.lays189 blk off cap zs w hH hblk hsz
def Tryd.laysNm220_ren : Go.Shelf.Ren := ⟨fun | 20 => 41 | n => n, fun | 22 => 34 | 3 => 3 | 4 => 4 | 0 => 0 | n => n, fun | n => n⟩
theorem Tryd.laysNm220 : Go.Proofs.Lays2.n20 Tryd.prog Tryd.laysNm220_ren := {
  mixed := by kernel_rfl
  f20 := Tryd.func41.trans (congrArg some (by kernel_rfl))
  t0 := Tryd.underlying0
  a0 := Tryd.isAgg0
  z0 := Tryd.sizeOf0
  v0 := Tryd.zeroValue0
  t3 := Tryd.underlying3
  a3 := Tryd.isAgg3
  z3 := Tryd.sizeOf3
  v3 := Tryd.zeroValue3
  t4 := Tryd.underlying4
  a4 := Tryd.isAgg4
  z4 := Tryd.sizeOf4
  v4 := Tryd.zeroValue4
  t22 := Tryd.underlying34
  a22 := Tryd.isAgg34
  z22 := Tryd.sizeOf34
  v22 := Tryd.zeroValue34
  i3 := by kernel_rfl }
open Go.RowKit Go.Lib Go.Sort in
/-- slices.Compact at []int: "Compact replaces consecutive runs of equal elements with a single copy. This is like the uniq command found on Unix. Compact modifies the contents of the slice s and returns the modified slice, which may have a smaller length. Compact zeroes the elements between the new length and the original length. The result preserves the nilness of s.": IT RETURNS THE SLICE CUT TO 'Lib.compact zs'; ITS CELLS HOLD 'Lib.compact zs', THEN ZERO VALUES up to the old length; all else is as it was, but for the count of draws. IN THE WORDS OF slices.Sort's CONTRACT ('Holds', 'putRow'): so the everyday 'slices.Sort(xs); xs = slices.Compact(xs)' goes from the one contract to the other. It asks 'zs.length ≤ cap' (every slice's: the reslicing 's[:k]' looks at it). Length 0, nil: '.._empty'. (LAID: no walk: one application.) -/
theorem Tryd.slices_Compact_int (blk off cap : Nat) (zs : List Int) (w : World) (hH : Holds (Value.int .i64) w blk off zs.toArray) (hsz : zs.length ≤ 9223372036854775807) (hcap : zs.length ≤ cap) :
    Calls Tryd.prog 41 #[.slice (some ⟨blk, off, none⟩) zs.length cap] w fun e w' => e = .returned (.slice (some ⟨blk, off, none⟩) (Lib.compact zs).length cap) ∧ ∃ q, w' = putRow (Value.int .i64) (Sort.ahead w q) blk off (Lib.compact zs ++ List.replicate (zs.length - (Lib.compact zs).length) 0).toArray := Any.slices_Compact_int Tryd.laysNm220 blk off cap zs w hH hsz hcap
open Go.RowKit Go.Lib Go.Sort in
/-- The same at a slice of length 0, a nil one too: it comes back as it is. (LAID: no walk: one application.) -/
theorem Tryd.slices_Compact_int_empty (a : Option Addr) (cap : Nat) (w : World) :
    Calls Tryd.prog 41 #[.slice a 0 cap] w fun e w' => e = .returned (.slice a 0 cap) ∧ w' = w := Any.slices_Compact_int_empty Tryd.laysNm220 a cap w
open Go.RowKit Go.Sort in
/-- .. and plain. (LAID: no walk: one application.) -/
theorem Tryd.slices_Sort_int_none (p : Option Addr) (cap : Nat) (w : World) :
    Calls Tryd.prog 40 #[.slice p 0 cap] w fun e w' => e = .returned (.tuple #[]) ∧ w' = w := Any.slices_Sort_int_none Tryd.lays189 p cap w
end Go.Proofs

namespace Go.Proofs.YtcogdagfcndbfaaDoor.Lk
open Go.RowKit V Go.Sort
set_option linter.unusedVariables false
set_option linter.unusedSimpArgs false

/-- A row of ints of one's own, as it lies. -/
theorem own_ints {w : World} {X : Nat → Prop} {b cap : Nat} {ls : List Int} (h : BlkAt w X ⟨b, 3, cap * 1, ls.flatMap cI⟩) :
    b < w.heap.size ∧ ∃ cur : Array Value, w.heap[b]? = some (.cells cur 3 (0, 0)) ∧ cur.size = cap * 1 ∧ ls.length ≤ cap ∧ ∀ j (hj : j < ls.length), cur[j]? = some (.int .i64 ls[j]) := by
  obtain ⟨h1, cur, h2, h3, h4, h5⟩ := h
  have hl : (ls.flatMap cI).length = ls.length := by rw [fm_len cI_len, Nat.mul_one]
  refine ⟨h1, cur, h2, h3, by have h4 : (ls.flatMap cI).length ≤ cap * 1 := h4; omega, fun j hj => ?_⟩
  obtain ⟨u, q1, q2⟩ := h5 j (by show j < (ls.flatMap cI).length; omega)
  have e : (ls.flatMap cI)[j]'(by omega) = .v (.int .i64 ls[j]) := by
    have := fm_cell cI_len hj (List.getElem?_eq_getElem (show 0 < (cI ls[j]).length from Nat.zero_lt_one))
    rw [Nat.mul_one, Nat.add_zero, List.getElem?_eq_getElem (by omega)] at this
    exact Option.some.inj this
  have q2 : Rep w X ((ls.flatMap cI)[j]'(by omega)) u := q2
  rw [e] at q2
  rw [q1, q2.v_eq]
theorem ints_hold {w : World} {b : Nat} {cur : Array Value} {ls : List Int} (h2 : w.heap[b]? = some (.cells cur 3 (0, 0))) (h5 : ∀ j (hj : j < ls.length), cur[j]? = some (.int .i64 ls[j])) : Holds (Value.int .i64) w b 0 ls.toArray := fun j hj => by
  have hj' : j < ls.length := by simpa using hj
  have e : ls.toArray[j]! = ls[j] := by simp [hj']
  refine ⟨?_, ?_⟩
  · rw [e, Nat.zero_add]
    unfold World.cell?
    simp [h2, h5 j hj']
  · unfold World.frozen?
    simp [h2]
theorem ints_put {w : World} {b n cap : Nat} {X : Nat → Prop} {cur : Array Value} {ls zs : List Int} {os : Array Obj} (h1 : b < w.heap.size) (h2 : w.heap[b]? = some (.cells cur 3 (0, 0))) (h3 : cur.size = cap * 1) (hz : zs.length ≤ cap) :
    BlkAt (grow (putRow (Value.int .i64) (Go.Sort.ahead w n) b 0 zs.toArray) os) X ⟨b, 3, cap * 1, zs.flatMap cI⟩ ∧ Fr w [b] (grow (putRow (Value.int .i64) (Go.Sort.ahead w n) b 0 zs.toArray) os) [b] := by
  have hsz : (putRow (Value.int .i64) (Go.Sort.ahead w n) b 0 zs.toArray).heap.size = w.heap.size := size_putRow _ _ _ _ _
  have hb : (grow (putRow (Value.int .i64) (Go.Sort.ahead w n) b 0 zs.toArray) os).heap[b]? = some (.cells (putCells (Value.int .i64) 0 zs.toArray cur) 3 (0, 0)) := by
    rw [heap_grow_old _ _ (by rw [hsz]; exact h1)]
    show (w.heap.modify b _)[b]? = _
    rw [Array.getElem?_modify, if_pos rfl, h2]; rfl
  have hl : (zs.flatMap cI).length = zs.length := by rw [fm_len cI_len, Nat.mul_one]
  refine ⟨⟨?_, _, hb, ?_, ?_, fun j hj => ?_⟩, ⟨rfl, rfl, rfl, ?_, fun k hk hn => ⟨?_, hn⟩⟩⟩
  · show b < (_ ++ os).size
    rw [Array.size_append, hsz]; omega
  · show (putCells _ _ _ cur).size = cap * 1
    unfold putCells; rw [Array.size_mapIdx]; exact h3
  · show (zs.flatMap cI).length ≤ cap * 1
    omega
  · have hj : j < (zs.flatMap cI).length := hj
    have hj' : j < zs.length := by omega
    have e : (zs.flatMap cI)[j] = .v (.int .i64 zs[j]) := by
      have := fm_cell cI_len hj' (List.getElem?_eq_getElem (show 0 < (cI zs[j]).length from Nat.zero_lt_one))
      rw [Nat.mul_one, Nat.add_zero, List.getElem?_eq_getElem hj] at this
      exact Option.some.inj this
    refine ⟨.int .i64 zs[j], ?_, ?_⟩
    · unfold putCells
      have hc : j < cur.size := by omega
      rw [Array.getElem?_mapIdx, Array.getElem?_eq_getElem hc]
      simp [hj']
    · show Rep _ _ (zs.flatMap cI)[j] _
      rw [e]; exact Rep.v _
  · show w.heap.size ≤ (_ ++ os).size
    rw [Array.size_append, hsz]; omega
  · rw [heap_grow_old _ _ (by rw [hsz]; exact hk)]
    show (w.heap.modify b _)[k]? = _
    rw [Array.getElem?_modify, if_neg (fun e => hn (by rw [e]; exact List.mem_singleton.2 rfl))]
def sortL (ls : List Int) : List Int := ls.mergeSort fun x y => decide (x ≤ y)
theorem sort_len (ls : List Int) : (sortL ls).length = ls.length := List.length_mergeSort _
theorem sort_vc {G : List (Nat × List Value)} (b cap : Nat) (ls : List Int) (hl : ls.length ≤ 1000000) : VC Tryd.prog G 40 [.v (.slice (some ⟨b, 0, none⟩) ls.length cap)] [⟨b, 3, cap * 1, ls.flatMap cI⟩] (fun r S => r = .tup [] ∧ S = [⟨b, 3, cap * 1, (sortL ls).flatMap cI⟩]) := fun X w vs hp => by
  obtain ⟨h1, cur, h2, h3, h4, h5⟩ := own_ints (hp.own.at_ _ List.mem_cons_self)
  have hvs : vs = [.slice (some ⟨b, 0, none⟩) ls.length cap] := by
    obtain ⟨a1, a2⟩ := hp.args
    match vs, a1, a2 with
    | [u], _, a2 => have e : u = _ := (a2 0 Nat.zero_lt_one Nat.zero_lt_one).v_eq; rw [e]
  subst hvs
  refine (Tryd.slices_Sort_int b 0 cap ls w (ints_hold h2 h5) h1 (by omega)).mono fun e w' ⟨he, n, os, hw⟩ => ?_
  subst he hw
  obtain ⟨q1, q2⟩ := ints_put (X := live X [⟨b, 3, cap * 1, (sortL ls).flatMap cI⟩]) (n := n) (os := os) (cur := cur) (ls := ls) (zs := sortL ls) h1 h2 h3 (by rw [sort_len]; exact h4)
  refine ⟨_, _, _, rfl, ⟨rfl, rfl⟩, ⟨fun B hB => ?_, by simp [bks]⟩, ?_, q2⟩
  · rw [List.mem_singleton] at hB; subst hB; exact q1
  · exact Rep.tup [] [] rfl (fun i h _ => absurd h (Nat.not_lt_zero _))

end Go.Proofs.YtcogdagfcndbfaaDoor.Lk

namespace Go.Proofs.YtcogdagfcndbfaaDoor.Lk
open Go.RowKit V Go.Sort
set_option linter.unusedVariables false
set_option linter.unusedSimpArgs false

theorem ints_cut {w : World} {X : Nat → Prop} {b cap : Nat} {a c : List Int} (h : BlkAt w X ⟨b, 3, cap * 1, (a ++ c).flatMap cI⟩) : BlkAt w X ⟨b, 3, cap * 1, a.flatMap cI⟩ := by
  obtain ⟨h1, cur, h2, h3, h4, h5⟩ := h
  have hl : ((a ++ c).flatMap cI).length = a.length + c.length := by rw [fm_len cI_len, Nat.mul_one, List.length_append]
  have hl2 : (a.flatMap cI).length = a.length := by rw [fm_len cI_len, Nat.mul_one]
  refine ⟨h1, cur, h2, h3, ?_, fun i hi => ?_⟩
  · have h4 : ((a ++ c).flatMap cI).length ≤ cap * 1 := h4
    show (a.flatMap cI).length ≤ cap * 1
    omega
  · have hi : i < (a.flatMap cI).length := hi
    obtain ⟨u, q1, q2⟩ := h5 i (by show i < ((a ++ c).flatMap cI).length; omega)
    refine ⟨u, q1, ?_⟩
    have e : ((a ++ c).flatMap cI)[i]'(by omega) = (a.flatMap cI)[i] := by
      simp only [List.flatMap_append]
      exact List.getElem_append_left hi
    have q2 : Rep w X (((a ++ c).flatMap cI)[i]'(by omega)) u := q2
    rw [e] at q2
    exact q2
abbrev compactL (ls : List Int) : List Int := Go.Lib.compact ls
theorem compact_len (ls : List Int) : (compactL ls).length ≤ ls.length := by
  unfold compactL Go.Lib.compact Go.Lib.compactUpTo
  rw [List.length_map]
  exact Nat.le_trans (List.length_filter_le _ _) (by rw [List.length_range]; exact Nat.le_refl _)
theorem args_one {G : List (Nat × List Value)} {X : Nat → Prop} {w : World} {S : List Blk} {x : Value} {vs : List Value} (hp : Pre G X w S [.v x] vs) : vs = [x] := by
  obtain ⟨a1, a2⟩ := hp.args
  match vs, a1, a2 with
  | [u], _, a2 => have e : u = _ := (a2 0 Nat.zero_lt_one Nat.zero_lt_one).v_eq; rw [e]
theorem compact_vc {G : List (Nat × List Value)} (b cap : Nat) (ls : List Int) (hl : ls.length ≤ 1000000) : VC Tryd.prog G 41 [.v (.slice (some ⟨b, 0, none⟩) ls.length cap)] [⟨b, 3, cap * 1, ls.flatMap cI⟩] (fun r S => r = .v (.slice (some ⟨b, 0, none⟩) (compactL ls).length cap) ∧ S = [⟨b, 3, cap * 1, (compactL ls).flatMap cI⟩]) := fun X w vs hp => by
  obtain ⟨h1, cur, h2, h3, h4, h5⟩ := own_ints (hp.own.at_ _ List.mem_cons_self)
  have hvs := args_one hp
  subst hvs
  refine (Tryd.slices_Compact_int b 0 cap ls w (ints_hold h2 h5) (by omega) h4).mono fun e w' ⟨he, n, hw⟩ => ?_
  subst he hw
  have hc := compact_len ls
  obtain ⟨q1, q2⟩ := ints_put (X := live X [⟨b, 3, cap * 1, (compactL ls).flatMap cI⟩]) (n := n) (os := #[]) (cur := cur) (ls := ls) (zs := compactL ls ++ List.replicate (ls.length - (compactL ls).length) 0) h1 h2 h3 (by rw [List.length_append, List.length_replicate]; omega)
  rw [grow_empty] at q1 q2
  refine ⟨_, _, _, rfl, ⟨rfl, rfl⟩, ⟨fun B hB => ?_, by simp [bks]⟩, Rep.v _, q2⟩
  rw [List.mem_singleton] at hB; subst hB; exact ints_cut q1
theorem sort_row {G : List (Nat × List Value)} {ad : Option Addr} {cap : Nat} {ls : List Int} {S : List Blk} (ho : OwnL 3 1 (ls.flatMap cI) ls.length ad cap S) (hl : ls.length ≤ 1000000) :
    VC Tryd.prog G 40 [.v (.slice ad ls.length cap)] S (fun r S' => r = .tup [] ∧ OwnL 3 1 ((sortL ls).flatMap cI) (sortL ls).length ad cap S') := by
  rcases ho with ⟨h1, h2, h3, h4, h5⟩ | ⟨b, h1, h2, h3, h4⟩
  · have e : ls = [] := List.eq_nil_of_length_eq_zero h1
    subst e
    subst h5
    intro X w vs hp
    have hvs := args_one hp
    subst hvs
    refine (Tryd.slices_Sort_int_none ad cap w).mono fun e w' ⟨he, hw⟩ => ?_
    subst he hw
    exact ⟨_, .tup [], [], rfl, ⟨rfl, .inl ⟨by rw [sort_len]; rfl, by rw [List.eq_nil_of_length_eq_zero (sort_len [])]; rfl, h3, h4, rfl⟩⟩, hp.own, Rep.tup [] [] rfl (fun i h _ => absurd h (Nat.not_lt_zero _)), Fr.refl _ _⟩
  · subst h1 h4
    exact (sort_vc b cap ls hl).post fun r S' ⟨q1, q2⟩ => ⟨q1, .inr ⟨b, rfl, by rw [sort_len]; exact h2, h3, q2⟩⟩
theorem compact_row {G : List (Nat × List Value)} {ad : Option Addr} {cap : Nat} {ls : List Int} {S : List Blk} (ho : OwnL 3 1 (ls.flatMap cI) ls.length ad cap S) (hl : ls.length ≤ 1000000) :
    VC Tryd.prog G 41 [.v (.slice ad ls.length cap)] S (RetL cI 3 1 (compactL ls)) := by
  rcases ho with ⟨h1, h2, h3, h4, h5⟩ | ⟨b, h1, h2, h3, h4⟩
  · have e : ls = [] := List.eq_nil_of_length_eq_zero h1
    subst e
    subst h5
    intro X w vs hp
    have hvs := args_one hp
    subst hvs
    refine (Tryd.slices_Compact_int_empty ad cap w).mono fun e w' ⟨he, hw⟩ => ?_
    subst he hw
    exact ⟨_, .v (.slice ad (compactL []).length cap), [], rfl, ⟨ad, cap, rfl, .inl ⟨rfl, rfl, h3, h4, rfl⟩⟩, hp.own, Rep.v _, Fr.refl _ _⟩
  · subst h1 h4
    exact (compact_vc b cap ls hl).post fun r S' ⟨q1, q2⟩ => ⟨_, _, q1, .inr ⟨b, rfl, Nat.le_trans (compact_len ls) h2, h3, q2⟩⟩

end Go.Proofs.YtcogdagfcndbfaaDoor.Lk

namespace Go.Proofs.YtcogdagfcndbfaaDoor.Lk
open Go.RowKit V
set_option linter.unusedVariables false
set_option linter.unusedSimpArgs false

theorem compact_sorted {G : List (Nat × List Value)} {ad : Option Addr} {cap : Nat} {l : List Int} {S : List Blk} (ho : OwnL 3 1 ((sortL l).flatMap cI) (sortL l).length ad cap S) (hl : l.length ≤ 1000000) :
    VC Tryd.prog G 41 [.v (.slice ad l.length cap)] S (RetL cI 3 1 (compactL (sortL l))) := by
  have h := compact_row (G := G) ho (by rw [sort_len]; exact hl)
  rw [sort_len] at h
  exact h
/-- A list of ints, as a cell. -/
def cII (l : List Int) : List D := [.list 1 (l.flatMap cI) l.length]
theorem cII_len (l : List Int) : (cII l).length = 1 := rfl
theorem cII_one (l : List Int) : (cII l).all V.one = true := rfl
def waitsN (held queue : List L) (i : Nat) : List Int := compactL (sortL (waitsL held (queue.take i) (queue.getD i ⟨0, ⟨#[]⟩, 0⟩)))
def waitsAll (held queue : List L) : List (List Int) := (List.range queue.length).map (waitsN held queue)
theorem range_step {β : Type} (f : Nat → β) (i : Nat) : (List.range i).map f ++ [f i] = (List.range (i + 1)).map f := by rw [List.range_succ, List.map_append]; rfl
theorem waits_at {held queue : List L} {i : Nat} (hi : i < queue.length) : compactL (sortL (waitsL held (queue.take i) queue[i])) = waitsN held queue i := by
  unfold waitsN
  rw [List.getD_eq_getElem?_getD, List.getElem?_eq_getElem hi]; rfl
theorem waits_len (held pre : List L) (q : L) : (waitsL held pre q).length ≤ held.length + pre.length := by
  unfold waitsL
  rw [List.length_append, List.length_map]
  have h1 := List.length_filter_le (clash q) held
  have h2 : (if findI held q.t q.th < 0 then (pre.filter (onTh q)).map L.t else []).length ≤ pre.length := by
    split
    · rw [List.length_map]; exact List.length_filter_le _ _
    · exact Nat.zero_le _
  omega

theorem info34_Lkm : (Tryd.prog.info? 34).map (fun i => (i.zero, i.size, i.bytes)) = some (some (.slice none 0 0), 1, 24) := by kernel_rfl

set_option maxHeartbeats 4000000 in
set_option maxRecDepth 100000 in
theorem waitsAll_vp (held queue : List L) (g : Good held queue) (hh : held.length ≤ 1000) (hq : queue.length ≤ 1000) (hhs : ∀ h ∈ held, modeB h.m = true) (hqs : ∀ h ∈ queue, modeB h.m = true) : VP Tryd.prog TG 23 [locksS held queue] (.tup [.list 1 ((waitsAll held queue).flatMap cII) (waitsAll held queue).length, .v (.int .i64 0)]) := by
  refine VC.body Tryd.func23 rfl Tryd.ntmps23 (Nat.le_of_ble_eq_true rfl) fun X0 w0 S00 => ?_
  have hmx : maxLen = 9223372036854775807 := rfl
  have hcv := check_vp held queue g
  have hwv := fun i hi => waits_vc held queue i hi hhs hqs hh hq
  unfold locksS locksD at hcv
  unfold locksS locksD at hwv
  unfold locksS locksD
  refine CD.seq ?_
  refine CD.region ?_
  refine OD.box (ds := [_, _]) (wants_plain rfl) rfl rfl ot rfl rfl (fun b1 => ?_)
  refine OD.still (wants_plain rfl) rfl (still_as rfl opd_const) ?_
  refine OD.still (wants_plain rfl) rfl (still_as rfl opd_const) ?_
  refine OD.wk (Wk.as_ (n := 31) (l' := [(1, _)]) (S' := [⟨b1, 25, 2, [_, _]⟩]) rfl rfl ⟨lk, trivial⟩) ?_
  refine OD.nil ?_
  refine CD.seq ?_
  refine CD.seq ?_
  refine CD.region ?_
  refine OD.still (wants_plain rfl) rfl (still_r1 (mk := Op.load 25) rfl ot (by first | exact ld_blks (k := 0) (ds := [_, _]) rfl rfl Tryd.isAgg25 Tryd.sizeOf25 rfl rfl | exact ld_fms cL_len Tryd.isAgg25 Tryd.sizeOf25 (by first | assumption | omega) | exact ld_rows (k := 0) cL_len rfl rfl rfl Tryd.isAgg25 Tryd.sizeOf25 (by first | assumption | omega) | exact ld_is (ds := [_, _]) Tryd.isAgg25 Tryd.sizeOf25 rfl rfl)) ?_
  refine OD.callP (wants_plain rfl) rfl rfl rfl Tryd.call18 (hcv) ⟨ot, trivial⟩ ?_
  refine OD.still (wants_plain rfl) rfl (still_as rfl ot) ?_
  refine OD.wk (Wk.as_ (n := 31) (l' := [(1, _), (4, _)]) (S' := [⟨b1, 25, 2, [_, _]⟩]) rfl rfl ⟨lk, lk, trivial⟩) ?_
  refine OD.nil ?_
  refine CD.seq ?_
  refine CD.region ?_
  refine OD.still (wants_plain rfl) rfl (still_mv rfl ot) ?_
  refine OD.still (wants_plain rfl) rfl (still_bin rfl ot opd_const bin_neq) ?_
  refine OD.wk (Wk.as_ (n := 31) (l' := [(1, _), (4, _), (11, _)]) (S' := [⟨b1, 25, 2, [_, _]⟩]) rfl rfl ⟨lk, lk, lk, trivial⟩) ?_
  refine OD.nil ?_
  refine CD.cond ot (fun hc0 => ?_) (fun hc0 => ?_)
  · exact absurd hc0 (by simp)
  · have hc0' := hc0
    (try simp only [decide_eq_true_eq, decide_eq_false_iff_not, beq_iff_eq, bne_iff_ne, Bool.not_eq_true', Bool.not_eq_false', Bool.not_eq_true, Bool.not_eq_false, beq_eq_false_iff_ne, ne_eq, bne_eq_false_iff_eq, Bool.and_eq_true, Bool.or_eq_true, Bool.not_not, Bool.and_eq_false_iff, Bool.or_eq_false_iff, Int.not_lt, Int.not_le] at hc0')
    refine CD.skip ?_
    refine CD.seq ?_
    refine CD.region ?_
    refine OD.still (wants_plain rfl) rfl (still_as rfl opd_const) ?_
    refine OD.wk (Wk.as_ (n := 31) (l' := [(1, _), (5, _)]) (S' := (⟨b1, 25, 2, [_, _]⟩ :: [])) rfl rfl ⟨lk, lk, trivial⟩) ?_
    refine OD.nil ?_
    refine CD.seq ?_
    refine CD.seq ?_
    refine CD.region ?_
    refine OD.still (wants_plain rfl) rfl (still_r1 (mk := fun y => Op.fieldAddr 25 y 1) rfl ot (by first | exact fa_ptr (off := 1) Tryd.runUnderlying25 rfl Tryd.sizeOf23 rfl | exact fa_iptr (off := 1) Tryd.runUnderlying25 rfl Tryd.sizeOf23 rfl)) ?_
    refine OD.still (wants_plain rfl) rfl (still_r1 (mk := Op.load 23) rfl ot (by first | exact ld_blk (k := 0) rfl rfl Tryd.isAgg23 rfl | exact ld_fm cL_len Tryd.isAgg23 (by first | assumption | omega) rfl | exact ld_fm0 cL_len Tryd.isAgg23 (by first | assumption | omega) rfl | exact ld_row (k := 0) cL_len rfl rfl rfl Tryd.isAgg23 (by first | assumption | omega) rfl | exact ld_row0 (k := 0) cL_len rfl rfl rfl Tryd.isAgg23 (by first | assumption | omega) rfl | exact ld_i Tryd.isAgg23 rfl)) ?_
    refine OD.still (wants_plain rfl) rfl (still_r1 (mk := fun y => .call { callee := .builtin .len, args := #[y], argTypes := #[23] }) rfl ot (by first | exact len_list rfl Tryd.runUnderlying23 | exact len_row rfl Tryd.runUnderlying23)) ?_
    refine OD.still (wants_plain rfl) rfl (still_mv rfl opd_const) ?_
    refine OD.wk (Wk.as_ (n := 31) (l' := [(1, _), (5, _), (15, _), (16, _)]) (S' := (⟨b1, 25, 2, [_, _]⟩ :: [])) rfl rfl ⟨lk, lk, lk, lk, trivial⟩) ?_
    refine OD.nil ?_
    refine CD.block ?_
    refine CD.wk (Wk.asS (n := 31) (l' := [(1, .v (.pointer (some ⟨b1, 0, none⟩))), (5, .v (.slice none ((List.range (0)).map (waitsN held queue)).length (0))), (15, .v (.int .i64 (queue.length : Nat))), (16, .v (.int .i64 ((0) : Nat)))]) (S' := ((⟨b1, 25, 2, [.list 3 (held.flatMap cL) held.length, .list 3 (queue.flatMap cL) queue.length]⟩ : Blk) :: ([]))) rfl (by repeat (first | exact List.Sublist.refl _ | apply List.Sublist.cons_cons | apply List.Sublist.cons)) ⟨(by (repeat (first | exact look_hit | (apply look_at; focus (first | rfl | (simp; done) | (congr 2; omega) | (apply row_eq; exact (by rw [waits_at hlt]; exact range_step _ _)) | (apply row_eq; simp; done))) | (apply look_miss; focus rfl))); done), (by (repeat (first | exact look_hit | (apply look_at; focus (first | rfl | (simp; done) | (congr 2; omega) | (apply row_eq; exact (by rw [waits_at hlt]; exact range_step _ _)) | (apply row_eq; simp; done))) | (apply look_miss; focus rfl))); done), (by (repeat (first | exact look_hit | (apply look_at; focus (first | rfl | (simp; done) | (congr 2; omega) | (apply row_eq; exact (by rw [waits_at hlt]; exact range_step _ _)) | (apply row_eq; simp; done))) | (apply look_miss; focus rfl))); done), (by (repeat (first | exact look_hit | (apply look_at; focus (first | rfl | (simp; done) | (congr 2; omega) | (apply row_eq; exact (by rw [waits_at hlt]; exact range_step _ _)) | (apply row_eq; simp; done))) | (apply look_miss; focus rfl))); done), trivial⟩) (CD.loop (fun (gh__ : Nat × Option Addr × Nat × List Blk) y__ => match gh__ with | (i, adr, cpr, Sr) => (i ≤ queue.length) ∧ (OwnL 34 1 (((List.range i).map (waitsN held queue)).flatMap cII) ((List.range i).map (waitsN held queue)).length adr cpr Sr) ∧ y__ = (⟨31, [(1, .v (.pointer (some ⟨b1, 0, none⟩))), (5, .v (.slice adr ((List.range i).map (waitsN held queue)).length cpr)), (15, .v (.int .i64 (queue.length : Nat))), (16, .v (.int .i64 (i : Nat)))], ((⟨b1, 25, 2, [.list 3 (held.flatMap cL) held.length, .list 3 (queue.flatMap cL) queue.length]⟩ : Blk) :: Sr)⟩ : St)) (fun (gh__ : Nat × Option Addr × Nat × List Blk) => match gh__ with | (i, adr, cpr, Sr) => queue.length - i) (0, none, 0, []) ⟨(Nat.zero_le _), (OwnL.cast ownL_nil (by first | rfl | simp)), rfl⟩ ?_)
    rintro ⟨i, adr, cpr, Sr⟩ _ ⟨hi, hor, rfl⟩
    refine CD.seq ?_
    refine CD.region ?_
    refine OD.still (wants_plain rfl) rfl (still_bin rfl ot ot bin_lss) ?_
    refine OD.wk (Wk.as_ (n := 31) (l' := [(1, _), (5, _), (15, _), (16, _), (17, _)]) (S' := (⟨b1, 25, 2, [_, _]⟩ :: Sr)) rfl rfl ⟨lk, lk, lk, lk, lk, trivial⟩) ?_
    refine OD.nil ?_
    refine CD.seq ?_
    refine CD.cond ot (fun hc1 => ?_) (fun hc1 => ?_)
    · have hc1' := hc1
      (try simp only [decide_eq_true_eq, decide_eq_false_iff_not, beq_iff_eq, bne_iff_ne, Bool.not_eq_true', Bool.not_eq_false', Bool.not_eq_true, Bool.not_eq_false, beq_eq_false_iff_ne, ne_eq, bne_eq_false_iff_eq, Bool.and_eq_true, Bool.or_eq_true, Bool.not_not, Bool.and_eq_false_iff, Bool.or_eq_false_iff, Int.not_lt, Int.not_le] at hc1')
      have hlt : i < queue.length := by omega
      have hwl := waits_len held (queue.take i) queue[i]
      have htl : (queue.take i).length ≤ 1000 := by rw [List.length_take]; omega
      refine CD.skip ?_
      refine CD.seq ?_
      refine CD.block ?_
      refine CD.seq ?_
      refine CD.region ?_
      refine OD.still (wants_plain rfl) rfl (still_mv rfl ot) ?_
      refine OD.still (wants_plain rfl) rfl (still_as rfl ot) ?_
      refine OD.wk (Wk.as_ (n := 31) (l' := [(1, _), (5, _), (6, _), (15, _), (16, _)]) (S' := (⟨b1, 25, 2, [_, _]⟩ :: Sr)) rfl rfl ⟨lk, lk, lk, lk, lk, trivial⟩) ?_
      refine OD.nil ?_
      refine CD.seq ?_
      refine CD.region ?_
      refine OD.still (wants_plain rfl) rfl (still_r1 (mk := Op.load 25) rfl ot (by first | exact ld_blks (k := 0) (ds := [_, _]) rfl rfl Tryd.isAgg25 Tryd.sizeOf25 rfl rfl | exact ld_fms cL_len Tryd.isAgg25 Tryd.sizeOf25 (by first | assumption | omega) | exact ld_rows (k := 0) cL_len rfl rfl rfl Tryd.isAgg25 Tryd.sizeOf25 (by first | assumption | omega) | exact ld_is (ds := [_, _]) Tryd.isAgg25 Tryd.sizeOf25 rfl rfl)) ?_
      refine OD.still (wants_plain rfl) rfl (still_mv rfl ot) ?_
      refine OD.call (wants_plain rfl) rfl rfl rfl Tryd.call39 (hwv i hlt) ⟨ot, ot, trivial⟩ (perm_none _) ?_; rintro _ S21 ⟨ad21, cp21, rfl, ho21⟩
      refine OD.perm (perm_q22 (A := [_])) ?_
      refine OD.still (wants_plain rfl) rfl (still_as rfl ot) ?_
      refine OD.wk (Wk.as_ (n := 31) (l' := [(1, _), (5, _), (7, _), (15, _), (16, _)]) (S' := (⟨b1, 25, 2, [_, _]⟩ :: (Sr ++ S21))) rfl rfl ⟨lk, lk, lk, lk, lk, trivial⟩) ?_
      refine OD.nil ?_
      refine CD.seq ?_
      refine CD.region ?_
      refine OD.still (wants_plain rfl) rfl (still_mv rfl ot) ?_
      refine OD.call (wants_plain rfl) rfl rfl rfl Tryd.call40 (sort_row ho21 (by omega)) ⟨ot, trivial⟩ (perm_r22 (A := [_])) ?_; rintro _ S23 ⟨rfl, ho23⟩
      refine OD.perm (perm_q22 (A := [_])) ?_
      refine OD.wk (Wk.as_ (n := 31) (l' := [(1, _), (5, _), (7, _), (15, _), (16, _)]) (S' := (⟨b1, 25, 2, [_, _]⟩ :: (Sr ++ S23))) rfl rfl ⟨lk, lk, lk, lk, lk, trivial⟩) ?_
      refine OD.nil ?_
      refine CD.region ?_
      refine OD.still (wants_plain rfl) rfl (still_mv rfl ot) ?_
      refine OD.still (wants_plain rfl) rfl (still_mv rfl ot) ?_
      refine OD.call (wants_plain rfl) rfl rfl rfl Tryd.call41 (compact_sorted ho23 (by omega)) ⟨ot, trivial⟩ (perm_r22 (A := [_])) ?_; rintro _ S26 ⟨ad26, cp26, rfl, ho26⟩
      refine OD.perm (perm_q22 (A := [_])) ?_
      refine OD.giveL (t := 26) (Sq := S26) lk ho26 (fm_len cI_len _) (perm_r22 (A := [_])) ?_
      refine OD.bldS (pl := [(0, _)]) (zvs := [.slice none 0 0]) (ds := [_]) (wants_plain rfl) rfl rfl Tryd.zeroValue34 Tryd.runUnderlying50 Tryd.sizeOf34 rfl rfl (by kernel_rfl) ⟨rfl, ot, trivial⟩ rfl rfl (fun b27 => ?_)
      refine OD.give (k := 0) (t := 27) (sz := 1) (m := 1) rfl lk rfl rfl rfl (Nat.le_refl _) (by decide) ?_
      refine OD.appendG (ls := ((List.range i).map (waitsN held queue))) (new := [compactL (sortL (waitsL held (queue.take i) queue[i]))]) (Sq := Sr) cII_len cII_one (wants_plain rfl) rfl rfl Tryd.underlying50 info34_Lkm rfl (by decide) ot hor (perm_r11 (A := [_])) ot (by simp) (by have hmx : maxLen = 9223372036854775807 := rfl; (try simp only [List.length_append, List.length_cons, List.length_nil, List.length_map, List.length_range]); omega) (by have hmx : maxLen = 9223372036854775807 := rfl; (try simp only [List.length_append, List.length_cons, List.length_nil, List.length_map, List.length_range]); omega) (fun b28 cp28 h128 h228 => ?_)
      refine OD.perm (perm_q11 (S1 := [⟨b28, 34, cp28 * 1, List.flatMap cII (((List.range i).map (waitsN held queue)) ++ [compactL (sortL (waitsL held (queue.take i) queue[i]))])⟩]) (A := [_])) ?_
      refine OD.still (wants_plain rfl) rfl (still_as rfl ot) ?_
      refine OD.wk (Wk.as_ (n := 31) (l' := [(1, _), (5, _), (15, _), (16, _)]) (S' := (⟨b1, 25, 2, [_, _]⟩ :: [⟨b28, 34, cp28 * 1, List.flatMap cII (((List.range i).map (waitsN held queue)) ++ [compactL (sortL (waitsL held (queue.take i) queue[i]))])⟩])) rfl rfl ⟨lk, lk, lk, lk, trivial⟩) ?_
      refine OD.nil ?_
      refine CD.region ?_
      refine OD.still (wants_plain rfl) rfl (still_bin rfl ot opd_const (bin_add (wrap_i64 (by omega) (by omega)))) ?_
      refine OD.still (wants_plain rfl) rfl (still_mv rfl ot) ?_
      refine OD.wk (Wk.as_ (n := 31) (l' := [(1, _), (5, _), (15, _), (16, _)]) (S' := (⟨b1, 25, 2, [_, _]⟩ :: [⟨b28, 34, cp28 * 1, List.flatMap cII (((List.range i).map (waitsN held queue)) ++ [compactL (sortL (waitsL held (queue.take i) queue[i]))])⟩])) rfl rfl ⟨lk, lk, lk, lk, trivial⟩) ?_
      refine OD.nil ?_
      refine ⟨((i + 1), (some ⟨b28, 0, none⟩), cp28, [⟨b28, 34, cp28 * 1, List.flatMap cII (((List.range i).map (waitsN held queue)) ++ [compactL (sortL (waitsL held (queue.take i) queue[i]))])⟩]), ⟨31, [(1, .v (.pointer (some ⟨b1, 0, none⟩))), (5, .v (.slice ((some ⟨b28, 0, none⟩)) ((List.range ((i + 1))).map (waitsN held queue)).length cp28)), (15, .v (.int .i64 (queue.length : Nat))), (16, .v (.int .i64 (((i + 1)) : Nat)))], ((⟨b1, 25, 2, [.list 3 (held.flatMap cL) held.length, .list 3 (queue.flatMap cL) queue.length]⟩ : Blk) :: ([⟨b28, 34, cp28 * 1, List.flatMap cII (((List.range i).map (waitsN held queue)) ++ [compactL (sortL (waitsL held (queue.take i) queue[i]))])⟩]))⟩, ?_, Wk.asS (n := 31) rfl (by repeat (first | exact List.Sublist.refl _ | apply List.Sublist.cons_cons | apply List.Sublist.cons)) ⟨(by (repeat (first | exact look_hit | (apply look_at; focus (first | rfl | (simp; done) | (congr 2; omega) | (apply row_eq; exact (by rw [waits_at hlt]; exact range_step _ _)) | (apply row_eq; simp; done))) | (apply look_miss; focus rfl))); done), (by (repeat (first | exact look_hit | (apply look_at; focus (first | rfl | (simp; done) | (congr 2; omega) | (apply row_eq; exact (by rw [waits_at hlt]; exact range_step _ _)) | (apply row_eq; simp; done))) | (apply look_miss; focus rfl))); done), (by (repeat (first | exact look_hit | (apply look_at; focus (first | rfl | (simp; done) | (congr 2; omega) | (apply row_eq; exact (by rw [waits_at hlt]; exact range_step _ _)) | (apply row_eq; simp; done))) | (apply look_miss; focus rfl))); done), (by (repeat (first | exact look_hit | (apply look_at; focus (first | rfl | (simp; done) | (congr 2; omega) | (apply row_eq; exact (by rw [waits_at hlt]; exact range_step _ _)) | (apply row_eq; simp; done))) | (apply look_miss; focus rfl))); done), trivial⟩, (by omega), (OwnL.cast (ownL_row h128 h228) (by exact (by rw [waits_at hlt]; exact range_step _ _))), rfl⟩
      first | omega | (simp only []; omega)
    · have hc1' := hc1
      (try simp only [decide_eq_true_eq, decide_eq_false_iff_not, beq_iff_eq, bne_iff_ne, Bool.not_eq_true', Bool.not_eq_false', Bool.not_eq_true, Bool.not_eq_false, beq_eq_false_iff_ne, ne_eq, bne_eq_false_iff_eq, Bool.and_eq_true, Bool.or_eq_true, Bool.not_not, Bool.and_eq_false_iff, Bool.or_eq_false_iff, Int.not_lt, Int.not_le] at hc1')
      have hie : i = queue.length := by omega
      have hfin : (List.range i).map (waitsN held queue) = waitsAll held queue := by rw [hie]; rfl
      refine CD.exit ?_
      refine CD.seq ?_
      refine CD.region ?_
      refine OD.still (wants_plain rfl) rfl (still_mv rfl ot) ?_
      refine OD.still (wants_plain rfl) rfl (still_as rfl ot) ?_
      refine OD.still (wants_plain rfl) rfl (still_as rfl opd_const) ?_
      refine OD.wk (Wk.as_ (n := 31) (l' := [(2, _), (3, _)]) (S' := (⟨b1, 25, 2, [_, _]⟩ :: Sr)) rfl rfl ⟨lk, lk, trivial⟩) ?_
      refine OD.nil ?_
      refine CD.giveL (t := 2) (Sq := Sr) lk hor (fm_len cII_len _) (perm_r11 (A := [_])) ?_
      refine CD.ret ?_
      refine ⟨.inr rfl, _, [], List.nil_sublist _, ret_two Tryd.results23 (res_tmp (Nat.le_of_ble_eq_true rfl) lk) (res_tmp (Nat.le_of_ble_eq_true rfl) lk), ?_⟩
      rw [hfin]; exact ⟨rfl, rfl⟩

end Go.Proofs.YtcogdagfcndbfaaDoor.Lk

namespace Go.Proofs.YtcogdagfcndbfaaDoor.Lk
open Go.RowKit V
set_option linter.unusedVariables false
set_option linter.unusedSimpArgs false

theorem all_len (held queue : List L) : (waitsAll held queue).length = queue.length := by unfold waitsAll; simp
theorem all_at {held queue : List L} {i : Nat} (h : i < (waitsAll held queue).length) : (waitsAll held queue)[i] = waitsN held queue i := by
  show ((List.range queue.length).map (waitsN held queue))[i]'(by simpa [waitsAll] using h) = _
  rw [List.getElem_map, List.getElem_range]
theorem modeF_held {held : List L} {h : L} {th : ByteArray} (hm : ∀ y ∈ held, modeB y.m = true) (hh : h ∈ held) (he : (h.th.toList == th.toList) = true) : 0 < modeF held h.t th := by
  unfold modeF
  cases hf : held.find? (hasK h.t th) with
  | none =>
    have := List.find?_eq_none.1 hf h hh
    exact absurd (by unfold hasK; rw [he]; simp) this
  | some y =>
    have hy := modeB_bd (hm y (List.mem_of_find?_eq_some hf))
    show 0 < y.m
    omega
/-- For whom one waits: it is another one, who holds the thing or stands ahead. -/
theorem waits_mem {held pre : List L} {q : L} {u : Int} (hm : ∀ y ∈ held, modeB y.m = true) (hp : (pre.any fun x => x.t == q.t) = false) (hu : u ∈ waitsL held pre q) :
    u ≠ q.t ∧ (0 < modeF held u q.th ∨ ∃ x ∈ pre, x.t = u ∧ (x.th.toList == q.th.toList) = true) := by
  unfold waitsL at hu
  rcases List.mem_append.1 hu with hu | hu
  · obtain ⟨h, h1, rfl⟩ := List.mem_map.1 hu
    obtain ⟨h2, h3⟩ := List.mem_filter.1 h1
    unfold clash at h3
    simp only [Bool.and_eq_true, bne_iff_ne, ne_eq] at h3
    exact ⟨h3.2.1, .inl (modeF_held hm h2 h3.1)⟩
  · split at hu
    · obtain ⟨x, h1, rfl⟩ := List.mem_map.1 hu
      obtain ⟨h2, h3⟩ := List.mem_filter.1 h1
      have hx := List.any_eq_false.1 hp x h2
      exact ⟨fun e => hx (by rw [e]; simp), .inr ⟨x, h2, rfl, h3⟩⟩
    · cases hu
/-- Who must wait waits for somebody. -/
theorem waits_ne {held pre : List L} {q : L} (h : firstQ held pre q = false) : waitsL held pre q ≠ [] := by
  intro e
  unfold waitsL at e
  obtain ⟨e1, e2⟩ := List.append_eq_nil_iff.1 e
  have h1 : held.any (clash q) = false := by
    rw [List.any_eq_false]
    intro x hx hc
    have : x ∈ held.filter (clash q) := List.mem_filter.2 ⟨hx, hc⟩
    rw [List.map_eq_nil_iff.1 e1] at this
    cases this
  unfold firstQ freeB at h
  rw [h1] at h
  by_cases hf : findI held q.t q.th < 0
  · rw [if_pos hf] at e2
    have h2 : pre.any (onTh q) = false := by
      rw [List.any_eq_false]
      intro x hx hc
      have : x ∈ pre.filter (onTh q) := List.mem_filter.2 ⟨hx, hc⟩
      rw [List.map_eq_nil_iff.1 e2] at this
      cases this
    rw [h2] at h
    simp at h
  · have : decide (0 ≤ findI held q.t q.th) = true := decide_eq_true (by omega)
    rw [this] at h
    simp at h
theorem upTo_rise {d : Array Int} (hs : ∀ i j, i ≤ j → j < d.size → d[i]! ≤ d[j]!) : ∀ m, m ≤ d.size → (Go.Lib.compactUpTo d m).Pairwise (· < ·) ∧ ∀ x ∈ Go.Lib.compactUpTo d m, x ≤ d[m - 1]!
  | 0, _ => ⟨by simp [Go.Lib.compactUpTo], fun x hx => by simp [Go.Lib.compactUpTo] at hx⟩
  | m + 1, hm => by
    obtain ⟨h1, h2⟩ := upTo_rise hs m (by omega)
    rw [Go.Lib.compactUpTo_succ]
    have hle : d[m - 1]! ≤ d[m]! := hs (m - 1) m (by omega) (by omega)
    by_cases hk : Go.Lib.keeps d m = true
    · rw [if_pos hk]
      have hlt : ∀ x ∈ Go.Lib.compactUpTo d m, x < d[m]! := fun x hx => by
        have hx2 := h2 x hx
        by_cases h0 : m = 0
        · subst h0; simp [Go.Lib.compactUpTo] at hx
        · have : d[m]! ≠ d[m - 1]! := fun e => by rw [Go.Lib.keeps_neg (by omega) e] at hk; cases hk
          omega
      refine ⟨List.pairwise_append.2 ⟨h1, by simp, fun x hx y hy => ?_⟩, fun x hx => ?_⟩
      · simp only [List.mem_singleton] at hy; subst hy; exact hlt x hx
      · rcases List.mem_append.1 hx with hx | hx
        · have := hlt x hx; show x ≤ d[m]!; omega
        · simp only [List.mem_singleton] at hx; subst hx; exact Int.le_refl _
    · rw [if_neg hk, List.append_nil]
      exact ⟨h1, fun x hx => by have := h2 x hx; show x ≤ d[m]!; omega⟩
theorem compact_mem {l : List Int} {u : Int} (h : u ∈ compactL l) : u ∈ l := by
  unfold compactL Go.Lib.compact Go.Lib.compactUpTo at h
  obtain ⟨j, hj, rfl⟩ := List.mem_map.1 h
  have hj := List.mem_range.1 (List.mem_filter.1 hj).1
  have e : l.toArray[j]! = l[j] := by simp [hj]
  rw [e]
  exact List.getElem_mem hj
theorem compact_ne {l : List Int} (h : l ≠ []) : compactL l ≠ [] := by
  unfold compactL Go.Lib.compact Go.Lib.compactUpTo
  intro e
  have e := List.map_eq_nil_iff.1 e
  have hl : 0 < l.length := List.length_pos_iff.2 h
  have : 0 ∈ (List.range l.length).filter (Go.Lib.keeps l.toArray) := List.mem_filter.2 ⟨List.mem_range.2 hl, Go.Lib.keeps_lt_one _ 0 (by omega)⟩
  rw [e] at this
  cases this
theorem sort_sorted (l : List Int) : (sortL l).Pairwise (· ≤ ·) := by
  have := List.pairwise_mergeSort (le := fun x y : Int => decide (x ≤ y)) (fun a b c h1 h2 => by simp at *; omega) (fun a b => by simp; omega) l
  exact this.imp fun h => by simpa using h
theorem sorted_get {l : List Int} (h : l.Pairwise (· ≤ ·)) : ∀ i j, i ≤ j → j < l.toArray.size → l.toArray[i]! ≤ l.toArray[j]! := fun i j hij hj => by
  have hj' : j < l.length := by simpa using hj
  have hi' : i < l.length := by omega
  have e1 : l.toArray[i]! = l[i] := by simp [hi']
  have e2 : l.toArray[j]! = l[j] := by simp [hj']
  rw [e1, e2]
  rcases Nat.lt_or_ge i j with hlt | hge
  · exact List.pairwise_iff_getElem.1 h i j hi' hj' hlt
  · have : i = j := by omega
    subst this
    exact Int.le_refl _
/-- What one waits for stands in order, each once. -/
theorem told_rise (l : List Int) : (compactL (sortL l)).Pairwise (· < ·) := (upTo_rise (sorted_get (sort_sorted l)) _ (by simp)).1
theorem sort_mem {l : List Int} {u : Int} : u ∈ sortL l ↔ u ∈ l := by unfold sortL; exact List.mem_mergeSort
theorem told_ne {l : List Int} (h : l ≠ []) : compactL (sortL l) ≠ [] := compact_ne fun e => h (List.eq_nil_of_length_eq_zero (by rw [← sort_len l, e]; rfl))
theorem told_mem {l : List Int} {u : Int} (h : u ∈ compactL (sortL l)) : u ∈ l := sort_mem.1 (compact_mem h)
/-- Of good locks: who waits, waits for somebody else that holds the thing or stands ahead; each is told once, in order. -/
theorem waits_told {held queue : List L} (g : Good held queue) (hm : ∀ y ∈ held, modeB y.m = true) {i : Nat} (hi : i < queue.length) :
    waitsN held queue i ≠ [] ∧ (waitsN held queue i).Pairwise (· < ·) ∧ ∀ u ∈ waitsN held queue i, u ≠ queue[i].t ∧ (0 < modeF held u queue[i].th ∨ ∃ x ∈ queue.take i, x.t = u ∧ (x.th.toList == queue[i].th.toList) = true) := by
  have hb := g.queueOk i hi
  unfold badQ at hb
  simp only [Bool.or_eq_false_iff] at hb
  rw [← waits_at hi]
  exact ⟨told_ne (waits_ne hb.2), told_rise _, fun u hu => waits_mem hm hb.1.1.2 (told_mem hu)⟩

end Go.Proofs.YtcogdagfcndbfaaDoor.Lk

namespace Go.Proofs.YtcogdagfcndbfaaDoor.Lk
open Go.RowKit V
set_option linter.unusedVariables false
set_option linter.unusedSimpArgs false

def nextW (queue : List L) (ws : List (List Int)) (t : Int) : List Int :=
  match queue.findIdx? (fun x => x.t == t) with
  | some k => ws.getD k []
  | none => []
/-- Who is reached from those that are still to be looked at. -/
def reach (queue : List L) (ws : List (List Int)) : Nat → List Int → List Int → List Int
  | 0, _, seen => seen
  | n + 1, todo, seen =>
    match todo.getLast? with
    | none => seen
    | some t => if t ∈ seen then reach queue ws n todo.dropLast seen else reach queue ws n (todo.dropLast ++ nextW queue ws t) (seen ++ [t])
def weightW (queue : List L) (ws : List (List Int)) (seen : List Int) (k : Nat) : Nat := if (queue.getD k ⟨0, ⟨#[]⟩, 0⟩).t ∈ seen then 0 else (ws.getD k []).length
def openW (queue : List L) (ws : List (List Int)) (seen : List Int) : Nat := ((List.range queue.length).map (weightW queue ws seen)).sum
def muW (queue : List L) (ws : List (List Int)) (todo seen : List Int) : Nat := todo.length + openW queue ws seen
theorem sum_less {f g : Nat → Nat} (h : ∀ k, g k ≤ f k) : ∀ n, ((List.range n).map g).sum ≤ ((List.range n).map f).sum
  | 0 => Nat.le_refl _
  | n + 1 => by
    have := sum_less h n
    have hn := h n
    simp only [List.range_succ, List.map_append, List.sum_append, List.map_cons, List.map_nil, List.sum_cons, List.sum_nil]
    omega
theorem sum_drop {f g : Nat → Nat} {k d : Nat} (h : ∀ k, g k ≤ f k) (hk : g k + d ≤ f k) : ∀ n, k < n → ((List.range n).map g).sum + d ≤ ((List.range n).map f).sum
  | 0, hn => absurd hn (Nat.not_lt_zero _)
  | n + 1, hn => by
    have hnn := h n
    simp only [List.range_succ, List.map_append, List.sum_append, List.map_cons, List.map_nil, List.sum_cons, List.sum_nil]
    rcases Nat.lt_or_ge k n with hkn | hkn
    · have := sum_drop h hk n hkn
      omega
    · have e : k = n := by omega
      subst e
      have := sum_less h k
      omega
theorem weight_le (queue : List L) (ws : List (List Int)) (seen : List Int) (t : Int) (k : Nat) : weightW queue ws (seen ++ [t]) k ≤ weightW queue ws seen k := by
  unfold weightW
  by_cases h : (queue.getD k ⟨0, ⟨#[]⟩, 0⟩).t ∈ seen
  · rw [if_pos h, if_pos (List.mem_append_left _ h)]; exact Nat.le_refl _
  · rw [if_neg h]; split <;> omega
theorem open_next {queue : List L} {ws : List (List Int)} {seen : List Int} {t : Int} (h : t ∉ seen) : openW queue ws (seen ++ [t]) + (nextW queue ws t).length ≤ openW queue ws seen := by
  unfold nextW
  cases hf : queue.findIdx? (fun x => x.t == t) with
  | none => show openW queue ws (seen ++ [t]) + 0 ≤ openW queue ws seen; exact sum_less (weight_le queue ws seen t) _
  | some k =>
    obtain ⟨hk, h2, _⟩ := List.findIdx?_eq_some_iff_getElem.1 hf
    have e : (queue.getD k ⟨0, ⟨#[]⟩, 0⟩).t = t := by
      rw [List.getD_eq_getElem?_getD, List.getElem?_eq_getElem hk]
      simpa using h2
    show openW queue ws (seen ++ [t]) + (ws.getD k []).length ≤ openW queue ws seen
    refine sum_drop (weight_le queue ws seen t) (k := k) ?_ _ hk
    unfold weightW
    rw [e, if_neg h, if_pos (by simp)]
    omega
theorem last_some {todo : List Int} {t : Int} (h : todo.getLast? = some t) : 0 < todo.length ∧ todo.dropLast.length = todo.length - 1 := by
  refine ⟨List.length_pos_iff.2 fun e => (by rw [e] at h; cases h), by simp⟩
theorem reach_end {queue : List L} {ws : List (List Int)} {n : Nat} {todo seen : List Int} (h : todo.getLast? = none) : reach queue ws (n + 1) todo seen = seen := by rw [reach, h]
theorem reach_in {queue : List L} {ws : List (List Int)} {n : Nat} {todo seen : List Int} {t : Int} (h : todo.getLast? = some t) (hs : t ∈ seen) : reach queue ws (n + 1) todo seen = reach queue ws n todo.dropLast seen := by rw [reach, h]; exact if_pos hs
theorem reach_out {queue : List L} {ws : List (List Int)} {n : Nat} {todo seen : List Int} {t : Int} (h : todo.getLast? = some t) (hs : t ∉ seen) : reach queue ws (n + 1) todo seen = reach queue ws n (todo.dropLast ++ nextW queue ws t) (seen ++ [t]) := by rw [reach, h]; exact if_neg hs
theorem reach_more (queue : List L) (ws : List (List Int)) : ∀ n todo seen, muW queue ws todo seen ≤ n → reach queue ws (n + 1) todo seen = reach queue ws n todo seen
  | 0, todo, seen, h => by
    have : todo = [] := List.eq_nil_of_length_eq_zero (by unfold muW at h; omega)
    subst this; rfl
  | n + 1, todo, seen, h => by
    cases hl : todo.getLast? with
    | none => rw [reach_end hl, reach_end hl]
    | some t =>
      obtain ⟨h1, h2⟩ := last_some hl
      unfold muW at h
      by_cases hs : t ∈ seen
      · rw [reach_in hl hs, reach_in hl hs]
        refine reach_more queue ws n _ _ ?_
        unfold muW
        omega
      · rw [reach_out hl hs, reach_out hl hs]
        have := open_next (queue := queue) (ws := ws) hs
        refine reach_more queue ws n _ _ ?_
        unfold muW
        rw [List.length_append]
        omega
theorem reach_from (queue : List L) (ws : List (List Int)) (todo seen : List Int) : ∀ n, muW queue ws todo seen ≤ n → reach queue ws n todo seen = reach queue ws (muW queue ws todo seen) todo seen := fun n hn => by
  obtain ⟨d, rfl⟩ := Nat.exists_eq_add_of_le hn
  induction d with
  | zero => rfl
  | succ d ih => exact (reach_more queue ws (muW queue ws todo seen + d) _ _ (Nat.le_add_right _ _)).trans (ih (Nat.le_add_right _ _))
def reachW (queue : List L) (ws : List (List Int)) (todo seen : List Int) : List Int := reach queue ws (muW queue ws todo seen) todo seen
theorem last_get {todo : List Int} (h : 0 < todo.length) : todo.getLast? = some todo[todo.length - 1] := by
  rw [List.getLast?_eq_getElem?, List.getElem?_eq_getElem]
theorem mu_old {queue : List L} {ws : List (List Int)} {todo seen : List Int} (h : 0 < todo.length) : muW queue ws (todo.take (todo.length - 1)) seen < muW queue ws todo seen := by
  unfold muW; rw [List.length_take]; omega
theorem mu_new {queue : List L} {ws : List (List Int)} {todo seen : List Int} (h : 0 < todo.length) (hs : todo[todo.length - 1] ∉ seen) : muW queue ws (todo.take (todo.length - 1) ++ nextW queue ws todo[todo.length - 1]) (seen ++ [todo[todo.length - 1]]) < muW queue ws todo seen := by
  have := open_next (queue := queue) (ws := ws) hs
  unfold muW; rw [List.length_append, List.length_take]; omega
theorem reach_old {queue : List L} {ws : List (List Int)} {todo seen : List Int} (h : 0 < todo.length) (hs : todo[todo.length - 1] ∈ seen) : reachW queue ws (todo.take (todo.length - 1)) seen = reachW queue ws todo seen := by
  have hm := mu_old (queue := queue) (ws := ws) (seen := seen) h
  have e : reachW queue ws todo seen = reach queue ws (muW queue ws todo seen - 1 + 1) todo seen := by unfold reachW; congr 1; omega
  rw [e, reach_in (last_get h) hs, List.dropLast_eq_take]
  exact (reach_from queue ws _ _ _ (by omega)).symm
theorem reach_new {queue : List L} {ws : List (List Int)} {todo seen : List Int} (h : 0 < todo.length) (hs : todo[todo.length - 1] ∉ seen) : reachW queue ws (todo.take (todo.length - 1) ++ nextW queue ws todo[todo.length - 1]) (seen ++ [todo[todo.length - 1]]) = reachW queue ws todo seen := by
  have hm := mu_new (queue := queue) (ws := ws) h hs
  have e : reachW queue ws todo seen = reach queue ws (muW queue ws todo seen - 1 + 1) todo seen := by unfold reachW; congr 1; omega
  rw [e, reach_out (last_get h) hs, List.dropLast_eq_take]
  exact (reach_from queue ws _ _ _ (by omega)).symm
theorem reach_nil {queue : List L} {ws : List (List Int)} {todo seen : List Int} (h : todo.length = 0) : reachW queue ws todo seen = seen := by
  have : todo = [] := List.eq_nil_of_length_eq_zero h
  subst this
  unfold reachW
  cases muW queue ws [] seen <;> rfl
/-- Who waits for somebody that does not wait is not reached. -/
theorem reach_few {queue : List L} {ws : List (List Int)} (p : Int → Prop) (hn : ∀ t, p t → ∀ u ∈ nextW queue ws t, p u) : ∀ n todo seen, (∀ u ∈ todo, p u) → (∀ u ∈ seen, p u) → ∀ u ∈ reach queue ws n todo seen, p u
  | 0, todo, seen, _, h2 => h2
  | n + 1, todo, seen, h1, h2 => by
    cases hl : todo.getLast? with
    | none => rw [reach_end hl]; exact h2
    | some t =>
      have ht : p t := h1 t (List.mem_of_getLast? hl)
      have hd : ∀ u ∈ todo.dropLast, p u := fun u hu => h1 u ((List.dropLast_sublist todo).subset hu)
      by_cases hs : t ∈ seen
      · rw [reach_in hl hs]; exact reach_few p hn n _ _ hd h2
      · rw [reach_out hl hs]
        refine reach_few p hn n _ _ (fun u hu => ?_) (fun u hu => ?_)
        · rcases List.mem_append.1 hu with hu | hu
          · exact hd u hu
          · exact hn t ht u hu
        · rcases List.mem_append.1 hu with hu | hu
          · exact h2 u hu
          · rw [List.mem_singleton] at hu; subst hu; exact ht
/-- The youngest of those at the first places that wait for themselves. -/
def vicUp (held queue : List L) : Nat → Int
  | 0 => 0
  | i + 1 => if (queue.getD i ⟨0, ⟨#[]⟩, 0⟩).t ∈ reachW queue (waitsAll held queue) (waitsN held queue i) [] then (if vicUp held queue i < (queue.getD i ⟨0, ⟨#[]⟩, 0⟩).t then (queue.getD i ⟨0, ⟨#[]⟩, 0⟩).t else vicUp held queue i) else vicUp held queue i
def vicF (held queue : List L) : Int := vicUp held queue queue.length
theorem at_D {queue : List L} {i : Nat} (h : i < queue.length) : queue.getD i ⟨0, ⟨#[]⟩, 0⟩ = queue[i] := by rw [List.getD_eq_getElem?_getD, List.getElem?_eq_getElem h]; rfl
theorem vic_hit {held queue : List L} {i : Nat} (h : i < queue.length) (hm : queue[i].t ∈ reachW queue (waitsAll held queue) (waitsN held queue i) []) : (if vicUp held queue i < queue[i].t then queue[i].t else vicUp held queue i) = vicUp held queue (i + 1) := by
  rw [vicUp, at_D h, if_pos hm]
theorem vic_miss {held queue : List L} {i : Nat} (h : i < queue.length) (hm : queue[i].t ∉ reachW queue (waitsAll held queue) (waitsN held queue i) []) : vicUp held queue i = vicUp held queue (i + 1) := by
  rw [vicUp, at_D h, if_neg hm]
/-- The victim waits, if there is one. -/
theorem vic_waits (held queue : List L) : ∀ i, i ≤ queue.length → vicUp held queue i = 0 ∨ ∃ q ∈ queue, q.t = vicUp held queue i
  | 0, _ => .inl rfl
  | i + 1, hi => by
    have ih := vic_waits held queue i (by omega)
    rw [vicUp, at_D (show i < queue.length by omega)]
    split
    · split
      · exact .inr ⟨_, List.getElem_mem _, rfl⟩
      · exact ih
    · exact ih
/-- One alone does not wait for itself. -/
theorem vic_one {held queue : List L} (g : Good held queue) (hm : ∀ y ∈ held, modeB y.m = true) (h1 : queue.length ≤ 1) : vicF held queue = 0 := by
  unfold vicF
  match queue, h1 with
  | [], _ => rfl
  | [q], _ =>
    obtain ⟨_, _, t3⟩ := waits_told g hm (show 0 < [q].length from Nat.zero_lt_one)
    refine (vic_miss (queue := [q]) (i := 0) Nat.zero_lt_one fun hr => ?_).symm.trans rfl
    refine reach_few (queue := [q]) (ws := waitsAll held [q]) (fun u => u ≠ q.t) (fun t ht u hu => ?_) _ _ _ (fun u hu => (t3 u hu).1) (fun u hu => by cases hu) _ hr rfl
    have : nextW [q] (waitsAll held [q]) t = [] := by
      unfold nextW
      rw [List.findIdx?_cons, if_neg (by simpa using fun e : q.t = t => ht e.symm)]
      rfl
    rw [this] at hu; cases hu

end Go.Proofs.YtcogdagfcndbfaaDoor.Lk

namespace Go.Proofs.YtcogdagfcndbfaaDoor.V
open Go.RowKit
set_option linter.unusedVariables false
set_option linter.unusedSimpArgs false

variable {P : Program} {G : List (Nat × List Value)} {x : St} {o : Oper} {C : Ctx} {Q : Exit → St → Prop} {ops : Array Oper} {l : List Oper}

/-- The keys of a set, in the order in which they came. -/
def keysD (ks : List Int) : List D := ks.map fun k => .v (.int .i64 k)
def setB (b : Nat) (ks : List Int) : Blk := ⟨b, mapTag, ks.length, keysD ks⟩

theorem keys_cur {w : World} {L : Nat → Prop} {ks : List Int} {cur : Array Value} (h2 : cur.size = ks.length) (h4 : ∀ i (h : i < (keysD ks).length), ∃ u, cur[i]? = some u ∧ Rep w L (keysD ks)[i] u) : cur = (ks.map (Value.int .i64)).toArray := by
  apply Array.ext (by simp [h2])
  intro i q1 q2
  have hi : i < ks.length := by omega
  obtain ⟨u, hu, hr⟩ := h4 i (by simpa [keysD] using hi)
  simp only [keysD, List.getElem_map] at hr
  have := hr.v_eq
  subst this
  have e := (Array.getElem?_eq_some_iff.1 hu).2
  rw [e]; simp

/-- A block turns into another one at its place. -/
theorem Sim.setOb {a : Act} {w : World} (h : Sim C x a w) {i : Nat} {B B' : Blk} {cur' : Array Value} (hk : x.S[i]? = some B) (hb : B'.b = B.b) (h2 : cur'.size = B'.size) (h3 : B'.cs.length ≤ B'.size)
    (h4 : ∀ j (hj : j < B'.cs.length), ∃ u, cur'[j]? = some u ∧ Rep w (live C.X x.S) B'.cs[j] u) :
    Sim C ⟨x.n, x.env, x.S.set i B'⟩ a { w with heap := w.heap.setIfInBounds B.b (ob B'.e cur') } ∧ Chg [B.b] w { w with heap := w.heap.setIfInBounds B.b (ob B'.e cur') } ∧ Fr w (bks x.S) { w with heap := w.heap.setIfInBounds B.b (ob B'.e cur') } (bks (x.S.set i B')) := by
  obtain ⟨h0, cur, r1, r2, r3, r4⟩ := h.blk hk
  generalize hw' : ({ w with heap := w.heap.setIfInBounds B.b (ob B'.e cur') } : World) = w'
  have i1 : w'.heap[B.b]? = some (ob B'.e cur') := by rw [← hw']; simp [h0]
  have i2 : ∀ b, b ≠ B.b → w'.heap[b]? = w.heap[b]? := fun b hn => by rw [← hw']; simp [Ne.symm hn]
  have i3 : w'.heap.size = w.heap.size := by rw [← hw']; simp
  have i4 : w'.os = w.os := by rw [← hw']
  have i5 : w'.tape = w.tape := by rw [← hw']
  have i6 : w'.output = w.output := by rw [← hw']
  have hkl : i < x.S.length := (List.getElem?_eq_some_iff.1 hk).1
  have hkB : x.S[i] = B := (List.getElem?_eq_some_iff.1 hk).2
  have hbks : bks (x.S.set i B') = bks x.S := by
    unfold bks
    rw [List.map_set]
    apply List.ext_getElem (by simp)
    intro j q1 q2
    rw [List.getElem_set]
    split
    · rename_i e; subst e; simp [hkB, hb]
    · rfl
  have hlive : live C.X (x.S.set i B') = live C.X x.S := by funext b; simp only [live, hbks]
  have hB : live C.X x.S B.b := live_blk hk
  have H : ∀ b, b < w.heap.size → ¬ live C.X x.S b → w'.heap[b]? = w.heap[b]? ∧ ¬ live C.X x.S b := fun b _ hn => ⟨i2 b (fun e => hn (e ▸ hB)), hn⟩
  refine ⟨⟨h.defers, h.size, fun t ht => ?_, ⟨fun B2 hB2 => ?_, ?_⟩, ?_, h.ex, h.tab⟩, ⟨by rw [i3]; exact Nat.le_refl _, fun b _ hn => i2 b (by simpa using hn)⟩, ?_⟩
  · simp only [hlive]; exact (h.env t ht).mono H
  · simp only [hlive]
    obtain ⟨j, hj, hje⟩ := List.mem_iff_getElem.1 hB2
    rw [List.length_set] at hj
    rw [List.getElem_set] at hje
    by_cases e : i = j
    · rw [if_pos e] at hje
      subst hje
      refine ⟨by rw [i3, hb]; exact h0, cur', by rw [hb]; exact i1, h2, h3, fun q hq => ?_⟩
      obtain ⟨u, hu, hq'⟩ := h4 q hq
      exact ⟨u, hu, hq'.mono H⟩
    · rw [if_neg e] at hje
      subst hje
      have hne : x.S[j].b ≠ B.b := fun he => by
        have h1' : (bks x.S)[j]'(by simpa [bks] using hj) = (bks x.S)[i]'(by simpa [bks] using hkl) := by simp [bks, he, hkB]
        have hp := List.pairwise_iff_getElem.1 h.own.apart
        rcases Nat.lt_trichotomy j i with hjk | hjk | hjk
        · exact hp j i (by simpa [bks] using hj) (by simpa [bks] using hkl) hjk h1'
        · exact e hjk.symm
        · exact hp i j (by simpa [bks] using hkl) (by simpa [bks] using hj) hjk h1'.symm
      obtain ⟨q0, cur2, q1, q2, q3, q4⟩ := h.own.at_ x.S[j] (List.getElem_mem hj)
      refine ⟨by rw [i3]; exact q0, cur2, (i2 _ hne).trans q1, q2, q3, fun q hq => ?_⟩
      obtain ⟨u, hu, hq'⟩ := q4 q hq
      exact ⟨u, hu, hq'.mono H⟩
  · simp only [hbks]; exact h.own.apart
  · refine ⟨i4.trans h.fr.os, i5.trans h.fr.tape, i6.trans h.fr.output, by rw [i3]; exact h.fr.size, fun b hb' hn => ?_⟩
    obtain ⟨q1, q2⟩ := h.fr.block b hb' hn
    refine ⟨(i2 b (fun e => q2 (e ▸ List.mem_map.2 ⟨B, List.mem_of_getElem? hk, rfl⟩))).trans q1, ?_⟩
    simp only [hbks]; exact q2
  · rw [hbks]
    exact ⟨i4, i5, i6, by rw [i3]; exact Nat.le_refl _, fun b hb' hn => ⟨i2 b (fun e => hn (e ▸ List.mem_map.2 ⟨B, List.mem_of_getElem? hk, rfl⟩)), hn⟩⟩

/-- A set is made. -/
theorem eff_makeSet {t : TypeId} {tt : Nat} (ho : o.op = .makeMap t none) (hd : o.dst = some tt) : Eff P G x o [] (fun y => ∃ b, y = ⟨x.n, (tt, .v (.map (some b))) :: x.env, setB b [] :: x.S⟩) := fun C a w K Q hG h hK => by
  have : (execOp a.eval o).run P w = .ok (.value (.map (some w.heap.size))) (w.alloc (ob mapTag #[])) := by
    unfold execOp
    simp [ho, Instr.makeMap, ob_map, mapOb]
  unfold Oper.wp
  rw [this, Oper.upon_value, hd]
  exact hK _ _ _ ⟨w.heap.size, rfl⟩ (h.newOb (ds := []) (RepL.nil _ _) (by simp) (fun L => .v _)) (Chg.alloc _ _) (Fr.alloc _ _ _)

/-- What lies in a set's block, and where a key stands. -/
theorem set_at {w : World} {L : Nat → Prop} {b : Nat} {ks : List Int} (h : BlkAt w L (setB b ks)) : w.heap[b]? = some (mapOb (ks.map (Value.int .i64)).toArray) := by
  obtain ⟨h0, cur, h1, h2, h3, h4⟩ := h
  have h2 : cur.size = ks.length := h2
  have := keys_cur h2 h4
  subst this
  exact h1

theorem set_key {ks : List Int} {e : MapEntry} (h : e ∈ (Array.mapIdx (fun i k => (⟨k, .agg #[], i⟩ : MapEntry)) (ks.map (Value.int .i64)).toArray).toList) : ∃ k ∈ ks, e.key = .int .i64 k ∧ e.val = .agg #[] := by
  obtain ⟨i, hi, rfl⟩ := List.mem_iff_getElem.1 h
  have hi' : i < ks.length := by simpa using hi
  exact ⟨ks[i], List.getElem_mem hi', by simp, by simp⟩

theorem set_find {ks : List Int} {k : Int} : (k ∉ ks ∧ Instr.findNow (.int .i64) (.int .i64 k) (Array.mapIdx (fun i k => (⟨k, .agg #[], i⟩ : MapEntry)) (ks.map (Value.int .i64)).toArray).toList 0 = some none) ∨
    (k ∈ ks ∧ ∃ i, Instr.findNow (.int .i64) (.int .i64 k) (Array.mapIdx (fun i k => (⟨k, .agg #[], i⟩ : MapEntry)) (ks.map (Value.int .i64)).toArray).toList 0 = some (some (i, .agg #[]))) := by
  rcases MapKept.findNow_spec (d := .int .i64) (k := .int .i64 k) (by simp [MapKept.IsKey]) (Array.mapIdx (fun i k => (⟨k, .agg #[], i⟩ : MapEntry)) (ks.map (Value.int .i64)).toArray).toList 0 (fun e he => by
      obtain ⟨k', _, h1, _⟩ := set_key he
      rw [h1]; simp [MapKept.IsKey]) with ⟨h1, h2⟩ | ⟨j, e, h1, h2, h3⟩
  · refine .inl ⟨fun hm => ?_, h1⟩
    obtain ⟨i, hi, rfl⟩ := List.mem_iff_getElem.1 hm
    exact h2 ((Array.mapIdx (fun i k => (⟨k, .agg #[], i⟩ : MapEntry)) (ks.map (Value.int .i64)).toArray).toList[i]'(by simpa using hi)) (List.getElem_mem _) (by simp)
  · obtain ⟨k', hk', q1, q2⟩ := set_key (List.mem_of_getElem? h2)
    rw [h3] at q1
    have : k = k' := by simpa using q1
    subst this
    rw [q2] at h1
    exact .inr ⟨hk', _, h1⟩

/-- Is a key there? -/
theorem still_has {mt kt et : TypeId} {i b : Nat} {ks : List Int} {k : Int} {y z : Operand} (ho : o.op = .lookup mt y z true) (hy : opd x y = .v (.map (some b))) (hz : opd x z = .v (.int .i64 k)) (hk : x.S[i]? = some (setB b ks))
    (hm : P.underlying mt = some (.map kt et)) (hkt : P.underlying kt = some (.int .i64)) (hze : ∀ w, (zeroValue et).run P w = .ok (.agg #[]) w) : Still P G x o (.blk i) (.tup [.v (.agg #[]), .v (.bool (decide (k ∈ ks)))]) := fun C a w _ h => by
  have h1 := set_at (h.blk hk)
  refine ⟨.tuple #[.agg #[], .bool (decide (k ∈ ks))], .tup _ [.agg #[], .bool (decide (k ∈ ks))] rfl (fun j q1 q2 => ?_), fun w' hw => ?_⟩
  · rcases j with _ | _ | j
    · exact .v _
    · exact .v _
    · simp at q1; omega
  · have hh : w'.heap[b]? = _ := (hw _ hk).trans h1
    have hck := MapKept.run_checkKey (P := P) (w := w') (kt := kt) (d := .int .i64) (k := .int .i64 k) hkt (by simp [MapKept.IsKey])
    unfold execOp
    rcases set_find (ks := ks) (k := k) with ⟨n1, n2⟩ | ⟨n1, j, n2⟩
    · have hf := MapKept.run_findKey (P := P) (w := w') hkt n2
      simp only [ho, h.flat hy, h.flat hz, Instr.lookup, Sem.run_bind, run_underlying hm, MapKept.run_getObj_map hh, hck, hf, hze, Result.andThen_ok, Sem.run_pure, n1, decide_false, if_true]
    · have hf := MapKept.run_findKey (P := P) (w := w') hkt n2
      simp only [ho, h.flat hy, h.flat hz, Instr.lookup, Sem.run_bind, run_underlying hm, MapKept.run_getObj_map hh, hck, hf, Result.andThen_ok, Sem.run_pure, n1, decide_true, if_true]

/-- A key comes into a set. -/
theorem eff_addKey {mt kt et : TypeId} {i b : Nat} {ks : List Int} {k : Int} {y z u : Operand} (ho : o.op = .mapUpdate mt y z u) (hd : o.dst = none) (hy : opd x y = .v (.map (some b))) (hz : opd x z = .v (.int .i64 k)) (hu : opd x u = .agg []) (hk : x.S[i]? = some (setB b ks)) (hn : k ∉ ks)
    (hm : P.underlying mt = some (.map kt et)) (hkt : P.underlying kt = some (.int .i64)) : Eff P G x o [b] (fun s => s = ⟨x.n, x.env, x.S.set i (setB b (ks ++ [k]))⟩) := fun C a w K Q hG h hK => by
  have h1 := set_at (h.blk hk)
  have hv : a.eval u = .agg #[] := by
    have := h.eval u
    rw [hu] at this
    generalize a.eval u = v at this
    cases this with
    | agg _ vs hl _ =>
      have : vs = [] := List.eq_nil_of_length_eq_zero (by simpa using hl)
      subst this; rfl
  have hck := MapKept.run_checkKey (P := P) (w := w) (kt := kt) (d := .int .i64) (k := .int .i64 k) hkt (by simp [MapKept.IsKey])
  have hf := (set_find (ks := ks) (k := k)).resolve_right fun q => hn q.1
  have hf' := MapKept.run_findKey (P := P) (w := w) hkt hf.2
  have hpush : Obj.map ((Array.mapIdx (fun i k => (⟨k, .agg #[], i⟩ : MapEntry)) (ks.map (Value.int .i64)).toArray).push ⟨.int .i64 k, .agg #[], (ks.map (Value.int .i64)).toArray.size⟩) ((ks.map (Value.int .i64)).toArray.size + 1) = ob mapTag (((ks ++ [k]).map (Value.int .i64)).toArray) := by
    have e : ((ks ++ [k]).map (Value.int .i64)).toArray = (ks.map (Value.int .i64)).toArray.push (.int .i64 k) := by simp
    rw [e, ob_map, mapOb, Array.mapIdx_push, Array.size_push]
  have hrun : (execOp a.eval o).run P w = .ok .skip { w with heap := w.heap.setIfInBounds b (ob mapTag (((ks ++ [k]).map (Value.int .i64)).toArray)) } := by
    unfold execOp
    simp only [ho, h.flat hy, h.flat hz, hv, Instr.mapUpdate, Sem.run_bind, run_underlying hm, MapKept.run_getObj_map h1, hck, hf', Result.andThen_ok, MapKept.run_setObj_map _ h1, hpush, Sem.run_pure]
  obtain ⟨s1, s2, s3⟩ := h.setOb (B' := setB b (ks ++ [k])) (cur' := ((ks ++ [k]).map (Value.int .i64)).toArray) hk rfl (by simp [setB]) (by simp [setB, keysD]) (fun j hj => by
    have hj' : j < (ks ++ [k]).length := by simpa [setB, keysD] using hj
    refine ⟨.int .i64 (ks ++ [k])[j], by rw [List.getElem?_toArray, List.getElem?_map, List.getElem?_eq_getElem hj']; rfl, ?_⟩
    simp only [setB, keysD, List.getElem_map]
    exact .v _)
  unfold Oper.wp
  rw [hrun, Oper.upon_skip, hd]
  exact hK _ _ _ rfl s1 s2 s3

theorem OD.makeSet {t : TypeId} {tt : Nat} (hw : Wants ops x o true) (ho : o.op = .makeMap t none) (hd : o.dst = some tt) (K : ∀ b, OD P C ops l ⟨x.n, (tt, .v (.map (some b))) :: x.env, setB b [] :: x.S⟩ Q) : OD P C ops (o :: l) x Q :=
  OD.eff hw (eff_makeSet ho hd) fun y ⟨b, hy⟩ => hy ▸ K b

theorem OD.addKey {mt kt et : TypeId} {i b : Nat} {ks : List Int} {k : Int} {y z u : Operand} (hw : Wants ops x o true) (ho : o.op = .mapUpdate mt y z u) (hd : o.dst = none) (hy : opd x y = .v (.map (some b))) (hz : opd x z = .v (.int .i64 k)) (hu : opd x u = .agg []) (hk : x.S[i]? = some (setB b ks)) (hn : k ∉ ks)
    (hm : P.underlying mt = some (.map kt et)) (hkt : P.underlying kt = some (.int .i64)) (K : OD P C ops l ⟨x.n, x.env, x.S.set i (setB b (ks ++ [k]))⟩ Q) : OD P C ops (o :: l) x Q :=
  OD.eff hw (eff_addKey ho hd hy hz hu hk hn hm hkt) fun y hy => hy ▸ K

end Go.Proofs.YtcogdagfcndbfaaDoor.V

namespace Go.Proofs.YtcogdagfcndbfaaDoor.Lk
open Go.RowKit V
set_option linter.unusedVariables false
set_option linter.unusedSimpArgs false

theorem info3_Lkr : (Tryd.prog.info? 3).map (fun i => (i.zero, i.size, i.bytes)) = some (some (.int .i64 0), 1, 8) := by kernel_rfl

set_option maxHeartbeats 4000000 in
set_option maxRecDepth 100000 in
theorem cloneI_vc {G : List (Nat × List Value)} (ls : List Int) (hlen : ls.length ≤ 1000000) : VC Tryd.prog G 42 [.list 1 (ls.flatMap cI) ls.length] [] (RetL cI 3 1 ls) := by
  refine VC.body Tryd.func42 rfl Tryd.ntmps42 (Nat.le_of_ble_eq_true rfl) fun X0 w0 S00 => ?_
  have hmx : maxLen = 9223372036854775807 := rfl
  refine CD.seq ?_
  refine CD.region ?_
  refine OD.still (wants_plain rfl) rfl (still_as rfl opd_const) ?_
  refine OD.wk (Wk.as_ (n := 8) (l' := [(0, _)]) (S' := []) rfl rfl ⟨lk, trivial⟩) ?_
  refine OD.nil ?_
  refine CD.seq ?_
  refine CD.seq ?_
  refine CD.region ?_
  refine OD.still (wants_plain rfl) rfl (still_mv rfl ot) ?_
  refine OD.eqNil (wants_plain rfl) rfl rfl ot opd_const Tryd.underlying34 (fun bn hbn => ?_)
  refine OD.wk (Wk.as_ (n := 8) (l' := [(0, _), (4, _)]) (S' := []) rfl rfl ⟨lk, lk, trivial⟩) ?_
  refine OD.nil ?_
  refine CD.cond ot (fun hc0 => ?_) (fun hc0 => ?_)
  · have hc0' := hc0
    (try simp only [decide_eq_true_eq, decide_eq_false_iff_not, beq_iff_eq, bne_iff_ne, Bool.not_eq_true', Bool.not_eq_false', Bool.not_eq_true, Bool.not_eq_false, beq_eq_false_iff_ne, ne_eq, bne_eq_false_iff_eq, Bool.and_eq_true, Bool.or_eq_true, Bool.not_not, Bool.and_eq_false_iff, Bool.or_eq_false_iff, Int.not_lt, Int.not_le] at hc0')
    refine CD.seq ?_
    refine CD.region ?_
    refine OD.still (wants_plain rfl) rfl (still_as rfl opd_const) ?_
    refine OD.wk (Wk.as_ (n := 8) (l' := [(2, _)]) (S' := []) rfl rfl ⟨lk, trivial⟩) ?_
    refine OD.nil ?_
    refine CD.ret ?_
    refine ⟨.inr rfl, _, [], List.nil_sublist _, ret_one Tryd.results42 (res_tmp (Nat.le_of_ble_eq_true rfl) lk), ?_⟩
    first | exact RetL.cast (RetL.mk (.inl ⟨rfl, rfl, rfl, rfl, rfl⟩)) (by have := hbn hc0; exact (List.eq_nil_of_length_eq_zero this.1).symm) | exact RetL.cast (RetL.mk ho7) (by simp)
  · have hc0' := hc0
    (try simp only [decide_eq_true_eq, decide_eq_false_iff_not, beq_iff_eq, bne_iff_ne, Bool.not_eq_true', Bool.not_eq_false', Bool.not_eq_true, Bool.not_eq_false, beq_eq_false_iff_ne, ne_eq, bne_eq_false_iff_eq, Bool.and_eq_true, Bool.or_eq_true, Bool.not_not, Bool.and_eq_false_iff, Bool.or_eq_false_iff, Int.not_lt, Int.not_le] at hc0')
    refine CD.skip ?_
    refine CD.seq ?_
    refine CD.region ?_
    refine OD.bldS0 (wants_plain rfl) rfl rfl Tryd.runUnderlying34 Tryd.sizeOf3 (fun b5 => ?_)
    refine OD.perm (perm_q11 (S1 := [⟨b5, 3, 0 * 1, List.flatMap cI []⟩]) (A := [])) ?_
    refine OD.still (wants_plain rfl) rfl (still_mv rfl ot) ?_
    refine OD.appendAny (ls := ([] : List Int)) (new := ls) (Sq := [⟨b5, 3, 0 * 1, List.flatMap cI []⟩]) cI_len cI_one (wants_plain rfl) rfl rfl Tryd.underlying34 info3_Lkr rfl (by decide) Tryd.runUnderlying34 Tryd.sizeOf3 ot (ownL_row (g := cI) (sz := 1) (e := 3) (ls := ([] : List Int)) (cap := 0) (Nat.le_refl _) (Nat.zero_le _)) (perm_r11 (A := [])) ot (by simp only [List.length_nil]; omega) (by simp only [List.length_nil]; omega) (fun ad7 cp7 S7 ho7 => ?_)
    refine OD.perm (perm_q11 (A := [])) ?_
    refine OD.still (wants_plain rfl) rfl (still_as rfl ot) ?_
    refine OD.wk (Wk.as_ (n := 8) (l' := [(2, _)]) (S' := (S7)) rfl rfl ⟨lk, trivial⟩) ?_
    refine OD.nil ?_
    refine CD.ret ?_
    refine ⟨.inr rfl, _, S7, List.Sublist.refl _, ret_one Tryd.results42 (res_tmp (Nat.le_of_ble_eq_true rfl) lk), ?_⟩
    first | exact RetL.cast (RetL.mk (.inl ⟨rfl, rfl, rfl, rfl, rfl⟩)) (by have := hbn hc0; exact (List.eq_nil_of_length_eq_zero this.1).symm) | exact RetL.cast (RetL.mk ho7) (by simp)

set_option maxHeartbeats 4000000 in
set_option maxRecDepth 100000 in
theorem victim1_vc {G : List (Nat × List Value)} (x : L) (t : Int) (b : Nat) : VC Tryd.prog G 44 [lockD x, .v (.pointer (some ⟨b, 0, none⟩))] [⟨b, 3, 1, [.v (.int .i64 t)]⟩] (fun r S' => r = .v (.bool (x.t == t)) ∧ S' = [⟨b, 3, 1, [.v (.int .i64 t)]⟩]) := by
  refine VC.body Tryd.func44 rfl Tryd.ntmps44 (Nat.le_of_ble_eq_true rfl) fun X0 w0 S00 => ?_
  unfold lockD
  refine CD.seq ?_
  refine CD.region ?_
  refine OD.box (ds := [_, _, _]) (wants_plain rfl) rfl rfl ot rfl rfl (fun b2 => ?_)
  refine OD.still (wants_plain rfl) rfl (still_as rfl opd_const) ?_
  refine OD.wk (Wk.as_ (n := 8) (l' := [(1, _), (2, _)]) (S' := [⟨b2, 27, 3, [_, _, _]⟩, ⟨b, 3, 1, [_]⟩]) rfl rfl ⟨lk, lk, trivial⟩) ?_
  refine OD.nil ?_
  refine CD.seq ?_
  refine CD.region ?_
  refine OD.still (wants_plain rfl) rfl (still_r1 (mk := fun y => Op.fieldAddr 27 y 0) rfl ot (by first | exact fa_ptr (off := 0) Tryd.runUnderlying27 rfl Tryd.sizeOf3 rfl | exact fa_iptr (off := 0) Tryd.runUnderlying27 rfl Tryd.sizeOf3 rfl)) ?_
  refine OD.still (wants_plain rfl) rfl (still_r1 (mk := Op.load 3) rfl ot (by first | exact ld_blk (k := 0) rfl rfl Tryd.isAgg3 rfl | exact ld_i Tryd.isAgg3 rfl)) ?_
  refine OD.still (wants_plain rfl) rfl (still_r1 (mk := Op.load 3) rfl ot (by first | exact ld_blk (k := 0) rfl rfl Tryd.isAgg3 rfl | exact ld_blk (k := 1) rfl rfl Tryd.isAgg3 rfl | exact ld_i Tryd.isAgg3 rfl)) ?_
  refine OD.still (wants_plain rfl) rfl (still_bin rfl ot ot bin_eql) ?_
  refine OD.still (wants_plain rfl) rfl (still_as rfl ot) ?_
  refine OD.wk (Wk.as_ (n := 8) (l' := [(3, _)]) (S' := [⟨b2, 27, 3, [_, _, _]⟩, ⟨b, 3, 1, [_]⟩]) rfl rfl ⟨lk, trivial⟩) ?_
  refine OD.nil ?_
  refine CD.ret ?_
  refine ⟨.inr rfl, _, [⟨b, 3, 1, [.v (.int .i64 t)]⟩], (by repeat (first | exact List.Sublist.refl _ | apply List.Sublist.cons)), ret_one Tryd.results44 (res_tmp (Nat.le_of_ble_eq_true rfl) lk), ?_⟩
  exact ⟨rfl, rfl⟩

theorem take_prefixG {α : Type} {g : α → List D} (ls : List α) (k : Nat) : (ls.take k).flatMap g <+: ls.flatMap g := by
  have := fm_prefix (g := g) (ls.take k) (ls.drop k)
  rwa [List.take_append_drop] at this
theorem next_none {queue : List L} {ws : List (List Int)} {t : Int} (h : idxI (fun x => x.t == t) queue < 0) : nextW queue ws t = [] := by
  unfold nextW
  cases hf : queue.findIdx? (fun x => x.t == t) with
  | none => rfl
  | some k => unfold idxI at h; rw [hf] at h; simp only at h; omega
theorem next_some {queue : List L} {ws : List (List Int)} {t : Int} {k : Nat} (h : idxI (fun x => x.t == t) queue = (k : Int)) (hk : k < ws.length) : nextW queue ws t = ws[k] := by
  unfold nextW
  cases hf : queue.findIdx? (fun x => x.t == t) with
  | none => unfold idxI at h; rw [hf] at h; simp only at h; omega
  | some j =>
    unfold idxI at h; rw [hf] at h; simp only at h
    have : j = k := by omega
    subst this
    show ws.getD j [] = _
    rw [List.getD_eq_getElem?_getD, List.getElem?_eq_getElem hk]; rfl

theorem held_bd {held queue : List L} (g : Good held queue) {j : Nat} (h : j < (waitsAll held queue).length) : ((waitsAll held queue)[j]).length ≤ 400 := by
  have few := g.few
  rw [all_at h]
  unfold waitsN
  have q1 := compact_len (sortL (waitsL held (queue.take j) (queue.getD j ⟨0, ⟨#[]⟩, 0⟩)))
  have q2 := waits_len held (queue.take j) (queue.getD j ⟨0, ⟨#[]⟩, 0⟩)
  have q3 : (queue.take j).length ≤ queue.length := by rw [List.length_take]; omega
  rw [sort_len] at q1
  omega
theorem sum_bd {f : Nat → Nat} {B : Nat} (h : ∀ k, f k ≤ B) : ∀ n, ((List.range n).map f).sum ≤ n * B
  | 0 => by simp
  | n + 1 => by
    have := sum_bd h n
    have hn := h n
    simp only [List.range_succ, List.map_append, List.sum_append, List.map_cons, List.map_nil, List.sum_cons, List.sum_nil, Nat.add_mul]
    omega
theorem mu_bd {held queue : List L} (g : Good held queue) {i : Nat} (hi : i < (waitsAll held queue).length) : muW queue (waitsAll held queue) (waitsAll held queue)[i] [] ≤ 100000 := by
  have few := g.few
  have h1 := held_bd g hi
  have h2 := sum_bd (f := weightW queue (waitsAll held queue) []) (B := 400) (fun k => by
    unfold weightW
    split
    · omega
    · rcases Nat.lt_or_ge k (waitsAll held queue).length with hk | hk
      · rw [List.getD_eq_getElem?_getD, List.getElem?_eq_getElem hk]; exact held_bd g hk
      · rw [List.getD_eq_getElem?_getD, List.getElem?_eq_none hk]; simp) queue.length
  unfold muW openW
  have : queue.length * 400 ≤ 200 * 400 := Nat.mul_le_mul_right _ (by omega)
  omega
theorem mu_len {queue : List L} {ws : List (List Int)} {todo seen : List Int} : todo.length ≤ muW queue ws todo seen := by unfold muW; omega

theorem places74_Lkr : ∀ w, ((#[] : Array Field).mapM fun f => do pure (f.offset, ← sizeOf f.type) : Sem (Array (Nat × Nat))).run Tryd.prog w = .ok #[] w := fun w => by simp []

set_option maxHeartbeats 4000000 in
set_option maxRecDepth 100000 in
theorem victim_vp (held queue : List L) (g : Good held queue) (hqs : ∀ h ∈ queue, modeB h.m = true) : VP Tryd.prog TG 24 [locksS held queue] (.tup [.v (.int .i64 (vicF held queue)), .v (.int .i64 0)]) := by
  refine VC.body Tryd.func24 rfl Tryd.ntmps24 (Nat.le_of_ble_eq_true rfl) fun X0 w0 S00 => ?_
  have hmx : maxLen = 9223372036854775807 := rfl
  have few := g.few
  have hwv := waitsAll_vp held queue g (by omega) (by omega) g.mode hqs
  unfold locksS locksD at hwv
  unfold locksS locksD
  have hall := all_len held queue
  refine CD.seq ?_
  refine CD.region ?_
  refine OD.box (ds := [_, _]) (wants_plain rfl) rfl rfl ot rfl rfl (fun b1 => ?_)
  refine OD.still (wants_plain rfl) rfl (still_as rfl opd_const) ?_
  refine OD.still (wants_plain rfl) rfl (still_as rfl opd_const) ?_
  refine OD.wk (Wk.as_ (n := 89) (l' := [(1, _)]) (S' := [⟨b1, 25, 2, [_, _]⟩]) rfl rfl ⟨lk, trivial⟩) ?_
  refine OD.nil ?_
  refine CD.seq ?_
  refine CD.region ?_
  refine OD.still (wants_plain rfl) rfl (still_r1 (mk := Op.load 25) rfl ot (by first | exact ld_blks (k := 0) (ds := [_, _]) rfl rfl Tryd.isAgg25 Tryd.sizeOf25 rfl rfl | exact ld_fms cL_len Tryd.isAgg25 Tryd.sizeOf25 (by first | assumption | omega) | exact ld_fms cI_len Tryd.isAgg25 Tryd.sizeOf25 (by first | assumption | omega) | exact ld_fms cII_len Tryd.isAgg25 Tryd.sizeOf25 (by first | assumption | omega) | exact ld_rows (k := 0) cL_len rfl rfl rfl Tryd.isAgg25 Tryd.sizeOf25 (by first | assumption | omega) | exact ld_rows (k := 0) cI_len rfl rfl rfl Tryd.isAgg25 Tryd.sizeOf25 (by first | assumption | omega) | exact ld_rows (k := 0) cII_len rfl rfl rfl Tryd.isAgg25 Tryd.sizeOf25 (by first | assumption | omega) | exact ld_is (ds := [_, _]) Tryd.isAgg25 Tryd.sizeOf25 rfl rfl)) ?_
  refine OD.callP (wants_plain rfl) rfl rfl rfl Tryd.call23 (hwv) ⟨ot, trivial⟩ ?_
  refine OD.still (wants_plain rfl) rfl (still_mv rfl ot) ?_
  refine OD.still (wants_plain rfl) rfl (still_extract rfl ot rfl) ?_
  refine OD.still (wants_plain rfl) rfl (still_extract rfl ot rfl) ?_
  refine OD.still (wants_plain rfl) rfl (still_as rfl ot) ?_
  refine OD.still (wants_plain rfl) rfl (still_as rfl ot) ?_
  refine OD.wk (Wk.as_ (n := 89) (l' := [(1, _), (4, _), (5, _)]) (S' := [⟨b1, 25, 2, [_, _]⟩]) rfl rfl ⟨lk, lk, lk, trivial⟩) ?_
  refine OD.nil ?_
  refine CD.seq ?_
  refine CD.seq ?_
  refine CD.region ?_
  refine OD.still (wants_plain rfl) rfl (still_mv rfl ot) ?_
  refine OD.still (wants_plain rfl) rfl (still_bin rfl ot opd_const bin_neq) ?_
  refine OD.wk (Wk.as_ (n := 89) (l' := [(1, _), (4, _), (5, _), (23, _)]) (S' := [⟨b1, 25, 2, [_, _]⟩]) rfl rfl ⟨lk, lk, lk, lk, trivial⟩) ?_
  refine OD.nil ?_
  refine CD.cond ot (fun hc0 => ?_) (fun hc0 => ?_)
  · exact absurd hc0 (by simp)
  · have hc0' := hc0
    (try simp only [decide_eq_true_eq, decide_eq_false_iff_not, beq_iff_eq, bne_iff_ne, Bool.not_eq_true', Bool.not_eq_false', Bool.not_eq_true, Bool.not_eq_false, beq_eq_false_iff_ne, ne_eq, bne_eq_false_iff_eq, Bool.and_eq_true, Bool.or_eq_true, Bool.not_not, Bool.and_eq_false_iff, Bool.or_eq_false_iff, Int.not_lt, Int.not_le] at hc0')
    refine CD.skip ?_
    refine CD.seq ?_
    refine CD.region ?_
    refine OD.still (wants_plain rfl) rfl (still_as rfl opd_const) ?_
    refine OD.wk (Wk.as_ (n := 89) (l' := [(1, _), (4, _), (6, _)]) (S' := [⟨b1, 25, 2, [_, _]⟩]) rfl rfl ⟨lk, lk, lk, trivial⟩) ?_
    refine OD.nil ?_
    refine CD.seq ?_
    refine CD.seq ?_
    refine CD.region ?_
    refine OD.still (wants_plain rfl) rfl (still_r1 (mk := fun y => Op.fieldAddr 25 y 1) rfl ot (by first | exact fa_ptr (off := 1) Tryd.runUnderlying25 rfl Tryd.sizeOf23 rfl | exact fa_iptr (off := 1) Tryd.runUnderlying25 rfl Tryd.sizeOf23 rfl)) ?_
    refine OD.still (wants_plain rfl) rfl (still_r1 (mk := Op.load 23) rfl ot (by first | exact ld_blk (k := 0) rfl rfl Tryd.isAgg23 rfl | exact ld_fm cL_len Tryd.isAgg23 (by first | assumption | omega) rfl | exact ld_fm0 cL_len Tryd.isAgg23 (by first | assumption | omega) rfl | exact ld_fm cI_len Tryd.isAgg23 (by first | assumption | omega) rfl | exact ld_fm0 cI_len Tryd.isAgg23 (by first | assumption | omega) rfl | exact ld_fm cII_len Tryd.isAgg23 (by first | assumption | omega) rfl | exact ld_fm0 cII_len Tryd.isAgg23 (by first | assumption | omega) rfl | exact ld_row (k := 0) cL_len rfl rfl rfl Tryd.isAgg23 (by first | assumption | omega) rfl | exact ld_row0 (k := 0) cL_len rfl rfl rfl Tryd.isAgg23 (by first | assumption | omega) rfl | exact ld_row (k := 0) cI_len rfl rfl rfl Tryd.isAgg23 (by first | assumption | omega) rfl | exact ld_row0 (k := 0) cI_len rfl rfl rfl Tryd.isAgg23 (by first | assumption | omega) rfl | exact ld_row (k := 0) cII_len rfl rfl rfl Tryd.isAgg23 (by first | assumption | omega) rfl | exact ld_row0 (k := 0) cII_len rfl rfl rfl Tryd.isAgg23 (by first | assumption | omega) rfl | exact ld_i Tryd.isAgg23 rfl)) ?_
    refine OD.still (wants_plain rfl) rfl (still_r1 (mk := fun y => .call { callee := .builtin .len, args := #[y], argTypes := #[23] }) rfl ot (by first | exact len_list rfl Tryd.runUnderlying23 | exact len_row rfl Tryd.runUnderlying23)) ?_
    refine OD.still (wants_plain rfl) rfl (still_mv rfl opd_const) ?_
    refine OD.wk (Wk.as_ (n := 89) (l' := [(1, _), (4, _), (6, _), (26, _), (27, _), (28, _)]) (S' := [⟨b1, 25, 2, [_, _]⟩]) rfl rfl ⟨lk, lk, lk, lk, lk, lk, trivial⟩) ?_
    refine OD.nil ?_
    refine CD.block ?_
    refine CD.wk (Wk.asS (n := 89) (l' := [(1, .v (.pointer (some ⟨b1, 0, none⟩))), (4, .list 1 ((waitsAll held queue).flatMap cII) (waitsAll held queue).length), (6, .v (.int .i64 (vicUp held queue (0)))), (26, .list 3 (queue.flatMap cL) queue.length), (27, .v (.int .i64 (queue.length : Nat))), (28, .v (.int .i64 ((0) : Nat)))]) (S' := [(⟨b1, 25, 2, [.list 3 (held.flatMap cL) held.length, .list 3 (queue.flatMap cL) queue.length]⟩ : Blk)]) rfl (by repeat (first | exact List.Sublist.refl _ | exact List.nil_sublist _ | apply List.Sublist.cons_cons | apply List.Sublist.cons)) ⟨(by (repeat (first | exact look_hit | (apply look_at; focus (first | rfl | (congr 2; omega) | (rw [vic_hit hlt (by assumption)]; done) | (rw [vic_miss hlt (by assumption)]; done) | (rw [← vic_hit hlt (by assumption), if_pos (by assumption)]; done) | (rw [← vic_hit hlt (by assumption), if_neg (by assumption)]; done) | (simp; done))) | (apply look_miss; focus rfl))); done), (by (repeat (first | exact look_hit | (apply look_at; focus (first | rfl | (congr 2; omega) | (rw [vic_hit hlt (by assumption)]; done) | (rw [vic_miss hlt (by assumption)]; done) | (rw [← vic_hit hlt (by assumption), if_pos (by assumption)]; done) | (rw [← vic_hit hlt (by assumption), if_neg (by assumption)]; done) | (simp; done))) | (apply look_miss; focus rfl))); done), (by (repeat (first | exact look_hit | (apply look_at; focus (first | rfl | (congr 2; omega) | (rw [vic_hit hlt (by assumption)]; done) | (rw [vic_miss hlt (by assumption)]; done) | (rw [← vic_hit hlt (by assumption), if_pos (by assumption)]; done) | (rw [← vic_hit hlt (by assumption), if_neg (by assumption)]; done) | (simp; done))) | (apply look_miss; focus rfl))); done), (by (repeat (first | exact look_hit | (apply look_at; focus (first | rfl | (congr 2; omega) | (rw [vic_hit hlt (by assumption)]; done) | (rw [vic_miss hlt (by assumption)]; done) | (rw [← vic_hit hlt (by assumption), if_pos (by assumption)]; done) | (rw [← vic_hit hlt (by assumption), if_neg (by assumption)]; done) | (simp; done))) | (apply look_miss; focus rfl))); done), (by (repeat (first | exact look_hit | (apply look_at; focus (first | rfl | (congr 2; omega) | (rw [vic_hit hlt (by assumption)]; done) | (rw [vic_miss hlt (by assumption)]; done) | (rw [← vic_hit hlt (by assumption), if_pos (by assumption)]; done) | (rw [← vic_hit hlt (by assumption), if_neg (by assumption)]; done) | (simp; done))) | (apply look_miss; focus rfl))); done), (by (repeat (first | exact look_hit | (apply look_at; focus (first | rfl | (congr 2; omega) | (rw [vic_hit hlt (by assumption)]; done) | (rw [vic_miss hlt (by assumption)]; done) | (rw [← vic_hit hlt (by assumption), if_pos (by assumption)]; done) | (rw [← vic_hit hlt (by assumption), if_neg (by assumption)]; done) | (simp; done))) | (apply look_miss; focus rfl))); done), trivial⟩) (CD.loop (fun (i : Nat) y__ => (i ≤ queue.length) ∧ y__ = (⟨89, [(1, .v (.pointer (some ⟨b1, 0, none⟩))), (4, .list 1 ((waitsAll held queue).flatMap cII) (waitsAll held queue).length), (6, .v (.int .i64 (vicUp held queue i))), (26, .list 3 (queue.flatMap cL) queue.length), (27, .v (.int .i64 (queue.length : Nat))), (28, .v (.int .i64 (i : Nat)))], [(⟨b1, 25, 2, [.list 3 (held.flatMap cL) held.length, .list 3 (queue.flatMap cL) queue.length]⟩ : Blk)]⟩ : St)) (fun (i : Nat) => queue.length - i) 0 ⟨(Nat.zero_le _), rfl⟩ ?_)
    rintro i _ ⟨hi, rfl⟩
    refine CD.seq ?_
    refine CD.region ?_
    refine OD.still (wants_plain rfl) rfl (still_bin rfl ot ot bin_lss) ?_
    refine OD.wk (Wk.as_ (n := 89) (l' := [(1, _), (4, _), (6, _), (26, _), (27, _), (28, _), (29, _)]) (S' := [⟨b1, 25, 2, [_, _]⟩]) rfl rfl ⟨lk, lk, lk, lk, lk, lk, lk, trivial⟩) ?_
    refine OD.nil ?_
    refine CD.seq ?_
    refine CD.cond ot (fun hc1 => ?_) (fun hc1 => ?_)
    · have hc1' := hc1
      (try simp only [decide_eq_true_eq, decide_eq_false_iff_not, beq_iff_eq, bne_iff_ne, Bool.not_eq_true', Bool.not_eq_false', Bool.not_eq_true, Bool.not_eq_false, beq_eq_false_iff_ne, ne_eq, bne_eq_false_iff_eq, Bool.and_eq_true, Bool.or_eq_true, Bool.not_not, Bool.and_eq_false_iff, Bool.or_eq_false_iff, Int.not_lt, Int.not_le] at hc1')
      have hlt : i < queue.length := by omega
      have hia : i < (waitsAll held queue).length := by omega
      have hbd := held_bd g hia
      have hmb := mu_bd g hia
      have hwi := all_at hia
      refine CD.skip ?_
      refine CD.seq ?_
      refine CD.block ?_
      refine CD.seq ?_
      refine CD.region ?_
      refine OD.still (wants_plain rfl) rfl (still_mv rfl ot) ?_
      refine OD.still (wants_plain rfl) rfl (still_r2 (mk := Op.indexAddr 23) rfl ot ot (by first | exact ix_list Tryd.runUnderlying23 Tryd.sizeOf27 rfl (by first | assumption | omega) | exact ix_list (j := Int.toNat _) Tryd.runUnderlying23 Tryd.sizeOf27 (Int.toNat_of_nonneg (by omega)).symm (by omega) | exact ix_row Tryd.runUnderlying23 Tryd.sizeOf27 rfl (by first | assumption | omega) | exact ix_row (j := Int.toNat _) Tryd.runUnderlying23 Tryd.sizeOf27 (Int.toNat_of_nonneg (by omega)).symm (by omega))) ?_
      refine OD.still (wants_plain rfl) rfl (still_r1 (mk := Op.load 27) rfl ot (by first | exact ld_blks (k := 0) (ds := [_, _, _]) rfl rfl Tryd.isAgg27 Tryd.sizeOf27 rfl rfl | exact ld_fms cL_len Tryd.isAgg27 Tryd.sizeOf27 (by first | assumption | omega) | exact ld_fms cI_len Tryd.isAgg27 Tryd.sizeOf27 (by first | assumption | omega) | exact ld_fms cII_len Tryd.isAgg27 Tryd.sizeOf27 (by first | assumption | omega) | exact ld_rows (k := 0) cL_len rfl rfl rfl Tryd.isAgg27 Tryd.sizeOf27 (by first | assumption | omega) | exact ld_rows (k := 0) cI_len rfl rfl rfl Tryd.isAgg27 Tryd.sizeOf27 (by first | assumption | omega) | exact ld_rows (k := 0) cII_len rfl rfl rfl Tryd.isAgg27 Tryd.sizeOf27 (by first | assumption | omega) | exact ld_is (ds := [_, _, _]) Tryd.isAgg27 Tryd.sizeOf27 rfl rfl)) ?_
      refine OD.alloc (ds := [_, _, _]) (wants_plain rfl) rfl rfl Tryd.zeroValue27 rfl (fun b8 => ?_)
      refine OD.still (wants_plain rfl) rfl (still_as rfl ot) ?_
      refine OD.store (k := 0) (cs' := [_, _, _]) (wants_plain rfl) rfl rfl ot rfl rfl ot rfl rfl Tryd.sizeOf27 rfl rfl rfl ?_
      refine OD.wk (Wk.as_ (n := 89) (l' := [(1, _), (4, _), (6, _), (7, _), (8, _), (26, _), (27, _), (28, _)]) (S' := [⟨b8, 27, 3, [_, _, _]⟩, ⟨b1, 25, 2, [_, _]⟩]) rfl rfl ⟨lk, lk, lk, lk, lk, lk, lk, lk, trivial⟩) ?_
      refine OD.nil ?_
      refine CD.seq ?_
      refine CD.region ?_
      refine OD.makeSet (wants_plain rfl) rfl rfl (fun b33 => ?_)
      refine OD.still (wants_plain rfl) rfl (still_as rfl ot) ?_
      refine OD.wk (Wk.as_ (n := 89) (l' := [(1, _), (4, _), (6, _), (7, _), (8, _), (9, _), (26, _), (27, _), (28, _)]) (S' := [_, ⟨b8, 27, 3, [_, _, _]⟩, ⟨b1, 25, 2, [_, _]⟩]) rfl rfl ⟨lk, lk, lk, lk, lk, lk, lk, lk, lk, trivial⟩) ?_
      refine OD.nil ?_
      refine CD.seq ?_
      refine CD.region ?_
      refine OD.still (wants_plain rfl) rfl (still_mv rfl ot) ?_
      refine OD.still (wants_plain rfl) rfl (still_mv rfl ot) ?_
      refine OD.still (wants_plain rfl) rfl (still_r2 (mk := Op.indexAddr 50) rfl ot ot (by first | exact ix_list Tryd.runUnderlying50 Tryd.sizeOf34 rfl (by first | assumption | omega) | exact ix_list (j := Int.toNat _) Tryd.runUnderlying50 Tryd.sizeOf34 (Int.toNat_of_nonneg (by omega)).symm (by omega) | exact ix_row Tryd.runUnderlying50 Tryd.sizeOf34 rfl (by first | assumption | omega) | exact ix_row (j := Int.toNat _) Tryd.runUnderlying50 Tryd.sizeOf34 (Int.toNat_of_nonneg (by omega)).symm (by omega))) ?_
      refine OD.still (wants_plain rfl) rfl (still_r1 (mk := Op.load 34) rfl ot (by first | exact ld_blk (k := 0) rfl rfl Tryd.isAgg34 rfl | exact ld_blk (k := 1) rfl rfl Tryd.isAgg34 rfl | exact ld_blk (k := 2) rfl rfl Tryd.isAgg34 rfl | exact ld_fm cL_len Tryd.isAgg34 (by first | assumption | omega) rfl | exact ld_fm0 cL_len Tryd.isAgg34 (by first | assumption | omega) rfl | exact ld_fm cI_len Tryd.isAgg34 (by first | assumption | omega) rfl | exact ld_fm0 cI_len Tryd.isAgg34 (by first | assumption | omega) rfl | exact ld_fm cII_len Tryd.isAgg34 (by first | assumption | omega) rfl | exact ld_fm0 cII_len Tryd.isAgg34 (by first | assumption | omega) rfl | exact ld_row (k := 0) cL_len rfl rfl rfl Tryd.isAgg34 (by first | assumption | omega) rfl | exact ld_row0 (k := 0) cL_len rfl rfl rfl Tryd.isAgg34 (by first | assumption | omega) rfl | exact ld_row (k := 1) cL_len rfl rfl rfl Tryd.isAgg34 (by first | assumption | omega) rfl | exact ld_row0 (k := 1) cL_len rfl rfl rfl Tryd.isAgg34 (by first | assumption | omega) rfl | exact ld_row (k := 2) cL_len rfl rfl rfl Tryd.isAgg34 (by first | assumption | omega) rfl | exact ld_row0 (k := 2) cL_len rfl rfl rfl Tryd.isAgg34 (by first | assumption | omega) rfl | exact ld_row (k := 0) cI_len rfl rfl rfl Tryd.isAgg34 (by first | assumption | omega) rfl | exact ld_row0 (k := 0) cI_len rfl rfl rfl Tryd.isAgg34 (by first | assumption | omega) rfl | exact ld_row (k := 1) cI_len rfl rfl rfl Tryd.isAgg34 (by first | assumption | omega) rfl | exact ld_row0 (k := 1) cI_len rfl rfl rfl Tryd.isAgg34 (by first | assumption | omega) rfl | exact ld_row (k := 2) cI_len rfl rfl rfl Tryd.isAgg34 (by first | assumption | omega) rfl | exact ld_row0 (k := 2) cI_len rfl rfl rfl Tryd.isAgg34 (by first | assumption | omega) rfl | exact ld_row (k := 0) cII_len rfl rfl rfl Tryd.isAgg34 (by first | assumption | omega) rfl | exact ld_row0 (k := 0) cII_len rfl rfl rfl Tryd.isAgg34 (by first | assumption | omega) rfl | exact ld_row (k := 1) cII_len rfl rfl rfl Tryd.isAgg34 (by first | assumption | omega) rfl | exact ld_row0 (k := 1) cII_len rfl rfl rfl Tryd.isAgg34 (by first | assumption | omega) rfl | exact ld_row (k := 2) cII_len rfl rfl rfl Tryd.isAgg34 (by first | assumption | omega) rfl | exact ld_row0 (k := 2) cII_len rfl rfl rfl Tryd.isAgg34 (by first | assumption | omega) rfl | exact ld_i Tryd.isAgg34 rfl)) ?_
      refine OD.call (wants_plain rfl) rfl rfl rfl Tryd.call42 (cloneI_vc (waitsAll held queue)[i] (by omega)) ⟨ot, trivial⟩ (perm_none _) ?_; rintro _ S38 ⟨ad38, cp38, rfl, ho38⟩
      refine OD.perm (perm_q11 (A := [_, _, _])) ?_
      refine OD.still (wants_plain rfl) rfl (still_as rfl ot) ?_
      refine OD.wk (Wk.as_ (n := 89) (l' := [(1, _), (4, _), (6, _), (8, _), (9, _), (10, _), (26, _), (27, _), (28, _)]) (S' := (_ :: ⟨b8, 27, 3, [_, _, _]⟩ :: ⟨b1, 25, 2, [_, _]⟩ :: S38)) rfl rfl ⟨lk, lk, lk, lk, lk, lk, lk, lk, lk, trivial⟩) ?_
      refine OD.nil ?_
      refine CD.seq ?_
      refine CD.block ?_
      refine CD.wk (Wk.asS (n := 89) (l' := [(1, .v (.pointer (some ⟨b1, 0, none⟩))), (4, .list 1 ((waitsAll held queue).flatMap cII) (waitsAll held queue).length), (6, .v (.int .i64 (vicUp held queue i))), (8, .v (.pointer (some ⟨b8, 0, none⟩))), (9, .v (.map (some b33))), (10, .v (.slice ad38 (((waitsAll held queue)[i])).length cp38)), (26, .list 3 (queue.flatMap cL) queue.length), (27, .v (.int .i64 (queue.length : Nat))), (28, .v (.int .i64 (i : Nat)))]) (S' := ((setB b33 ([])) :: (⟨b8, 27, 3, cL queue[i]⟩ : Blk) :: (⟨b1, 25, 2, [.list 3 (held.flatMap cL) held.length, .list 3 (queue.flatMap cL) queue.length]⟩ : Blk) :: S38)) rfl (by repeat (first | exact List.Sublist.refl _ | apply List.Sublist.cons_cons | apply List.Sublist.cons)) ⟨(by (repeat (first | exact look_hit | (apply look_at; focus (first | rfl | (simp; done) | (congr 2; omega) | (apply row_eq; simp; done))) | (apply look_miss; focus rfl))); done), (by (repeat (first | exact look_hit | (apply look_at; focus (first | rfl | (simp; done) | (congr 2; omega) | (apply row_eq; simp; done))) | (apply look_miss; focus rfl))); done), (by (repeat (first | exact look_hit | (apply look_at; focus (first | rfl | (simp; done) | (congr 2; omega) | (apply row_eq; simp; done))) | (apply look_miss; focus rfl))); done), (by (repeat (first | exact look_hit | (apply look_at; focus (first | rfl | (simp; done) | (congr 2; omega) | (apply row_eq; simp; done))) | (apply look_miss; focus rfl))); done), (by (repeat (first | exact look_hit | (apply look_at; focus (first | rfl | (simp; done) | (congr 2; omega) | (apply row_eq; simp; done))) | (apply look_miss; focus rfl))); done), (by (repeat (first | exact look_hit | (apply look_at; focus (first | rfl | (simp; done) | (congr 2; omega) | (apply row_eq; simp; done))) | (apply look_miss; focus rfl))); done), (by (repeat (first | exact look_hit | (apply look_at; focus (first | rfl | (simp; done) | (congr 2; omega) | (apply row_eq; simp; done))) | (apply look_miss; focus rfl))); done), (by (repeat (first | exact look_hit | (apply look_at; focus (first | rfl | (simp; done) | (congr 2; omega) | (apply row_eq; simp; done))) | (apply look_miss; focus rfl))); done), (by (repeat (first | exact look_hit | (apply look_at; focus (first | rfl | (simp; done) | (congr 2; omega) | (apply row_eq; simp; done))) | (apply look_miss; focus rfl))); done), trivial⟩) (CD.loop (fun (gh__ : List Int × List Int × Option Addr × Nat × List Blk) y__ => match gh__ with | (todo, seen, add, cpd, Sd) => (reachW queue (waitsAll held queue) todo seen = reachW queue (waitsAll held queue) (waitsAll held queue)[i] []) ∧ (muW queue (waitsAll held queue) todo seen ≤ 100000) ∧ (OwnL 3 1 ((todo).flatMap cI) (todo).length add cpd Sd) ∧ y__ = (⟨89, [(1, .v (.pointer (some ⟨b1, 0, none⟩))), (4, .list 1 ((waitsAll held queue).flatMap cII) (waitsAll held queue).length), (6, .v (.int .i64 (vicUp held queue i))), (8, .v (.pointer (some ⟨b8, 0, none⟩))), (9, .v (.map (some b33))), (10, .v (.slice add (todo).length cpd)), (26, .list 3 (queue.flatMap cL) queue.length), (27, .v (.int .i64 (queue.length : Nat))), (28, .v (.int .i64 (i : Nat)))], ((setB b33 seen) :: (⟨b8, 27, 3, cL queue[i]⟩ : Blk) :: (⟨b1, 25, 2, [.list 3 (held.flatMap cL) held.length, .list 3 (queue.flatMap cL) queue.length]⟩ : Blk) :: Sd)⟩ : St)) (fun (gh__ : List Int × List Int × Option Addr × Nat × List Blk) => match gh__ with | (todo, seen, add, cpd, Sd) => muW queue (waitsAll held queue) todo seen) ((waitsAll held queue)[i], [], ad38, cp38, S38) ⟨rfl, hmb, (OwnL.cast ho38 (by first | rfl | simp)), rfl⟩ ?_)
      rintro ⟨todo, seen, add, cpd, Sd⟩ _ ⟨hr, hm, hod, rfl⟩
      refine CD.seq ?_
      refine CD.seq ?_
      refine CD.region ?_
      refine OD.still (wants_plain rfl) rfl (still_mv rfl ot) ?_
      refine OD.still (wants_plain rfl) rfl (still_r1 (mk := fun y => .call { callee := .builtin .len, args := #[y], argTypes := #[34] }) rfl ot (by first | exact len_list rfl Tryd.runUnderlying34 | exact len_row rfl Tryd.runUnderlying34)) ?_
      refine OD.still (wants_plain rfl) rfl (still_bin rfl ot opd_const bin_gtr) ?_
      refine OD.wk (Wk.as_ (n := 89) (l' := [(1, _), (4, _), (6, _), (8, _), (9, _), (10, _), (26, _), (27, _), (28, _), (41, _)]) (S' := (_ :: ⟨b8, 27, 3, [_, _, _]⟩ :: ⟨b1, 25, 2, [_, _]⟩ :: Sd)) rfl rfl ⟨lk, lk, lk, lk, lk, lk, lk, lk, lk, lk, trivial⟩) ?_
      refine OD.nil ?_
      refine CD.cond ot (fun hc2 => ?_) (fun hc2 => ?_)
      · have hc2' := hc2
        (try simp only [decide_eq_true_eq, decide_eq_false_iff_not, beq_iff_eq, bne_iff_ne, Bool.not_eq_true', Bool.not_eq_false', Bool.not_eq_true, Bool.not_eq_false, beq_eq_false_iff_ne, ne_eq, bne_eq_false_iff_eq, Bool.and_eq_true, Bool.or_eq_true, Bool.not_not, Bool.and_eq_false_iff, Bool.or_eq_false_iff, Int.not_lt, Int.not_le] at hc2')
        have hpos : 0 < todo.length := by omega
        have hml := mu_len (queue := queue) (ws := waitsAll held queue) (todo := todo) (seen := seen)
        have hsub : ((todo.length : Nat) : Int) - 1 = ((todo.length - 1 : Nat) : Int) := by omega
        have htk : (todo.take (todo.length - 1)).length = todo.length - 1 := by rw [List.length_take]; omega
        have hsub2 : ((todo.length : Nat) : Int) - 1 = (((todo.take (todo.length - 1)).length : Nat) : Int) := by rw [htk]; omega
        rcases hod with ⟨h0, _⟩ | ⟨bt, rfl, hh1, hh2, rfl⟩
        · omega
        refine CD.skip ?_
        refine CD.block ?_
        refine CD.seq ?_
        refine CD.region ?_
        refine OD.still (wants_plain rfl) rfl (still_mv rfl ot) ?_
        refine OD.still (wants_plain rfl) rfl (still_mv rfl ot) ?_
        refine OD.still (wants_plain rfl) rfl (still_r1 (mk := fun y => .call { callee := .builtin .len, args := #[y], argTypes := #[34] }) rfl ot (by first | exact len_list rfl Tryd.runUnderlying34 | exact len_row rfl Tryd.runUnderlying34)) ?_
        refine OD.still (wants_plain rfl) rfl (still_bin (r := .int .i64 ((todo.length - 1 : Nat) : Int)) rfl ot opd_const (bin_sub (by rw [hsub]; exact wrap_i64 (by omega) (by omega)))) ?_
        refine OD.still (wants_plain rfl) rfl (still_r2 (mk := Op.indexAddr 34) rfl ot ot (by first | exact ix_list Tryd.runUnderlying34 Tryd.sizeOf3 rfl (by omega) | exact ix_row Tryd.runUnderlying34 Tryd.sizeOf3 rfl (by omega))) ?_
        refine OD.still (wants_plain rfl) rfl (still_r1 (mk := Op.load 3) rfl ot (by exact ld_row0 (k := 3) cI_len rfl rfl rfl Tryd.isAgg3 (by omega) rfl)) ?_
        refine OD.alloc (ds := [_]) (wants_plain rfl) rfl rfl Tryd.zeroValue3 rfl (fun b11 => ?_)
        refine OD.store (k := 0) (cs' := [_]) (wants_plain rfl) rfl rfl ot rfl rfl ot rfl rfl Tryd.sizeOf3 rfl rfl rfl ?_
        refine OD.wk (Wk.as_ (n := 89) (l' := [(1, _), (4, _), (6, _), (8, _), (9, _), (10, _), (11, _), (26, _), (27, _), (28, _)]) (S' := (⟨b11, 3, 1, [_]⟩ :: _ :: ⟨b8, 27, 3, [_, _, _]⟩ :: ⟨b1, 25, 2, [_, _]⟩ :: [⟨bt, 3, cpd * 1, List.flatMap cI todo⟩])) rfl rfl ⟨lk, lk, lk, lk, lk, lk, lk, lk, lk, lk, trivial⟩) ?_
        refine OD.nil ?_
        refine CD.seq ?_
        refine CD.region ?_
        refine OD.still (wants_plain rfl) rfl (still_mv rfl ot) ?_
        refine OD.still (wants_plain rfl) rfl (still_mv rfl ot) ?_
        refine OD.still (wants_plain rfl) rfl (still_r1 (mk := fun y => .call { callee := .builtin .len, args := #[y], argTypes := #[34] }) rfl ot (by first | exact len_list rfl Tryd.runUnderlying34 | exact len_row rfl Tryd.runUnderlying34)) ?_
        refine OD.still (wants_plain rfl) rfl (still_bin (r := .int .i64 (((todo.take (todo.length - 1)).length : Nat) : Int)) rfl ot opd_const (bin_sub (by rw [hsub2]; exact wrap_i64 (by omega) (by omega)))) ?_
        refine OD.still (wants_plain rfl) rfl (still_rs (l := 0) (h := (todo.take (todo.length - 1)).length) rfl ot trivial ⟨_, ot⟩ (by first | exact sl_head cL_len (fun h => by cases h) Tryd.runUnderlying34 Tryd.sizeOf3 (by omega) | exact sl_head cI_len (fun h => by cases h) Tryd.runUnderlying34 Tryd.sizeOf3 (by omega) | exact sl_head cII_len (fun h => by cases h) Tryd.runUnderlying34 Tryd.sizeOf3 (by omega) | exact sl_row (fun h => by cases h) Tryd.runUnderlying34 Tryd.sizeOf3 (by omega) | exact sl_list (fun _ => rfl) (fun h => by cases h) Tryd.runUnderlying34 Tryd.sizeOf3 (by omega) (by omega))) ?_
        refine OD.shrink (k := 4) (cs' := (todo.take (todo.length - 1)).flatMap cI) rfl (take_prefixG _ _) ?_
        refine OD.still (wants_plain rfl) rfl (still_as rfl ot) ?_
        refine OD.wk (Wk.as_ (n := 89) (l' := [(1, _), (4, _), (6, _), (8, _), (9, _), (10, _), (11, _), (26, _), (27, _), (28, _)]) (S' := (⟨b11, 3, 1, [_]⟩ :: _ :: ⟨b8, 27, 3, [_, _, _]⟩ :: ⟨b1, 25, 2, [_, _]⟩ :: [⟨bt, 3, cpd * 1, List.flatMap cI (todo.take (todo.length - 1))⟩])) rfl rfl ⟨lk, lk, lk, lk, lk, lk, lk, lk, lk, lk, trivial⟩) ?_
        refine OD.nil ?_
        refine CD.seq ?_
        refine CD.seq ?_
        refine CD.region ?_
        refine OD.still (wants_plain rfl) rfl (still_mv rfl ot) ?_
        refine OD.still (wants_plain rfl) rfl (still_r1 (mk := Op.load 3) rfl ot (by first | exact ld_blk (k := 0) rfl rfl Tryd.isAgg3 rfl | exact ld_fm cL_len Tryd.isAgg3 (by first | assumption | omega) rfl | exact ld_fm0 cL_len Tryd.isAgg3 (by first | assumption | omega) rfl | exact ld_fm cI_len Tryd.isAgg3 (by first | assumption | omega) rfl | exact ld_fm0 cI_len Tryd.isAgg3 (by first | assumption | omega) rfl | exact ld_fm cII_len Tryd.isAgg3 (by first | assumption | omega) rfl | exact ld_fm0 cII_len Tryd.isAgg3 (by first | assumption | omega) rfl | exact ld_row (k := 0) cL_len rfl rfl rfl Tryd.isAgg3 (by first | assumption | omega) rfl | exact ld_row0 (k := 0) cL_len rfl rfl rfl Tryd.isAgg3 (by first | assumption | omega) rfl | exact ld_row (k := 1) cL_len rfl rfl rfl Tryd.isAgg3 (by first | assumption | omega) rfl | exact ld_row0 (k := 1) cL_len rfl rfl rfl Tryd.isAgg3 (by first | assumption | omega) rfl | exact ld_row (k := 2) cL_len rfl rfl rfl Tryd.isAgg3 (by first | assumption | omega) rfl | exact ld_row0 (k := 2) cL_len rfl rfl rfl Tryd.isAgg3 (by first | assumption | omega) rfl | exact ld_row (k := 3) cL_len rfl rfl rfl Tryd.isAgg3 (by first | assumption | omega) rfl | exact ld_row0 (k := 3) cL_len rfl rfl rfl Tryd.isAgg3 (by first | assumption | omega) rfl | exact ld_row (k := 0) cI_len rfl rfl rfl Tryd.isAgg3 (by first | assumption | omega) rfl | exact ld_row0 (k := 0) cI_len rfl rfl rfl Tryd.isAgg3 (by first | assumption | omega) rfl | exact ld_row (k := 1) cI_len rfl rfl rfl Tryd.isAgg3 (by first | assumption | omega) rfl | exact ld_row0 (k := 1) cI_len rfl rfl rfl Tryd.isAgg3 (by first | assumption | omega) rfl | exact ld_row (k := 2) cI_len rfl rfl rfl Tryd.isAgg3 (by first | assumption | omega) rfl | exact ld_row0 (k := 2) cI_len rfl rfl rfl Tryd.isAgg3 (by first | assumption | omega) rfl | exact ld_row (k := 3) cI_len rfl rfl rfl Tryd.isAgg3 (by first | assumption | omega) rfl | exact ld_row0 (k := 3) cI_len rfl rfl rfl Tryd.isAgg3 (by first | assumption | omega) rfl | exact ld_row (k := 0) cII_len rfl rfl rfl Tryd.isAgg3 (by first | assumption | omega) rfl | exact ld_row0 (k := 0) cII_len rfl rfl rfl Tryd.isAgg3 (by first | assumption | omega) rfl | exact ld_row (k := 1) cII_len rfl rfl rfl Tryd.isAgg3 (by first | assumption | omega) rfl | exact ld_row0 (k := 1) cII_len rfl rfl rfl Tryd.isAgg3 (by first | assumption | omega) rfl | exact ld_row (k := 2) cII_len rfl rfl rfl Tryd.isAgg3 (by first | assumption | omega) rfl | exact ld_row0 (k := 2) cII_len rfl rfl rfl Tryd.isAgg3 (by first | assumption | omega) rfl | exact ld_row (k := 3) cII_len rfl rfl rfl Tryd.isAgg3 (by first | assumption | omega) rfl | exact ld_row0 (k := 3) cII_len rfl rfl rfl Tryd.isAgg3 (by first | assumption | omega) rfl | exact ld_i Tryd.isAgg3 rfl)) ?_
        refine OD.still (wants_plain rfl) rfl (still_has (i := 1) rfl ot ot rfl Tryd.underlying73 Tryd.underlying3 Tryd.zeroValue74) ?_
        refine OD.still (wants_plain rfl) rfl (still_mv rfl ot) ?_
        refine OD.still (wants_plain rfl) rfl (still_extract rfl ot rfl) ?_
        refine OD.still (wants_plain rfl) rfl (still_extract rfl ot rfl) ?_
        refine OD.alloc (ds := []) (wants_plain rfl) rfl rfl Tryd.zeroValue74 rfl (fun b12 => ?_)
        refine OD.store (k := 0) (cs' := []) (wants_plain rfl) rfl rfl ot rfl rfl ot rfl rfl Tryd.sizeOf74 rfl rfl rfl ?_
        refine OD.still (wants_plain rfl) rfl (still_as rfl ot) ?_
        refine OD.wk (Wk.as_ (n := 89) (l' := [(1, _), (4, _), (6, _), (8, _), (9, _), (10, _), (11, _), (13, _), (26, _), (27, _), (28, _)]) (S' := (⟨b12, 74, 0, []⟩ :: ⟨b11, 3, 1, [_]⟩ :: _ :: ⟨b8, 27, 3, [_, _, _]⟩ :: ⟨b1, 25, 2, [_, _]⟩ :: [⟨bt, 3, cpd * 1, List.flatMap cI (todo.take (todo.length - 1))⟩])) rfl rfl ⟨lk, lk, lk, lk, lk, lk, lk, lk, lk, lk, lk, trivial⟩) ?_
        refine OD.nil ?_
        refine CD.seq ?_
        refine CD.region ?_
        refine OD.still (wants_plain rfl) rfl (still_mv rfl ot) ?_
        refine OD.wk (Wk.as_ (n := 89) (l' := [(1, _), (4, _), (6, _), (8, _), (9, _), (10, _), (11, _), (26, _), (27, _), (28, _), (59, _)]) (S' := (⟨b12, 74, 0, []⟩ :: ⟨b11, 3, 1, [_]⟩ :: _ :: ⟨b8, 27, 3, [_, _, _]⟩ :: ⟨b1, 25, 2, [_, _]⟩ :: [⟨bt, 3, cpd * 1, List.flatMap cI (todo.take (todo.length - 1))⟩])) rfl rfl ⟨lk, lk, lk, lk, lk, lk, lk, lk, lk, lk, lk, trivial⟩) ?_
        refine OD.nil ?_
        refine CD.cond ot (fun hc3 => ?_) (fun hc3 => ?_)
        · have hc3' := hc3
          (try simp only [decide_eq_true_eq, decide_eq_false_iff_not, beq_iff_eq, bne_iff_ne, Bool.not_eq_true', Bool.not_eq_false', Bool.not_eq_true, Bool.not_eq_false, beq_eq_false_iff_ne, ne_eq, bne_eq_false_iff_eq, Bool.and_eq_true, Bool.or_eq_true, Bool.not_not, Bool.and_eq_false_iff, Bool.or_eq_false_iff, Int.not_lt, Int.not_le] at hc3')
          have hin : todo[todo.length - 1] ∈ seen := by simpa using hc3
          refine CD.exit ?_
          refine ⟨((todo.take (todo.length - 1)), seen, (some ⟨bt, 0, none⟩), cpd, [⟨bt, 3, cpd * 1, List.flatMap cI (todo.take (todo.length - 1))⟩]), ⟨89, [(1, .v (.pointer (some ⟨b1, 0, none⟩))), (4, .list 1 ((waitsAll held queue).flatMap cII) (waitsAll held queue).length), (6, .v (.int .i64 (vicUp held queue i))), (8, .v (.pointer (some ⟨b8, 0, none⟩))), (9, .v (.map (some b33))), (10, .v (.slice ((some ⟨bt, 0, none⟩)) (((todo.take (todo.length - 1)))).length cpd)), (26, .list 3 (queue.flatMap cL) queue.length), (27, .v (.int .i64 (queue.length : Nat))), (28, .v (.int .i64 (i : Nat)))], ((setB b33 seen) :: (⟨b8, 27, 3, cL queue[i]⟩ : Blk) :: (⟨b1, 25, 2, [.list 3 (held.flatMap cL) held.length, .list 3 (queue.flatMap cL) queue.length]⟩ : Blk) :: ([⟨bt, 3, cpd * 1, List.flatMap cI (todo.take (todo.length - 1))⟩]))⟩, ?_, Wk.asS (n := 89) rfl (by repeat (first | exact List.Sublist.refl _ | apply List.Sublist.cons_cons | apply List.Sublist.cons)) ⟨(by (repeat (first | exact look_hit | (apply look_at; focus (first | rfl | (simp; done) | (congr 2; omega) | (apply row_eq; simp; done))) | (apply look_miss; focus rfl))); done), (by (repeat (first | exact look_hit | (apply look_at; focus (first | rfl | (simp; done) | (congr 2; omega) | (apply row_eq; simp; done))) | (apply look_miss; focus rfl))); done), (by (repeat (first | exact look_hit | (apply look_at; focus (first | rfl | (simp; done) | (congr 2; omega) | (apply row_eq; simp; done))) | (apply look_miss; focus rfl))); done), (by (repeat (first | exact look_hit | (apply look_at; focus (first | rfl | (simp; done) | (congr 2; omega) | (apply row_eq; simp; done))) | (apply look_miss; focus rfl))); done), (by (repeat (first | exact look_hit | (apply look_at; focus (first | rfl | (simp; done) | (congr 2; omega) | (apply row_eq; simp; done))) | (apply look_miss; focus rfl))); done), (by (repeat (first | exact look_hit | (apply look_at; focus (first | rfl | (simp; done) | (congr 2; omega) | (apply row_eq; simp; done))) | (apply look_miss; focus rfl))); done), (by (repeat (first | exact look_hit | (apply look_at; focus (first | rfl | (simp; done) | (congr 2; omega) | (apply row_eq; simp; done))) | (apply look_miss; focus rfl))); done), (by (repeat (first | exact look_hit | (apply look_at; focus (first | rfl | (simp; done) | (congr 2; omega) | (apply row_eq; simp; done))) | (apply look_miss; focus rfl))); done), (by (repeat (first | exact look_hit | (apply look_at; focus (first | rfl | (simp; done) | (congr 2; omega) | (apply row_eq; simp; done))) | (apply look_miss; focus rfl))); done), trivial⟩, ((reach_old hpos hin).trans hr), (Nat.le_trans (Nat.le_of_lt (mu_old hpos)) hm), (OwnL.cast (ownL_row (g := cI) (sz := 1) (ls := (todo.take (todo.length - 1))) (by rw [htk]; omega) hh2) (by first | rfl | simp)), rfl⟩
          first | exact mu_old hpos | exact mu_new hpos hns | (have := mu_new (queue := queue) (ws := waitsAll held queue) hpos hns; rw [hnx] at this; exact this) | omega
        · have hc3' := hc3
          (try simp only [decide_eq_true_eq, decide_eq_false_iff_not, beq_iff_eq, bne_iff_ne, Bool.not_eq_true', Bool.not_eq_false', Bool.not_eq_true, Bool.not_eq_false, beq_eq_false_iff_ne, ne_eq, bne_eq_false_iff_eq, Bool.and_eq_true, Bool.or_eq_true, Bool.not_not, Bool.and_eq_false_iff, Bool.or_eq_false_iff, Int.not_lt, Int.not_le] at hc3')
          have hns : todo[todo.length - 1] ∉ seen := by simpa using hc3
          have hmn := mu_new (queue := queue) (ws := (waitsAll held queue)) hpos hns
          have hrn := reach_new (queue := queue) (ws := (waitsAll held queue)) hpos hns
          refine CD.skip ?_
          refine CD.seq ?_
          refine CD.region ?_
          refine OD.still (wants_plain rfl) rfl (still_mv rfl ot) ?_
          refine OD.still (wants_plain rfl) rfl (still_r1 (mk := Op.load 3) rfl ot (by first | exact ld_blk (k := 1) rfl rfl Tryd.isAgg3 rfl | exact ld_fm cL_len Tryd.isAgg3 (by first | assumption | omega) rfl | exact ld_fm0 cL_len Tryd.isAgg3 (by first | assumption | omega) rfl | exact ld_fm cI_len Tryd.isAgg3 (by first | assumption | omega) rfl | exact ld_fm0 cI_len Tryd.isAgg3 (by first | assumption | omega) rfl | exact ld_fm cII_len Tryd.isAgg3 (by first | assumption | omega) rfl | exact ld_fm0 cII_len Tryd.isAgg3 (by first | assumption | omega) rfl | exact ld_row (k := 0) cL_len rfl rfl rfl Tryd.isAgg3 (by first | assumption | omega) rfl | exact ld_row0 (k := 0) cL_len rfl rfl rfl Tryd.isAgg3 (by first | assumption | omega) rfl | exact ld_row (k := 1) cL_len rfl rfl rfl Tryd.isAgg3 (by first | assumption | omega) rfl | exact ld_row0 (k := 1) cL_len rfl rfl rfl Tryd.isAgg3 (by first | assumption | omega) rfl | exact ld_row (k := 2) cL_len rfl rfl rfl Tryd.isAgg3 (by first | assumption | omega) rfl | exact ld_row0 (k := 2) cL_len rfl rfl rfl Tryd.isAgg3 (by first | assumption | omega) rfl | exact ld_row (k := 3) cL_len rfl rfl rfl Tryd.isAgg3 (by first | assumption | omega) rfl | exact ld_row0 (k := 3) cL_len rfl rfl rfl Tryd.isAgg3 (by first | assumption | omega) rfl | exact ld_row (k := 4) cL_len rfl rfl rfl Tryd.isAgg3 (by first | assumption | omega) rfl | exact ld_row0 (k := 4) cL_len rfl rfl rfl Tryd.isAgg3 (by first | assumption | omega) rfl | exact ld_row (k := 0) cI_len rfl rfl rfl Tryd.isAgg3 (by first | assumption | omega) rfl | exact ld_row0 (k := 0) cI_len rfl rfl rfl Tryd.isAgg3 (by first | assumption | omega) rfl | exact ld_row (k := 1) cI_len rfl rfl rfl Tryd.isAgg3 (by first | assumption | omega) rfl | exact ld_row0 (k := 1) cI_len rfl rfl rfl Tryd.isAgg3 (by first | assumption | omega) rfl | exact ld_row (k := 2) cI_len rfl rfl rfl Tryd.isAgg3 (by first | assumption | omega) rfl | exact ld_row0 (k := 2) cI_len rfl rfl rfl Tryd.isAgg3 (by first | assumption | omega) rfl | exact ld_row (k := 3) cI_len rfl rfl rfl Tryd.isAgg3 (by first | assumption | omega) rfl | exact ld_row0 (k := 3) cI_len rfl rfl rfl Tryd.isAgg3 (by first | assumption | omega) rfl | exact ld_row (k := 4) cI_len rfl rfl rfl Tryd.isAgg3 (by first | assumption | omega) rfl | exact ld_row0 (k := 4) cI_len rfl rfl rfl Tryd.isAgg3 (by first | assumption | omega) rfl | exact ld_row (k := 0) cII_len rfl rfl rfl Tryd.isAgg3 (by first | assumption | omega) rfl | exact ld_row0 (k := 0) cII_len rfl rfl rfl Tryd.isAgg3 (by first | assumption | omega) rfl | exact ld_row (k := 1) cII_len rfl rfl rfl Tryd.isAgg3 (by first | assumption | omega) rfl | exact ld_row0 (k := 1) cII_len rfl rfl rfl Tryd.isAgg3 (by first | assumption | omega) rfl | exact ld_row (k := 2) cII_len rfl rfl rfl Tryd.isAgg3 (by first | assumption | omega) rfl | exact ld_row0 (k := 2) cII_len rfl rfl rfl Tryd.isAgg3 (by first | assumption | omega) rfl | exact ld_row (k := 3) cII_len rfl rfl rfl Tryd.isAgg3 (by first | assumption | omega) rfl | exact ld_row0 (k := 3) cII_len rfl rfl rfl Tryd.isAgg3 (by first | assumption | omega) rfl | exact ld_row (k := 4) cII_len rfl rfl rfl Tryd.isAgg3 (by first | assumption | omega) rfl | exact ld_row0 (k := 4) cII_len rfl rfl rfl Tryd.isAgg3 (by first | assumption | omega) rfl | exact ld_i Tryd.isAgg3 rfl)) ?_
          refine OD.still (wants_plain rfl) rfl (still_bld (pl := []) (ds := []) rfl Tryd.zeroValue74 Tryd.runUnderlying74 places74_Lkr trivial rfl rfl) ?_
          refine OD.addKey (i := 2) (wants_plain rfl) rfl rfl ot ot ot rfl hns Tryd.underlying73 Tryd.underlying3 ?_
          refine OD.wk (Wk.as_ (n := 89) (l' := [(1, _), (4, _), (6, _), (8, _), (9, _), (10, _), (11, _), (26, _), (27, _), (28, _)]) (S' := (⟨b12, 74, 0, []⟩ :: ⟨b11, 3, 1, [_]⟩ :: _ :: ⟨b8, 27, 3, [_, _, _]⟩ :: ⟨b1, 25, 2, [_, _]⟩ :: [⟨bt, 3, cpd * 1, List.flatMap cI (todo.take (todo.length - 1))⟩])) rfl rfl ⟨lk, lk, lk, lk, lk, lk, lk, lk, lk, lk, trivial⟩) ?_
          refine OD.nil ?_
          refine CD.seq ?_
          refine CD.region ?_
          refine OD.still (wants_plain rfl) rfl (still_r1 (mk := fun y => Op.fieldAddr 25 y 1) rfl ot (by first | exact fa_ptr (off := 1) Tryd.runUnderlying25 rfl Tryd.sizeOf23 rfl | exact fa_iptr (off := 1) Tryd.runUnderlying25 rfl Tryd.sizeOf23 rfl)) ?_
          refine OD.still (wants_plain rfl) rfl (still_r1 (mk := Op.load 23) rfl ot (by first | exact ld_blk (k := 4) rfl rfl Tryd.isAgg23 rfl | exact ld_fm cL_len Tryd.isAgg23 (by first | assumption | omega) rfl | exact ld_fm0 cL_len Tryd.isAgg23 (by first | assumption | omega) rfl | exact ld_fm cI_len Tryd.isAgg23 (by first | assumption | omega) rfl | exact ld_fm0 cI_len Tryd.isAgg23 (by first | assumption | omega) rfl | exact ld_fm cII_len Tryd.isAgg23 (by first | assumption | omega) rfl | exact ld_fm0 cII_len Tryd.isAgg23 (by first | assumption | omega) rfl | exact ld_row (k := 0) cL_len rfl rfl rfl Tryd.isAgg23 (by first | assumption | omega) rfl | exact ld_row0 (k := 0) cL_len rfl rfl rfl Tryd.isAgg23 (by first | assumption | omega) rfl | exact ld_row (k := 1) cL_len rfl rfl rfl Tryd.isAgg23 (by first | assumption | omega) rfl | exact ld_row0 (k := 1) cL_len rfl rfl rfl Tryd.isAgg23 (by first | assumption | omega) rfl | exact ld_row (k := 2) cL_len rfl rfl rfl Tryd.isAgg23 (by first | assumption | omega) rfl | exact ld_row0 (k := 2) cL_len rfl rfl rfl Tryd.isAgg23 (by first | assumption | omega) rfl | exact ld_row (k := 3) cL_len rfl rfl rfl Tryd.isAgg23 (by first | assumption | omega) rfl | exact ld_row0 (k := 3) cL_len rfl rfl rfl Tryd.isAgg23 (by first | assumption | omega) rfl | exact ld_row (k := 4) cL_len rfl rfl rfl Tryd.isAgg23 (by first | assumption | omega) rfl | exact ld_row0 (k := 4) cL_len rfl rfl rfl Tryd.isAgg23 (by first | assumption | omega) rfl | exact ld_row (k := 0) cI_len rfl rfl rfl Tryd.isAgg23 (by first | assumption | omega) rfl | exact ld_row0 (k := 0) cI_len rfl rfl rfl Tryd.isAgg23 (by first | assumption | omega) rfl | exact ld_row (k := 1) cI_len rfl rfl rfl Tryd.isAgg23 (by first | assumption | omega) rfl | exact ld_row0 (k := 1) cI_len rfl rfl rfl Tryd.isAgg23 (by first | assumption | omega) rfl | exact ld_row (k := 2) cI_len rfl rfl rfl Tryd.isAgg23 (by first | assumption | omega) rfl | exact ld_row0 (k := 2) cI_len rfl rfl rfl Tryd.isAgg23 (by first | assumption | omega) rfl | exact ld_row (k := 3) cI_len rfl rfl rfl Tryd.isAgg23 (by first | assumption | omega) rfl | exact ld_row0 (k := 3) cI_len rfl rfl rfl Tryd.isAgg23 (by first | assumption | omega) rfl | exact ld_row (k := 4) cI_len rfl rfl rfl Tryd.isAgg23 (by first | assumption | omega) rfl | exact ld_row0 (k := 4) cI_len rfl rfl rfl Tryd.isAgg23 (by first | assumption | omega) rfl | exact ld_row (k := 0) cII_len rfl rfl rfl Tryd.isAgg23 (by first | assumption | omega) rfl | exact ld_row0 (k := 0) cII_len rfl rfl rfl Tryd.isAgg23 (by first | assumption | omega) rfl | exact ld_row (k := 1) cII_len rfl rfl rfl Tryd.isAgg23 (by first | assumption | omega) rfl | exact ld_row0 (k := 1) cII_len rfl rfl rfl Tryd.isAgg23 (by first | assumption | omega) rfl | exact ld_row (k := 2) cII_len rfl rfl rfl Tryd.isAgg23 (by first | assumption | omega) rfl | exact ld_row0 (k := 2) cII_len rfl rfl rfl Tryd.isAgg23 (by first | assumption | omega) rfl | exact ld_row (k := 3) cII_len rfl rfl rfl Tryd.isAgg23 (by first | assumption | omega) rfl | exact ld_row0 (k := 3) cII_len rfl rfl rfl Tryd.isAgg23 (by first | assumption | omega) rfl | exact ld_row (k := 4) cII_len rfl rfl rfl Tryd.isAgg23 (by first | assumption | omega) rfl | exact ld_row0 (k := 4) cII_len rfl rfl rfl Tryd.isAgg23 (by first | assumption | omega) rfl | exact ld_i Tryd.isAgg23 rfl)) ?_
          refine OD.still (wants_plain rfl) rfl (still_fn (ds := [_]) rfl ⟨ot, trivial⟩) ?_
          refine OD.call (wants_plain rfl) rfl rfl rfl Tryd.call43 (index_vc _ queue 44 [.v (.pointer (some ⟨b11, 0, none⟩))] _ (fun x => x.t == todo[todo.length - 1]) Tryd.call44 (fun y _ => victim1_vc y todo[todo.length - 1] b11) (by omega)) ⟨ot, ot, trivial⟩ (perm_one (k := 1) rfl) ?_; rintro _ S66 ⟨rfl, hS66⟩; rw [hS66]; clear hS66
          refine OD.still (wants_plain rfl) rfl (still_as rfl ot) ?_
          refine OD.wk (Wk.as_ (n := 89) (l' := [(1, _), (4, _), (6, _), (8, _), (9, _), (10, _), (14, _), (26, _), (27, _), (28, _)]) (S' := (⟨b11, 3, 1, [_]⟩ :: ⟨b12, 74, 0, []⟩ :: _ :: ⟨b8, 27, 3, [_, _, _]⟩ :: ⟨b1, 25, 2, [_, _]⟩ :: [⟨bt, 3, cpd * 1, List.flatMap cI (todo.take (todo.length - 1))⟩])) rfl rfl ⟨lk, lk, lk, lk, lk, lk, lk, lk, lk, lk, trivial⟩) ?_
          refine OD.nil ?_
          refine CD.seq ?_
          refine CD.region ?_
          refine OD.still (wants_plain rfl) rfl (still_mv rfl ot) ?_
          refine OD.still (wants_plain rfl) rfl (still_bin rfl ot opd_const bin_geq) ?_
          refine OD.wk (Wk.as_ (n := 89) (l' := [(1, _), (4, _), (6, _), (8, _), (9, _), (10, _), (14, _), (26, _), (27, _), (28, _), (68, _)]) (S' := (⟨b11, 3, 1, [_]⟩ :: ⟨b12, 74, 0, []⟩ :: _ :: ⟨b8, 27, 3, [_, _, _]⟩ :: ⟨b1, 25, 2, [_, _]⟩ :: [⟨bt, 3, cpd * 1, List.flatMap cI (todo.take (todo.length - 1))⟩])) rfl rfl ⟨lk, lk, lk, lk, lk, lk, lk, lk, lk, lk, lk, trivial⟩) ?_
          refine OD.nil ?_
          refine CD.cond ot (fun hc4 => ?_) (fun hc4 => ?_)
          · have hc4' := hc4
            (try simp only [decide_eq_true_eq, decide_eq_false_iff_not, beq_iff_eq, bne_iff_ne, Bool.not_eq_true', Bool.not_eq_false', Bool.not_eq_true, Bool.not_eq_false, beq_eq_false_iff_ne, ne_eq, bne_eq_false_iff_eq, Bool.and_eq_true, Bool.or_eq_true, Bool.not_not, Bool.and_eq_false_iff, Bool.or_eq_false_iff, Int.not_lt, Int.not_le] at hc4')
            obtain ⟨j, hj, hj1, hj2, hj3⟩ := idxI_nn (p := fun x => x.t == todo[todo.length - 1]) (ls := queue) (by simpa using hc4)
            rw [hj1]
            have hja : j < (waitsAll held queue).length := by omega
            have hnx := next_some hj1 hja
            rw [hnx] at hmn hrn
            refine CD.region ?_
            refine OD.still (wants_plain rfl) rfl (still_mv rfl ot) ?_
            refine OD.still (wants_plain rfl) rfl (still_mv rfl ot) ?_
            refine OD.still (wants_plain rfl) rfl (still_mv rfl ot) ?_
            refine OD.still (wants_plain rfl) rfl (still_r2 (mk := Op.indexAddr 50) rfl ot ot (by first | exact ix_list Tryd.runUnderlying50 Tryd.sizeOf34 rfl (by first | assumption | omega) | exact ix_list (j := Int.toNat _) Tryd.runUnderlying50 Tryd.sizeOf34 (Int.toNat_of_nonneg (by omega)).symm (by omega) | exact ix_row Tryd.runUnderlying50 Tryd.sizeOf34 rfl (by first | assumption | omega) | exact ix_row (j := Int.toNat _) Tryd.runUnderlying50 Tryd.sizeOf34 (Int.toNat_of_nonneg (by omega)).symm (by omega))) ?_
            refine OD.still (wants_plain rfl) rfl (still_r1 (mk := Op.load 34) rfl ot (by first | exact ld_blk (k := 0) rfl rfl Tryd.isAgg34 rfl | exact ld_blk (k := 1) rfl rfl Tryd.isAgg34 rfl | exact ld_blk (k := 2) rfl rfl Tryd.isAgg34 rfl | exact ld_blk (k := 3) rfl rfl Tryd.isAgg34 rfl | exact ld_fm cL_len Tryd.isAgg34 (by first | assumption | omega) rfl | exact ld_fm0 cL_len Tryd.isAgg34 (by first | assumption | omega) rfl | exact ld_fm cI_len Tryd.isAgg34 (by first | assumption | omega) rfl | exact ld_fm0 cI_len Tryd.isAgg34 (by first | assumption | omega) rfl | exact ld_fm cII_len Tryd.isAgg34 (by first | assumption | omega) rfl | exact ld_fm0 cII_len Tryd.isAgg34 (by first | assumption | omega) rfl | exact ld_row (k := 0) cL_len rfl rfl rfl Tryd.isAgg34 (by first | assumption | omega) rfl | exact ld_row0 (k := 0) cL_len rfl rfl rfl Tryd.isAgg34 (by first | assumption | omega) rfl | exact ld_row (k := 1) cL_len rfl rfl rfl Tryd.isAgg34 (by first | assumption | omega) rfl | exact ld_row0 (k := 1) cL_len rfl rfl rfl Tryd.isAgg34 (by first | assumption | omega) rfl | exact ld_row (k := 2) cL_len rfl rfl rfl Tryd.isAgg34 (by first | assumption | omega) rfl | exact ld_row0 (k := 2) cL_len rfl rfl rfl Tryd.isAgg34 (by first | assumption | omega) rfl | exact ld_row (k := 3) cL_len rfl rfl rfl Tryd.isAgg34 (by first | assumption | omega) rfl | exact ld_row0 (k := 3) cL_len rfl rfl rfl Tryd.isAgg34 (by first | assumption | omega) rfl | exact ld_row (k := 4) cL_len rfl rfl rfl Tryd.isAgg34 (by first | assumption | omega) rfl | exact ld_row0 (k := 4) cL_len rfl rfl rfl Tryd.isAgg34 (by first | assumption | omega) rfl | exact ld_row (k := 0) cI_len rfl rfl rfl Tryd.isAgg34 (by first | assumption | omega) rfl | exact ld_row0 (k := 0) cI_len rfl rfl rfl Tryd.isAgg34 (by first | assumption | omega) rfl | exact ld_row (k := 1) cI_len rfl rfl rfl Tryd.isAgg34 (by first | assumption | omega) rfl | exact ld_row0 (k := 1) cI_len rfl rfl rfl Tryd.isAgg34 (by first | assumption | omega) rfl | exact ld_row (k := 2) cI_len rfl rfl rfl Tryd.isAgg34 (by first | assumption | omega) rfl | exact ld_row0 (k := 2) cI_len rfl rfl rfl Tryd.isAgg34 (by first | assumption | omega) rfl | exact ld_row (k := 3) cI_len rfl rfl rfl Tryd.isAgg34 (by first | assumption | omega) rfl | exact ld_row0 (k := 3) cI_len rfl rfl rfl Tryd.isAgg34 (by first | assumption | omega) rfl | exact ld_row (k := 4) cI_len rfl rfl rfl Tryd.isAgg34 (by first | assumption | omega) rfl | exact ld_row0 (k := 4) cI_len rfl rfl rfl Tryd.isAgg34 (by first | assumption | omega) rfl | exact ld_row (k := 0) cII_len rfl rfl rfl Tryd.isAgg34 (by first | assumption | omega) rfl | exact ld_row0 (k := 0) cII_len rfl rfl rfl Tryd.isAgg34 (by first | assumption | omega) rfl | exact ld_row (k := 1) cII_len rfl rfl rfl Tryd.isAgg34 (by first | assumption | omega) rfl | exact ld_row0 (k := 1) cII_len rfl rfl rfl Tryd.isAgg34 (by first | assumption | omega) rfl | exact ld_row (k := 2) cII_len rfl rfl rfl Tryd.isAgg34 (by first | assumption | omega) rfl | exact ld_row0 (k := 2) cII_len rfl rfl rfl Tryd.isAgg34 (by first | assumption | omega) rfl | exact ld_row (k := 3) cII_len rfl rfl rfl Tryd.isAgg34 (by first | assumption | omega) rfl | exact ld_row0 (k := 3) cII_len rfl rfl rfl Tryd.isAgg34 (by first | assumption | omega) rfl | exact ld_row (k := 4) cII_len rfl rfl rfl Tryd.isAgg34 (by first | assumption | omega) rfl | exact ld_row0 (k := 4) cII_len rfl rfl rfl Tryd.isAgg34 (by first | assumption | omega) rfl | exact ld_i Tryd.isAgg34 rfl)) ?_
            refine OD.appendAny (ls := (todo.take (todo.length - 1))) (new := (waitsAll held queue)[j]) (Sq := [⟨bt, 3, cpd * 1, List.flatMap cI (todo.take (todo.length - 1))⟩]) cI_len cI_one (wants_plain rfl) rfl rfl Tryd.underlying34 info3_Lkr rfl (by decide) Tryd.runUnderlying34 Tryd.sizeOf3 ot (ownL_row (g := cI) (sz := 1) (ls := (todo.take (todo.length - 1))) (by rw [htk]; omega) hh2) (perm_r11 (A := [_, _, _, _, _])) ot (by (try simp only [List.length_append]); have q9 := held_bd g hja; omega) (by (try simp only [List.length_append]); have q9 := held_bd g hja; omega) (fun ad74 cp74 S74 ho74 => ?_)
            refine OD.perm (perm_q11 (A := [_, _, _, _, _])) ?_
            refine OD.still (wants_plain rfl) rfl (still_as rfl ot) ?_
            refine OD.wk (Wk.as_ (n := 89) (l' := [(1, _), (4, _), (6, _), (8, _), (9, _), (10, _), (26, _), (27, _), (28, _)]) (S' := (⟨b11, 3, 1, [_]⟩ :: ⟨b12, 74, 0, []⟩ :: _ :: ⟨b8, 27, 3, [_, _, _]⟩ :: ⟨b1, 25, 2, [_, _]⟩ :: S74)) rfl rfl ⟨lk, lk, lk, lk, lk, lk, lk, lk, lk, trivial⟩) ?_
            refine OD.nil ?_
            refine ⟨(((todo.take (todo.length - 1)) ++ (waitsAll held queue)[j]), (seen ++ [todo[todo.length - 1]]), ad74, cp74, S74), ⟨89, [(1, .v (.pointer (some ⟨b1, 0, none⟩))), (4, .list 1 ((waitsAll held queue).flatMap cII) (waitsAll held queue).length), (6, .v (.int .i64 (vicUp held queue i))), (8, .v (.pointer (some ⟨b8, 0, none⟩))), (9, .v (.map (some b33))), (10, .v (.slice ad74 ((((todo.take (todo.length - 1)) ++ (waitsAll held queue)[j]))).length cp74)), (26, .list 3 (queue.flatMap cL) queue.length), (27, .v (.int .i64 (queue.length : Nat))), (28, .v (.int .i64 (i : Nat)))], ((setB b33 ((seen ++ [todo[todo.length - 1]]))) :: (⟨b8, 27, 3, cL queue[i]⟩ : Blk) :: (⟨b1, 25, 2, [.list 3 (held.flatMap cL) held.length, .list 3 (queue.flatMap cL) queue.length]⟩ : Blk) :: S74)⟩, ?_, Wk.asS (n := 89) rfl (by repeat (first | exact List.Sublist.refl _ | apply List.Sublist.cons_cons | apply List.Sublist.cons)) ⟨(by (repeat (first | exact look_hit | (apply look_at; focus (first | rfl | (simp; done) | (congr 2; omega) | (apply row_eq; simp; done))) | (apply look_miss; focus rfl))); done), (by (repeat (first | exact look_hit | (apply look_at; focus (first | rfl | (simp; done) | (congr 2; omega) | (apply row_eq; simp; done))) | (apply look_miss; focus rfl))); done), (by (repeat (first | exact look_hit | (apply look_at; focus (first | rfl | (simp; done) | (congr 2; omega) | (apply row_eq; simp; done))) | (apply look_miss; focus rfl))); done), (by (repeat (first | exact look_hit | (apply look_at; focus (first | rfl | (simp; done) | (congr 2; omega) | (apply row_eq; simp; done))) | (apply look_miss; focus rfl))); done), (by (repeat (first | exact look_hit | (apply look_at; focus (first | rfl | (simp; done) | (congr 2; omega) | (apply row_eq; simp; done))) | (apply look_miss; focus rfl))); done), (by (repeat (first | exact look_hit | (apply look_at; focus (first | rfl | (simp; done) | (congr 2; omega) | (apply row_eq; simp; done))) | (apply look_miss; focus rfl))); done), (by (repeat (first | exact look_hit | (apply look_at; focus (first | rfl | (simp; done) | (congr 2; omega) | (apply row_eq; simp; done))) | (apply look_miss; focus rfl))); done), (by (repeat (first | exact look_hit | (apply look_at; focus (first | rfl | (simp; done) | (congr 2; omega) | (apply row_eq; simp; done))) | (apply look_miss; focus rfl))); done), (by (repeat (first | exact look_hit | (apply look_at; focus (first | rfl | (simp; done) | (congr 2; omega) | (apply row_eq; simp; done))) | (apply look_miss; focus rfl))); done), trivial⟩, (hrn.trans hr), (by omega), (OwnL.cast ho74 (by first | rfl | simp)), rfl⟩
            first | exact mu_old hpos | exact mu_new hpos hns | (have := mu_new (queue := queue) (ws := waitsAll held queue) hpos hns; rw [hnx] at this; exact this) | omega
          · have hc4' := hc4
            (try simp only [decide_eq_true_eq, decide_eq_false_iff_not, beq_iff_eq, bne_iff_ne, Bool.not_eq_true', Bool.not_eq_false', Bool.not_eq_true, Bool.not_eq_false, beq_eq_false_iff_ne, ne_eq, bne_eq_false_iff_eq, Bool.and_eq_true, Bool.or_eq_true, Bool.not_not, Bool.and_eq_false_iff, Bool.or_eq_false_iff, Int.not_lt, Int.not_le] at hc4')
            have hnx : nextW queue (waitsAll held queue) todo[todo.length - 1] = [] := next_none (by simpa using hc4)
            rw [hnx, List.append_nil] at hmn hrn
            refine CD.skip ?_
            refine ⟨((todo.take (todo.length - 1)), (seen ++ [todo[todo.length - 1]]), (some ⟨bt, 0, none⟩), cpd, [⟨bt, 3, cpd * 1, List.flatMap cI (todo.take (todo.length - 1))⟩]), ⟨89, [(1, .v (.pointer (some ⟨b1, 0, none⟩))), (4, .list 1 ((waitsAll held queue).flatMap cII) (waitsAll held queue).length), (6, .v (.int .i64 (vicUp held queue i))), (8, .v (.pointer (some ⟨b8, 0, none⟩))), (9, .v (.map (some b33))), (10, .v (.slice ((some ⟨bt, 0, none⟩)) (((todo.take (todo.length - 1)))).length cpd)), (26, .list 3 (queue.flatMap cL) queue.length), (27, .v (.int .i64 (queue.length : Nat))), (28, .v (.int .i64 (i : Nat)))], ((setB b33 ((seen ++ [todo[todo.length - 1]]))) :: (⟨b8, 27, 3, cL queue[i]⟩ : Blk) :: (⟨b1, 25, 2, [.list 3 (held.flatMap cL) held.length, .list 3 (queue.flatMap cL) queue.length]⟩ : Blk) :: ([⟨bt, 3, cpd * 1, List.flatMap cI (todo.take (todo.length - 1))⟩]))⟩, ?_, Wk.asS (n := 89) rfl (by repeat (first | exact List.Sublist.refl _ | apply List.Sublist.cons_cons | apply List.Sublist.cons)) ⟨(by (repeat (first | exact look_hit | (apply look_at; focus (first | rfl | (simp; done) | (congr 2; omega) | (apply row_eq; simp; done))) | (apply look_miss; focus rfl))); done), (by (repeat (first | exact look_hit | (apply look_at; focus (first | rfl | (simp; done) | (congr 2; omega) | (apply row_eq; simp; done))) | (apply look_miss; focus rfl))); done), (by (repeat (first | exact look_hit | (apply look_at; focus (first | rfl | (simp; done) | (congr 2; omega) | (apply row_eq; simp; done))) | (apply look_miss; focus rfl))); done), (by (repeat (first | exact look_hit | (apply look_at; focus (first | rfl | (simp; done) | (congr 2; omega) | (apply row_eq; simp; done))) | (apply look_miss; focus rfl))); done), (by (repeat (first | exact look_hit | (apply look_at; focus (first | rfl | (simp; done) | (congr 2; omega) | (apply row_eq; simp; done))) | (apply look_miss; focus rfl))); done), (by (repeat (first | exact look_hit | (apply look_at; focus (first | rfl | (simp; done) | (congr 2; omega) | (apply row_eq; simp; done))) | (apply look_miss; focus rfl))); done), (by (repeat (first | exact look_hit | (apply look_at; focus (first | rfl | (simp; done) | (congr 2; omega) | (apply row_eq; simp; done))) | (apply look_miss; focus rfl))); done), (by (repeat (first | exact look_hit | (apply look_at; focus (first | rfl | (simp; done) | (congr 2; omega) | (apply row_eq; simp; done))) | (apply look_miss; focus rfl))); done), (by (repeat (first | exact look_hit | (apply look_at; focus (first | rfl | (simp; done) | (congr 2; omega) | (apply row_eq; simp; done))) | (apply look_miss; focus rfl))); done), trivial⟩, (hrn.trans hr), (by omega), (OwnL.cast (ownL_row (g := cI) (sz := 1) (ls := (todo.take (todo.length - 1))) (by rw [htk]; omega) hh2) (by first | rfl | simp)), rfl⟩
            first | exact mu_old hpos | exact mu_new hpos hns | (have := mu_new (queue := queue) (ws := waitsAll held queue) hpos hns; rw [hnx] at this; exact this) | omega
      · have hc2' := hc2
        (try simp only [decide_eq_true_eq, decide_eq_false_iff_not, beq_iff_eq, bne_iff_ne, Bool.not_eq_true', Bool.not_eq_false', Bool.not_eq_true, Bool.not_eq_false, beq_eq_false_iff_ne, ne_eq, bne_eq_false_iff_eq, Bool.and_eq_true, Bool.or_eq_true, Bool.not_not, Bool.and_eq_false_iff, Bool.or_eq_false_iff, Int.not_lt, Int.not_le] at hc2')
        have h0 : todo.length = 0 := by omega
        rw [reach_nil h0] at hr
        refine CD.exit ?_
        refine CD.seq ?_
        refine CD.region ?_
        refine OD.still (wants_plain rfl) rfl (still_mv rfl ot) ?_
        refine OD.still (wants_plain rfl) rfl (still_r1 (mk := fun y => Op.fieldAddr 27 y 0) rfl ot (by first | exact fa_ptr (off := 0) Tryd.runUnderlying27 rfl Tryd.sizeOf3 rfl | exact fa_iptr (off := 0) Tryd.runUnderlying27 rfl Tryd.sizeOf3 rfl)) ?_
        refine OD.still (wants_plain rfl) rfl (still_r1 (mk := Op.load 3) rfl ot (by first | exact ld_blk (k := 1) rfl rfl Tryd.isAgg3 rfl | exact ld_fm cL_len Tryd.isAgg3 (by first | assumption | omega) rfl | exact ld_fm0 cL_len Tryd.isAgg3 (by first | assumption | omega) rfl | exact ld_fm cI_len Tryd.isAgg3 (by first | assumption | omega) rfl | exact ld_fm0 cI_len Tryd.isAgg3 (by first | assumption | omega) rfl | exact ld_fm cII_len Tryd.isAgg3 (by first | assumption | omega) rfl | exact ld_fm0 cII_len Tryd.isAgg3 (by first | assumption | omega) rfl | exact ld_row (k := 0) cL_len rfl rfl rfl Tryd.isAgg3 (by first | assumption | omega) rfl | exact ld_row0 (k := 0) cL_len rfl rfl rfl Tryd.isAgg3 (by first | assumption | omega) rfl | exact ld_row (k := 1) cL_len rfl rfl rfl Tryd.isAgg3 (by first | assumption | omega) rfl | exact ld_row0 (k := 1) cL_len rfl rfl rfl Tryd.isAgg3 (by first | assumption | omega) rfl | exact ld_row (k := 2) cL_len rfl rfl rfl Tryd.isAgg3 (by first | assumption | omega) rfl | exact ld_row0 (k := 2) cL_len rfl rfl rfl Tryd.isAgg3 (by first | assumption | omega) rfl | exact ld_row (k := 0) cI_len rfl rfl rfl Tryd.isAgg3 (by first | assumption | omega) rfl | exact ld_row0 (k := 0) cI_len rfl rfl rfl Tryd.isAgg3 (by first | assumption | omega) rfl | exact ld_row (k := 1) cI_len rfl rfl rfl Tryd.isAgg3 (by first | assumption | omega) rfl | exact ld_row0 (k := 1) cI_len rfl rfl rfl Tryd.isAgg3 (by first | assumption | omega) rfl | exact ld_row (k := 2) cI_len rfl rfl rfl Tryd.isAgg3 (by first | assumption | omega) rfl | exact ld_row0 (k := 2) cI_len rfl rfl rfl Tryd.isAgg3 (by first | assumption | omega) rfl | exact ld_row (k := 0) cII_len rfl rfl rfl Tryd.isAgg3 (by first | assumption | omega) rfl | exact ld_row0 (k := 0) cII_len rfl rfl rfl Tryd.isAgg3 (by first | assumption | omega) rfl | exact ld_row (k := 1) cII_len rfl rfl rfl Tryd.isAgg3 (by first | assumption | omega) rfl | exact ld_row0 (k := 1) cII_len rfl rfl rfl Tryd.isAgg3 (by first | assumption | omega) rfl | exact ld_row (k := 2) cII_len rfl rfl rfl Tryd.isAgg3 (by first | assumption | omega) rfl | exact ld_row0 (k := 2) cII_len rfl rfl rfl Tryd.isAgg3 (by first | assumption | omega) rfl | exact ld_i Tryd.isAgg3 rfl)) ?_
        refine OD.still (wants_plain rfl) rfl (still_has (i := 0) rfl ot ot rfl Tryd.underlying73 Tryd.underlying3 Tryd.zeroValue74) ?_
        refine OD.still (wants_plain rfl) rfl (still_mv rfl ot) ?_
        refine OD.still (wants_plain rfl) rfl (still_extract rfl ot rfl) ?_
        refine OD.still (wants_plain rfl) rfl (still_extract rfl ot rfl) ?_
        refine OD.alloc (ds := []) (wants_plain rfl) rfl rfl Tryd.zeroValue74 rfl (fun b15 => ?_)
        refine OD.store (k := 0) (cs' := []) (wants_plain rfl) rfl rfl ot rfl rfl ot rfl rfl Tryd.sizeOf74 rfl rfl rfl ?_
        refine OD.still (wants_plain rfl) rfl (still_as rfl ot) ?_
        refine OD.wk (Wk.as_ (n := 89) (l' := [(1, _), (4, _), (6, _), (8, _), (16, _), (26, _), (27, _), (28, _)]) (S' := (⟨b15, 74, 0, []⟩ :: _ :: ⟨b8, 27, 3, [_, _, _]⟩ :: ⟨b1, 25, 2, [_, _]⟩ :: Sd)) rfl rfl ⟨lk, lk, lk, lk, lk, lk, lk, lk, trivial⟩) ?_
        refine OD.nil ?_
        refine CD.seq ?_
        refine CD.region ?_
        refine OD.still (wants_plain rfl) rfl (still_mv rfl ot) ?_
        refine OD.wk (Wk.as_ (n := 89) (l' := [(1, _), (4, _), (6, _), (8, _), (26, _), (27, _), (28, _), (82, _)]) (S' := (⟨b15, 74, 0, []⟩ :: _ :: ⟨b8, 27, 3, [_, _, _]⟩ :: ⟨b1, 25, 2, [_, _]⟩ :: Sd)) rfl rfl ⟨lk, lk, lk, lk, lk, lk, lk, lk, trivial⟩) ?_
        refine OD.nil ?_
        refine CD.cond ot (fun hc5 => ?_) (fun hc5 => ?_)
        · have hc5' := hc5
          (try simp only [decide_eq_true_eq, decide_eq_false_iff_not, beq_iff_eq, bne_iff_ne, Bool.not_eq_true', Bool.not_eq_false', Bool.not_eq_true, Bool.not_eq_false, beq_eq_false_iff_ne, ne_eq, bne_eq_false_iff_eq, Bool.and_eq_true, Bool.or_eq_true, Bool.not_not, Bool.and_eq_false_iff, Bool.or_eq_false_iff, Int.not_lt, Int.not_le] at hc5')
          have hmem : queue[i].t ∈ reachW queue (waitsAll held queue) (waitsN held queue i) [] := by rw [← hwi, ← hr]; simpa using hc5
          refine CD.region ?_
          refine OD.still (wants_plain rfl) rfl (still_mv rfl ot) ?_
          refine OD.still (wants_plain rfl) rfl (still_r1 (mk := fun y => Op.fieldAddr 27 y 0) rfl ot (by first | exact fa_ptr (off := 0) Tryd.runUnderlying27 rfl Tryd.sizeOf3 rfl | exact fa_iptr (off := 0) Tryd.runUnderlying27 rfl Tryd.sizeOf3 rfl)) ?_
          refine OD.still (wants_plain rfl) rfl (still_r1 (mk := Op.load 3) rfl ot (by first | exact ld_blk (k := 2) rfl rfl Tryd.isAgg3 rfl | exact ld_fm cL_len Tryd.isAgg3 (by first | assumption | omega) rfl | exact ld_fm0 cL_len Tryd.isAgg3 (by first | assumption | omega) rfl | exact ld_fm cI_len Tryd.isAgg3 (by first | assumption | omega) rfl | exact ld_fm0 cI_len Tryd.isAgg3 (by first | assumption | omega) rfl | exact ld_fm cII_len Tryd.isAgg3 (by first | assumption | omega) rfl | exact ld_fm0 cII_len Tryd.isAgg3 (by first | assumption | omega) rfl | exact ld_row (k := 0) cL_len rfl rfl rfl Tryd.isAgg3 (by first | assumption | omega) rfl | exact ld_row0 (k := 0) cL_len rfl rfl rfl Tryd.isAgg3 (by first | assumption | omega) rfl | exact ld_row (k := 1) cL_len rfl rfl rfl Tryd.isAgg3 (by first | assumption | omega) rfl | exact ld_row0 (k := 1) cL_len rfl rfl rfl Tryd.isAgg3 (by first | assumption | omega) rfl | exact ld_row (k := 2) cL_len rfl rfl rfl Tryd.isAgg3 (by first | assumption | omega) rfl | exact ld_row0 (k := 2) cL_len rfl rfl rfl Tryd.isAgg3 (by first | assumption | omega) rfl | exact ld_row (k := 3) cL_len rfl rfl rfl Tryd.isAgg3 (by first | assumption | omega) rfl | exact ld_row0 (k := 3) cL_len rfl rfl rfl Tryd.isAgg3 (by first | assumption | omega) rfl | exact ld_row (k := 0) cI_len rfl rfl rfl Tryd.isAgg3 (by first | assumption | omega) rfl | exact ld_row0 (k := 0) cI_len rfl rfl rfl Tryd.isAgg3 (by first | assumption | omega) rfl | exact ld_row (k := 1) cI_len rfl rfl rfl Tryd.isAgg3 (by first | assumption | omega) rfl | exact ld_row0 (k := 1) cI_len rfl rfl rfl Tryd.isAgg3 (by first | assumption | omega) rfl | exact ld_row (k := 2) cI_len rfl rfl rfl Tryd.isAgg3 (by first | assumption | omega) rfl | exact ld_row0 (k := 2) cI_len rfl rfl rfl Tryd.isAgg3 (by first | assumption | omega) rfl | exact ld_row (k := 3) cI_len rfl rfl rfl Tryd.isAgg3 (by first | assumption | omega) rfl | exact ld_row0 (k := 3) cI_len rfl rfl rfl Tryd.isAgg3 (by first | assumption | omega) rfl | exact ld_row (k := 0) cII_len rfl rfl rfl Tryd.isAgg3 (by first | assumption | omega) rfl | exact ld_row0 (k := 0) cII_len rfl rfl rfl Tryd.isAgg3 (by first | assumption | omega) rfl | exact ld_row (k := 1) cII_len rfl rfl rfl Tryd.isAgg3 (by first | assumption | omega) rfl | exact ld_row0 (k := 1) cII_len rfl rfl rfl Tryd.isAgg3 (by first | assumption | omega) rfl | exact ld_row (k := 2) cII_len rfl rfl rfl Tryd.isAgg3 (by first | assumption | omega) rfl | exact ld_row0 (k := 2) cII_len rfl rfl rfl Tryd.isAgg3 (by first | assumption | omega) rfl | exact ld_row (k := 3) cII_len rfl rfl rfl Tryd.isAgg3 (by first | assumption | omega) rfl | exact ld_row0 (k := 3) cII_len rfl rfl rfl Tryd.isAgg3 (by first | assumption | omega) rfl | exact ld_i Tryd.isAgg3 rfl)) ?_
          refine OD.still (wants_plain rfl) rfl (still_minmax rfl ot ot mm_max) ?_
          refine OD.still (wants_plain rfl) rfl (still_as rfl ot) ?_
          refine OD.wk (Wk.as_ (n := 89) (l' := [(1, _), (4, _), (6, _), (26, _), (27, _), (28, _)]) (S' := (⟨b15, 74, 0, []⟩ :: _ :: ⟨b8, 27, 3, [_, _, _]⟩ :: ⟨b1, 25, 2, [_, _]⟩ :: Sd)) rfl rfl ⟨lk, lk, lk, lk, lk, lk, trivial⟩) ?_
          refine OD.nil ?_
          refine CD.region ?_
          refine OD.still (wants_plain rfl) rfl (still_bin rfl ot opd_const (bin_add (wrap_i64 (by omega) (by omega)))) ?_
          refine OD.still (wants_plain rfl) rfl (still_mv rfl ot) ?_
          refine OD.wk (Wk.as_ (n := 89) (l' := [(1, _), (4, _), (6, _), (26, _), (27, _), (28, _)]) (S' := (⟨b15, 74, 0, []⟩ :: _ :: ⟨b8, 27, 3, [_, _, _]⟩ :: ⟨b1, 25, 2, [_, _]⟩ :: Sd)) rfl rfl ⟨lk, lk, lk, lk, lk, lk, trivial⟩) ?_
          refine OD.nil ?_
          refine ⟨(i + 1), ⟨89, [(1, .v (.pointer (some ⟨b1, 0, none⟩))), (4, .list 1 ((waitsAll held queue).flatMap cII) (waitsAll held queue).length), (6, .v (.int .i64 (vicUp held queue ((i + 1))))), (26, .list 3 (queue.flatMap cL) queue.length), (27, .v (.int .i64 (queue.length : Nat))), (28, .v (.int .i64 (((i + 1)) : Nat)))], [(⟨b1, 25, 2, [.list 3 (held.flatMap cL) held.length, .list 3 (queue.flatMap cL) queue.length]⟩ : Blk)]⟩, ?_, Wk.asS (n := 89) rfl (by repeat (first | exact List.Sublist.refl _ | exact List.nil_sublist _ | apply List.Sublist.cons_cons | apply List.Sublist.cons)) ⟨(by (repeat (first | exact look_hit | (apply look_at; focus (first | rfl | (congr 2; omega) | (rw [vic_hit hlt (by assumption)]; done) | (rw [vic_miss hlt (by assumption)]; done) | (rw [← vic_hit hlt (by assumption), if_pos (by assumption)]; done) | (rw [← vic_hit hlt (by assumption), if_neg (by assumption)]; done) | (simp; done))) | (apply look_miss; focus rfl))); done), (by (repeat (first | exact look_hit | (apply look_at; focus (first | rfl | (congr 2; omega) | (rw [vic_hit hlt (by assumption)]; done) | (rw [vic_miss hlt (by assumption)]; done) | (rw [← vic_hit hlt (by assumption), if_pos (by assumption)]; done) | (rw [← vic_hit hlt (by assumption), if_neg (by assumption)]; done) | (simp; done))) | (apply look_miss; focus rfl))); done), (by (repeat (first | exact look_hit | (apply look_at; focus (first | rfl | (congr 2; omega) | (rw [vic_hit hlt (by assumption)]; done) | (rw [vic_miss hlt (by assumption)]; done) | (rw [← vic_hit hlt (by assumption), if_pos (by assumption)]; done) | (rw [← vic_hit hlt (by assumption), if_neg (by assumption)]; done) | (simp; done))) | (apply look_miss; focus rfl))); done), (by (repeat (first | exact look_hit | (apply look_at; focus (first | rfl | (congr 2; omega) | (rw [vic_hit hlt (by assumption)]; done) | (rw [vic_miss hlt (by assumption)]; done) | (rw [← vic_hit hlt (by assumption), if_pos (by assumption)]; done) | (rw [← vic_hit hlt (by assumption), if_neg (by assumption)]; done) | (simp; done))) | (apply look_miss; focus rfl))); done), (by (repeat (first | exact look_hit | (apply look_at; focus (first | rfl | (congr 2; omega) | (rw [vic_hit hlt (by assumption)]; done) | (rw [vic_miss hlt (by assumption)]; done) | (rw [← vic_hit hlt (by assumption), if_pos (by assumption)]; done) | (rw [← vic_hit hlt (by assumption), if_neg (by assumption)]; done) | (simp; done))) | (apply look_miss; focus rfl))); done), (by (repeat (first | exact look_hit | (apply look_at; focus (first | rfl | (congr 2; omega) | (rw [vic_hit hlt (by assumption)]; done) | (rw [vic_miss hlt (by assumption)]; done) | (rw [← vic_hit hlt (by assumption), if_pos (by assumption)]; done) | (rw [← vic_hit hlt (by assumption), if_neg (by assumption)]; done) | (simp; done))) | (apply look_miss; focus rfl))); done), trivial⟩, (by omega), rfl⟩
          first | omega | (simp only []; omega)
        · have hc5' := hc5
          (try simp only [decide_eq_true_eq, decide_eq_false_iff_not, beq_iff_eq, bne_iff_ne, Bool.not_eq_true', Bool.not_eq_false', Bool.not_eq_true, Bool.not_eq_false, beq_eq_false_iff_ne, ne_eq, bne_eq_false_iff_eq, Bool.and_eq_true, Bool.or_eq_true, Bool.not_not, Bool.and_eq_false_iff, Bool.or_eq_false_iff, Int.not_lt, Int.not_le] at hc5')
          have hmem : queue[i].t ∉ reachW queue (waitsAll held queue) (waitsN held queue i) [] := by rw [← hwi, ← hr]; simpa using hc5
          refine CD.skip ?_
          refine CD.region ?_
          refine OD.still (wants_plain rfl) rfl (still_bin rfl ot opd_const (bin_add (wrap_i64 (by omega) (by omega)))) ?_
          refine OD.still (wants_plain rfl) rfl (still_mv rfl ot) ?_
          refine OD.wk (Wk.as_ (n := 89) (l' := [(1, _), (4, _), (6, _), (26, _), (27, _), (28, _)]) (S' := (⟨b15, 74, 0, []⟩ :: _ :: ⟨b8, 27, 3, [_, _, _]⟩ :: ⟨b1, 25, 2, [_, _]⟩ :: Sd)) rfl rfl ⟨lk, lk, lk, lk, lk, lk, trivial⟩) ?_
          refine OD.nil ?_
          refine ⟨(i + 1), ⟨89, [(1, .v (.pointer (some ⟨b1, 0, none⟩))), (4, .list 1 ((waitsAll held queue).flatMap cII) (waitsAll held queue).length), (6, .v (.int .i64 (vicUp held queue ((i + 1))))), (26, .list 3 (queue.flatMap cL) queue.length), (27, .v (.int .i64 (queue.length : Nat))), (28, .v (.int .i64 (((i + 1)) : Nat)))], [(⟨b1, 25, 2, [.list 3 (held.flatMap cL) held.length, .list 3 (queue.flatMap cL) queue.length]⟩ : Blk)]⟩, ?_, Wk.asS (n := 89) rfl (by repeat (first | exact List.Sublist.refl _ | exact List.nil_sublist _ | apply List.Sublist.cons_cons | apply List.Sublist.cons)) ⟨(by (repeat (first | exact look_hit | (apply look_at; focus (first | rfl | (congr 2; omega) | (rw [vic_hit hlt (by assumption)]; done) | (rw [vic_miss hlt (by assumption)]; done) | (rw [← vic_hit hlt (by assumption), if_pos (by assumption)]; done) | (rw [← vic_hit hlt (by assumption), if_neg (by assumption)]; done) | (simp; done))) | (apply look_miss; focus rfl))); done), (by (repeat (first | exact look_hit | (apply look_at; focus (first | rfl | (congr 2; omega) | (rw [vic_hit hlt (by assumption)]; done) | (rw [vic_miss hlt (by assumption)]; done) | (rw [← vic_hit hlt (by assumption), if_pos (by assumption)]; done) | (rw [← vic_hit hlt (by assumption), if_neg (by assumption)]; done) | (simp; done))) | (apply look_miss; focus rfl))); done), (by (repeat (first | exact look_hit | (apply look_at; focus (first | rfl | (congr 2; omega) | (rw [vic_hit hlt (by assumption)]; done) | (rw [vic_miss hlt (by assumption)]; done) | (rw [← vic_hit hlt (by assumption), if_pos (by assumption)]; done) | (rw [← vic_hit hlt (by assumption), if_neg (by assumption)]; done) | (simp; done))) | (apply look_miss; focus rfl))); done), (by (repeat (first | exact look_hit | (apply look_at; focus (first | rfl | (congr 2; omega) | (rw [vic_hit hlt (by assumption)]; done) | (rw [vic_miss hlt (by assumption)]; done) | (rw [← vic_hit hlt (by assumption), if_pos (by assumption)]; done) | (rw [← vic_hit hlt (by assumption), if_neg (by assumption)]; done) | (simp; done))) | (apply look_miss; focus rfl))); done), (by (repeat (first | exact look_hit | (apply look_at; focus (first | rfl | (congr 2; omega) | (rw [vic_hit hlt (by assumption)]; done) | (rw [vic_miss hlt (by assumption)]; done) | (rw [← vic_hit hlt (by assumption), if_pos (by assumption)]; done) | (rw [← vic_hit hlt (by assumption), if_neg (by assumption)]; done) | (simp; done))) | (apply look_miss; focus rfl))); done), (by (repeat (first | exact look_hit | (apply look_at; focus (first | rfl | (congr 2; omega) | (rw [vic_hit hlt (by assumption)]; done) | (rw [vic_miss hlt (by assumption)]; done) | (rw [← vic_hit hlt (by assumption), if_pos (by assumption)]; done) | (rw [← vic_hit hlt (by assumption), if_neg (by assumption)]; done) | (simp; done))) | (apply look_miss; focus rfl))); done), trivial⟩, (by omega), rfl⟩
          first | omega | (simp only []; omega)
    · have hc1' := hc1
      (try simp only [decide_eq_true_eq, decide_eq_false_iff_not, beq_iff_eq, bne_iff_ne, Bool.not_eq_true', Bool.not_eq_false', Bool.not_eq_true, Bool.not_eq_false, beq_eq_false_iff_ne, ne_eq, bne_eq_false_iff_eq, Bool.and_eq_true, Bool.or_eq_true, Bool.not_not, Bool.and_eq_false_iff, Bool.or_eq_false_iff, Int.not_lt, Int.not_le] at hc1')
      have hie : i = queue.length := by omega
      refine CD.exit ?_
      refine CD.seq ?_
      refine CD.region ?_
      refine OD.still (wants_plain rfl) rfl (still_mv rfl ot) ?_
      refine OD.still (wants_plain rfl) rfl (still_as rfl ot) ?_
      refine OD.still (wants_plain rfl) rfl (still_as rfl opd_const) ?_
      refine OD.wk (Wk.as_ (n := 89) (l' := [(2, _), (3, _)]) (S' := [⟨b1, 25, 2, [_, _]⟩]) rfl rfl ⟨lk, lk, trivial⟩) ?_
      refine OD.nil ?_
      refine CD.ret ?_
      refine ⟨.inr rfl, _, [], List.nil_sublist _, ret_two Tryd.results24 (res_tmp (Nat.le_of_ble_eq_true rfl) lk) (res_tmp (Nat.le_of_ble_eq_true rfl) lk), ?_⟩
      exact ⟨by rw [hie]; rfl, rfl⟩

end Go.Proofs.YtcogdagfcndbfaaDoor.Lk

namespace Go.Proofs.YtcogdagfcndbfaaDoor.Lk
open Go.RowKit V
set_option linter.unusedVariables false
set_option linter.unusedSimpArgs false

def deadH : List L := [⟨1, ⟨#[97]⟩, 5⟩, ⟨2, ⟨#[98]⟩, 5⟩]
def deadQ : List L := [⟨1, ⟨#[98]⟩, 3⟩, ⟨2, ⟨#[97]⟩, 3⟩]
theorem dead_good : Good deadH deadQ := ⟨by decide, by decide, by decide +kernel, by decide +kernel⟩
theorem sort_one (x : Int) : compactL (sortL [x]) = [x] := by
  have : sortL [x] = [x] := by unfold sortL; simp
  rw [this]
  rfl
theorem dead_ws : waitsAll deadH deadQ = [[2], [1]] := by
  have h0 : waitsL deadH (deadQ.take 0) (deadQ.getD 0 ⟨0, ⟨#[]⟩, 0⟩) = [2] := by decide +kernel
  have h1 : waitsL deadH (deadQ.take 1) (deadQ.getD 1 ⟨0, ⟨#[]⟩, 0⟩) = [1] := by decide +kernel
  show [waitsN deadH deadQ 0, waitsN deadH deadQ 1] = _
  unfold waitsN
  rw [h0, h1, sort_one, sort_one]
theorem dead_vic : vicF deadH deadQ = 2 := by
  have h0 : waitsN deadH deadQ 0 = [2] := by have := all_at (held := deadH) (queue := deadQ) (i := 0) (by rw [dead_ws]; decide); rw [← this]; simp [dead_ws]
  have h1 : waitsN deadH deadQ 1 = [1] := by have := all_at (held := deadH) (queue := deadQ) (i := 1) (by rw [dead_ws]; decide); rw [← this]; simp [dead_ws]
  show vicUp deadH deadQ 2 = 2
  unfold vicUp vicUp
  rw [dead_ws, h0, h1]
  decide
theorem vic_bd {held queue : List L} (g : Good held queue) (h : vicF held queue ≠ 0) : 1 ≤ vicF held queue ∧ vicF held queue ≤ 1048576 ∧ ∃ q ∈ queue, q.t = vicF held queue := by
  obtain ⟨q, hq, he⟩ := (vic_waits held queue _ (Nat.le_refl _)).resolve_left h
  have hs : shapeF q = 0 := by obtain ⟨k, hk, rfl⟩ := List.mem_iff_getElem.1 hq; exact (g.atQ hk).1
  have := (shape_iff.1 hs).1
  rw [he] at this
  exact ⟨this.1, this.2, q, hq, he⟩
theorem any_end {q : List L} {v : Int} {k : Nat} (h : ∃ x ∈ q, x.t = v) (hk : k = q.length) : ((q.take k).any fun x => x.t == v) = true := by
  obtain ⟨x, h1, h2⟩ := h
  rw [hk, List.take_length]
  exact List.any_eq_true.2 ⟨x, h1, by simp [h2]⟩
theorem any_step {q : List L} {v : Int} {k : Nat} (hk : k < q.length) : (((q.take k).any fun x => x.t == v) || q[k].t == v) = ((q.take (k + 1)).any fun x => x.t == v) := by
  rw [List.take_succ_eq_append_getElem hk, List.any_append]; simp
theorem filter_pos {q : List L} {v : Int} (h : ∃ x ∈ q, x.t = v) : 0 < (q.filter (fun x => x.t == v)).length := by
  obtain ⟨x, h1, h2⟩ := h
  exact List.length_pos_iff.2 (List.ne_nil_of_mem (List.mem_filter.2 ⟨h1, by simp [h2]⟩))

theorem places25_Lks : ∀ w, ((#[{ name := "Held", type := 23, offset := 0, embedded := false, tag := "", pkgPath := "", byteOffset := 0 }, { name := "Queue", type := 23, offset := 1, embedded := false, tag := "", pkgPath := "", byteOffset := 24 }] : Array Field).mapM fun f => do pure (f.offset, ← sizeOf f.type) : Sem (Array (Nat × Nat))).run Tryd.prog w = .ok #[(0, 1), (1, 1)] w := fun w => by simp [Tryd.sizeOf23]

theorem places27_Lks : ∀ w, ((#[{ name := "Txn", type := 3, offset := 0, embedded := false, tag := "", pkgPath := "", byteOffset := 0 }, { name := "Thing", type := 9, offset := 1, embedded := false, tag := "", pkgPath := "", byteOffset := 8 }, { name := "Mode", type := 3, offset := 2, embedded := false, tag := "", pkgPath := "", byteOffset := 24 }] : Array Field).mapM fun f => do pure (f.offset, ← sizeOf f.type) : Sem (Array (Nat × Nat))).run Tryd.prog w = .ok #[(0, 1), (1, 1), (2, 1)] w := fun w => by simp [Tryd.sizeOf3, Tryd.sizeOf9]

set_option maxHeartbeats 4000000 in
set_option maxRecDepth 100000 in
theorem victims_vp (l : List W3) (hok : ∀ x ∈ l, x.Ok) : VP Tryd.prog TG 13 [.list 3 (l.flatMap cW) l.length] (.v (.bool true)) := by
  refine VC.body Tryd.func13 rfl Tryd.ntmps13 (Nat.le_of_ble_eq_true rfl) fun X0 w0 S00 => ?_
  obtain ⟨h0, q0, hl⟩ : ∃ h q, locksF l = (h, q) := ⟨_, _, rfl⟩
  have g0 := locksF_good l
  rw [hl] at g0
  replace g0 : Good h0 q0 := g0
  have hlk := locks_vp l hok
  rw [hl] at hlk
  dsimp only at hlk
  unfold locksS at hlk
  have few0 := g0.few
  obtain ⟨n, hn⟩ : ∃ n, q0.length = n := ⟨_, rfl⟩
  have hdv := victim_vp deadH deadQ dead_good (by decide)
  rw [dead_vic] at hdv
  unfold locksS at hdv
  refine CD.seq ?_
  refine CD.region ?_
  refine OD.still (wants_plain rfl) rfl (still_as rfl opd_const) ?_
  refine OD.wk (Wk.as_ (n := 94) (l' := [(0, _)]) (S' := []) rfl rfl ⟨lk, trivial⟩) ?_
  refine OD.nil ?_
  refine CD.seq ?_
  refine CD.region ?_
  refine OD.still (wants_plain rfl) rfl (still_mv rfl ot) ?_
  refine OD.callP (wants_plain rfl) rfl rfl rfl Tryd.call16 (hlk) ⟨ot, trivial⟩ ?_
  refine OD.alloc (ds := [_, _]) (wants_plain rfl) rfl rfl Tryd.zeroValue25 rfl (fun b3 => ?_)
  refine OD.store (k := 0) (cs' := [_, _]) (wants_plain rfl) rfl rfl ot rfl rfl ot rfl rfl Tryd.sizeOf25 rfl rfl rfl ?_
  refine OD.wk (Wk.as_ (n := 94) (l' := [(3, _)]) (S' := [⟨b3, 25, 2, [_, _]⟩]) rfl rfl ⟨lk, trivial⟩) ?_
  refine OD.nil ?_
  refine CD.seq ?_
  refine CD.region ?_
  refine OD.still (wants_plain rfl) rfl (still_r1 (mk := fun y => Op.fieldAddr 25 y 1) rfl ot (by first | exact fa_ptr (off := 1) Tryd.runUnderlying25 rfl Tryd.sizeOf23 rfl | exact fa_iptr (off := 1) Tryd.runUnderlying25 rfl Tryd.sizeOf23 rfl)) ?_
  refine OD.still (wants_plain rfl) rfl (still_r1 (mk := Op.load 23) rfl ot (by first | exact ld_blk (k := 0) rfl rfl Tryd.isAgg23 rfl | exact ld_fm cL_len Tryd.isAgg23 (by first | assumption | omega) rfl | exact ld_fm0 cL_len Tryd.isAgg23 (by first | assumption | omega) rfl | exact ld_row (k := 0) cL_len rfl rfl rfl Tryd.isAgg23 (by first | assumption | omega) rfl | exact ld_row0 (k := 0) cL_len rfl rfl rfl Tryd.isAgg23 (by first | assumption | omega) rfl | exact ld_i Tryd.isAgg23 rfl)) ?_
  refine OD.still (wants_plain rfl) rfl (still_r1 (mk := fun y => .call { callee := .builtin .len, args := #[y], argTypes := #[23] }) rfl ot (by first | exact len_list rfl Tryd.runUnderlying23 | exact len_row rfl Tryd.runUnderlying23)) ?_
  rw [hn]
  refine OD.still (wants_plain rfl) rfl (still_as rfl ot) ?_
  refine OD.wk (Wk.as_ (n := 94) (l' := [(3, _), (4, _)]) (S' := [⟨b3, 25, 2, [_, _]⟩]) rfl rfl ⟨lk, lk, trivial⟩) ?_
  refine OD.nil ?_
  refine CD.seq ?_
  refine CD.seq ?_
  refine CD.region ?_
  refine OD.still (wants_plain rfl) rfl (still_as rfl opd_const) ?_
  refine OD.wk (Wk.as_ (n := 94) (l' := [(3, _), (4, _), (5, _)]) (S' := [⟨b3, 25, 2, [_, _]⟩]) rfl rfl ⟨lk, lk, lk, trivial⟩) ?_
  refine OD.nil ?_
  refine CD.block ?_
  refine CD.wk (Wk.asS (n := 94) (l' := [(3, .v (.pointer (some ⟨b3, 0, none⟩))), (4, .v (.int .i64 (n : Nat))), (5, .v (.int .i64 ((0) : Nat)))]) (S' := [⟨b3, 25, 2, [locksD h0, locksD q0]⟩]) rfl (by repeat (first | exact List.Sublist.refl _ | apply List.Sublist.cons)) ⟨(by (repeat (first | exact look_hit | (apply look_at; focus (first | rfl | (simp; done) | (congr 2; omega))) | (apply look_miss; focus rfl))); done), (by (repeat (first | exact look_hit | (apply look_at; focus (first | rfl | (simp; done) | (congr 2; omega))) | (apply look_miss; focus rfl))); done), (by (repeat (first | exact look_hit | (apply look_at; focus (first | rfl | (simp; done) | (congr 2; omega))) | (apply look_miss; focus rfl))); done), trivial⟩) (CD.loop (fun (gh__ : Nat × List L × List L) y__ => match gh__ with | (i, h, q) => (Good h q) ∧ (q.length + i ≤ n) ∧ ((n = 0 ∧ i = 0) ∨ i < n) ∧ y__ = (⟨94, [(3, .v (.pointer (some ⟨b3, 0, none⟩))), (4, .v (.int .i64 (n : Nat))), (5, .v (.int .i64 (i : Nat)))], [⟨b3, 25, 2, [locksD h, locksD q]⟩]⟩ : St)) (fun (gh__ : Nat × List L × List L) => match gh__ with | (i, h, q) => n + 1 - i) (0, h0, q0) ⟨g0, (by omega), (by omega), rfl⟩ ?_)
  rintro ⟨i, h, q⟩ _ ⟨g, hqi, hin, rfl⟩
  refine CD.seq ?_
  refine CD.seq ?_
  refine CD.region ?_
  refine OD.still (wants_plain rfl) rfl (still_mv rfl ot) ?_
  refine OD.still (wants_plain rfl) rfl (still_mv rfl ot) ?_
  refine OD.still (wants_plain rfl) rfl (still_bin rfl ot ot bin_leq) ?_
  refine OD.wk (Wk.as_ (n := 94) (l' := [(3, _), (4, _), (5, _), (23, _)]) (S' := [⟨b3, 25, 2, [_, _]⟩]) rfl rfl ⟨lk, lk, lk, lk, trivial⟩) ?_
  refine OD.nil ?_
  refine CD.cond ot (fun hc0 => ?_) (fun hc0 => ?_)
  · have hc0' := hc0
    (try simp only [decide_eq_true_eq, decide_eq_false_iff_not, beq_iff_eq, bne_iff_ne, Bool.not_eq_true', Bool.not_eq_false', Bool.not_eq_true, Bool.not_eq_false, beq_eq_false_iff_ne, ne_eq, bne_eq_false_iff_eq, Bool.and_eq_true, Bool.or_eq_true, Bool.not_not, Bool.and_eq_false_iff, Bool.or_eq_false_iff, Int.not_lt, Int.not_le] at hc0')
    have few := g.few
    have hvp := victim_vp h q g g.modeQ
    unfold locksS at hvp
    refine CD.skip ?_
    refine CD.seq ?_
    refine CD.block ?_
    refine CD.seq ?_
    refine CD.region ?_
    refine OD.still (wants_plain rfl) rfl (still_r1 (mk := Op.load 25) rfl ot (by first | exact ld_blks (k := 0) (ds := [_, _]) rfl rfl Tryd.isAgg25 Tryd.sizeOf25 rfl rfl | exact ld_fms cL_len Tryd.isAgg25 Tryd.sizeOf25 (by first | assumption | omega) | exact ld_rows (k := 0) cL_len rfl rfl rfl Tryd.isAgg25 Tryd.sizeOf25 (by first | assumption | omega) | exact ld_is (ds := [_, _]) Tryd.isAgg25 Tryd.sizeOf25 rfl rfl)) ?_
    refine OD.callP (wants_plain rfl) rfl rfl rfl Tryd.call24 (hvp) ⟨ot, trivial⟩ ?_
    refine OD.still (wants_plain rfl) rfl (still_mv rfl ot) ?_
    refine OD.still (wants_plain rfl) rfl (still_extract rfl ot rfl) ?_
    refine OD.still (wants_plain rfl) rfl (still_extract rfl ot rfl) ?_
    refine OD.still (wants_plain rfl) rfl (still_as rfl ot) ?_
    refine OD.still (wants_plain rfl) rfl (still_as rfl ot) ?_
    refine OD.wk (Wk.as_ (n := 94) (l' := [(3, _), (4, _), (5, _), (6, _), (7, _)]) (S' := [⟨b3, 25, 2, [_, _]⟩]) rfl rfl ⟨lk, lk, lk, lk, lk, trivial⟩) ?_
    refine OD.nil ?_
    refine CD.seq ?_
    refine CD.seq ?_
    refine CD.region ?_
    refine OD.still (wants_plain rfl) rfl (still_mv rfl ot) ?_
    refine OD.still (wants_plain rfl) rfl (still_bin rfl ot opd_const bin_neq) ?_
    refine OD.wk (Wk.as_ (n := 94) (l' := [(3, _), (4, _), (5, _), (6, _), (32, _)]) (S' := [⟨b3, 25, 2, [_, _]⟩]) rfl rfl ⟨lk, lk, lk, lk, lk, trivial⟩) ?_
    refine OD.nil ?_
    refine CD.cond ot (fun hc1 => ?_) (fun hc1 => ?_)
    · exact absurd hc1 (by simp)
    · have hc1' := hc1
      (try simp only [decide_eq_true_eq, decide_eq_false_iff_not, beq_iff_eq, bne_iff_ne, Bool.not_eq_true', Bool.not_eq_false', Bool.not_eq_true, Bool.not_eq_false, beq_eq_false_iff_ne, ne_eq, bne_eq_false_iff_eq, Bool.and_eq_true, Bool.or_eq_true, Bool.not_not, Bool.and_eq_false_iff, Bool.or_eq_false_iff, Int.not_lt, Int.not_le] at hc1')
      refine CD.skip ?_
      refine CD.seq ?_
      refine CD.seq ?_
      refine CD.region ?_
      refine OD.still (wants_plain rfl) rfl (still_mv rfl ot) ?_
      refine OD.still (wants_plain rfl) rfl (still_bin rfl ot opd_const bin_eql) ?_
      refine OD.wk (Wk.as_ (n := 94) (l' := [(3, _), (4, _), (5, _), (6, _), (34, _)]) (S' := [⟨b3, 25, 2, [_, _]⟩]) rfl rfl ⟨lk, lk, lk, lk, lk, trivial⟩) ?_
      refine OD.nil ?_
      refine CD.cond ot (fun hc2 => ?_) (fun hc2 => ?_)
      · have hc2' := hc2
        (try simp only [decide_eq_true_eq, decide_eq_false_iff_not, beq_iff_eq, bne_iff_ne, Bool.not_eq_true', Bool.not_eq_false', Bool.not_eq_true, Bool.not_eq_false, beq_eq_false_iff_ne, ne_eq, bne_eq_false_iff_eq, Bool.and_eq_true, Bool.or_eq_true, Bool.not_not, Bool.and_eq_false_iff, Bool.or_eq_false_iff, Int.not_lt, Int.not_le] at hc2')
        have hv0 : (vicF h q) = 0 := by simpa using hc2
        refine CD.seq ?_
        refine CD.region ?_
        refine OD.still (wants_plain rfl) rfl (still_bld (pl := [(0, _), (1, _), (2, _)]) (ds := [_, _, _]) rfl Tryd.zeroValue27 Tryd.runUnderlying27 places27_Lks ⟨rfl, opd_const, rfl, opd_const, rfl, opd_const, trivial⟩ rfl rfl) ?_
        refine OD.still (wants_plain rfl) rfl (still_bld (pl := [(0, _), (1, _), (2, _)]) (ds := [_, _, _]) rfl Tryd.zeroValue27 Tryd.runUnderlying27 places27_Lks ⟨rfl, opd_const, rfl, opd_const, rfl, opd_const, trivial⟩ rfl rfl) ?_
        refine OD.bldS (pl := [(0, _), (1, _)]) (zvs := [.int .i64 0, .string ⟨#[]⟩, .int .i64 0, .int .i64 0, .string ⟨#[]⟩, .int .i64 0]) (ds := [_, _, _, _, _, _]) (wants_plain rfl) rfl rfl Tryd.zeroValue27 Tryd.runUnderlying23 Tryd.sizeOf27 rfl rfl (by kernel_rfl) ⟨rfl, ot, rfl, ot, trivial⟩ rfl rfl (fun b37 => ?_)
        refine OD.perm (perm_q11 (S1 := [⟨b37, 27, 2 * 3, List.flatMap cL (deadH)⟩]) (A := [_])) ?_
        refine OD.giveL (t := 37) (Sq := [⟨b37, 27, 2 * 3, List.flatMap cL (deadH)⟩]) lk (ownL_row (g := cL) (sz := 3) (e := 27) (ls := deadH) (Nat.le_refl _) (show 2 ≤ maxLen by decide)) (fm_len cL_len _) (perm_r11 (A := [_])) ?_
        refine OD.still (wants_plain rfl) rfl (still_bld (pl := [(0, _), (1, _), (2, _)]) (ds := [_, _, _]) rfl Tryd.zeroValue27 Tryd.runUnderlying27 places27_Lks ⟨rfl, opd_const, rfl, opd_const, rfl, opd_const, trivial⟩ rfl rfl) ?_
        refine OD.still (wants_plain rfl) rfl (still_bld (pl := [(0, _), (1, _), (2, _)]) (ds := [_, _, _]) rfl Tryd.zeroValue27 Tryd.runUnderlying27 places27_Lks ⟨rfl, opd_const, rfl, opd_const, rfl, opd_const, trivial⟩ rfl rfl) ?_
        refine OD.bldS (pl := [(0, _), (1, _)]) (zvs := [.int .i64 0, .string ⟨#[]⟩, .int .i64 0, .int .i64 0, .string ⟨#[]⟩, .int .i64 0]) (ds := [_, _, _, _, _, _]) (wants_plain rfl) rfl rfl Tryd.zeroValue27 Tryd.runUnderlying23 Tryd.sizeOf27 rfl rfl (by kernel_rfl) ⟨rfl, ot, rfl, ot, trivial⟩ rfl rfl (fun b40 => ?_)
        refine OD.perm (perm_q11 (S1 := [⟨b40, 27, 2 * 3, List.flatMap cL (deadQ)⟩]) (A := [_])) ?_
        refine OD.giveL (t := 40) (Sq := [⟨b40, 27, 2 * 3, List.flatMap cL (deadQ)⟩]) lk (ownL_row (g := cL) (sz := 3) (e := 27) (ls := deadQ) (Nat.le_refl _) (show 2 ≤ maxLen by decide)) (fm_len cL_len _) (perm_r11 (A := [_])) ?_
        refine OD.still (wants_plain rfl) rfl (still_bld (pl := [(0, _), (1, _)]) (ds := [_, _]) rfl Tryd.zeroValue25 Tryd.runUnderlying25 places25_Lks ⟨rfl, ot, rfl, ot, trivial⟩ rfl rfl) ?_
        refine OD.alloc (ds := [_, _]) (wants_plain rfl) rfl rfl Tryd.zeroValue25 rfl (fun b8 => ?_)
        refine OD.store (k := 0) (cs' := [_, _]) (wants_plain rfl) rfl rfl ot rfl rfl ot rfl rfl Tryd.sizeOf25 rfl rfl rfl ?_
        refine OD.wk (Wk.as_ (n := 94) (l' := [(4, _), (5, _), (8, _)]) (S' := [⟨b8, 25, 2, [_, _]⟩, ⟨b3, 25, 2, [_, _]⟩]) rfl rfl ⟨lk, lk, lk, trivial⟩) ?_
        refine OD.nil ?_
        refine CD.seq ?_
        refine CD.region ?_
        refine OD.still (wants_plain rfl) rfl (still_r1 (mk := Op.load 25) rfl ot (by first | exact ld_blks (k := 0) (ds := [_, _]) rfl rfl Tryd.isAgg25 Tryd.sizeOf25 rfl rfl | exact ld_fms cL_len Tryd.isAgg25 Tryd.sizeOf25 (by first | assumption | omega) | exact ld_rows (k := 0) cL_len rfl rfl rfl Tryd.isAgg25 Tryd.sizeOf25 (by first | assumption | omega) | exact ld_rows (k := 1) cL_len rfl rfl rfl Tryd.isAgg25 Tryd.sizeOf25 (by first | assumption | omega) | exact ld_is (ds := [_, _]) Tryd.isAgg25 Tryd.sizeOf25 rfl rfl)) ?_
        refine OD.callP (wants_plain rfl) rfl rfl rfl Tryd.call24 (hdv) ⟨ot, trivial⟩ ?_
        refine OD.still (wants_plain rfl) rfl (still_mv rfl ot) ?_
        refine OD.still (wants_plain rfl) rfl (still_extract rfl ot rfl) ?_
        refine OD.still (wants_plain rfl) rfl (still_extract rfl ot rfl) ?_
        refine OD.still (wants_plain rfl) rfl (still_as rfl ot) ?_
        refine OD.still (wants_plain rfl) rfl (still_as rfl ot) ?_
        refine OD.wk (Wk.as_ (n := 94) (l' := [(4, _), (5, _), (9, _), (10, _)]) (S' := [⟨b8, 25, 2, [_, _]⟩, ⟨b3, 25, 2, [_, _]⟩]) rfl rfl ⟨lk, lk, lk, lk, trivial⟩) ?_
        refine OD.nil ?_
        refine CD.seq ?_
        refine CD.region ?_
        refine OD.still (wants_plain rfl) rfl (still_mv rfl ot) ?_
        refine OD.still (wants_plain rfl) rfl (still_bin rfl ot opd_const bin_eql) ?_
        refine OD.still (wants_plain rfl) rfl (still_mv rfl ot) ?_
        refine OD.split (t := 49) lk (fun hg49 => ?_) (fun hg49 => ?_)
        · have hg49' := hg49; (try simp only [decide_eq_true_eq, decide_eq_false_iff_not, beq_iff_eq, bne_iff_ne, Bool.not_eq_true', Bool.not_eq_false', Bool.not_eq_true, Bool.not_eq_false, beq_eq_false_iff_ne, ne_eq, bne_eq_false_iff_eq, Bool.and_eq_true, Bool.or_eq_true, Bool.not_not] at hg49')
          refine OD.still (wants_T rfl rfl rfl lk (by first | rfl | assumption)) rfl (still_mv rfl ot) ?_
          refine OD.still (wants_T rfl rfl rfl lk (by first | rfl | assumption)) rfl (still_bin rfl ot opd_const bin_eql) ?_
          refine OD.still (wants_plain rfl) rfl (still_pickT rfl ot (by first | rfl | assumption) ot) ?_
          refine OD.still (wants_plain rfl) rfl (still_mv rfl ot) ?_
          refine OD.split (t := 53) lk (fun hg53 => ?_) (fun hg53 => ?_)
          · have hg53' := hg53; (try simp only [decide_eq_true_eq, decide_eq_false_iff_not, beq_iff_eq, bne_iff_ne, Bool.not_eq_true', Bool.not_eq_false', Bool.not_eq_true, Bool.not_eq_false, beq_eq_false_iff_ne, ne_eq, bne_eq_false_iff_eq, Bool.and_eq_true, Bool.or_eq_true, Bool.not_not] at hg53')
            refine OD.still (wants_T rfl rfl rfl lk (by first | rfl | assumption)) rfl (still_mv rfl ot) ?_
            refine OD.still (wants_T rfl rfl rfl lk (by first | rfl | assumption)) rfl (still_mv rfl ot) ?_
            refine OD.still (wants_T rfl rfl rfl lk (by first | rfl | assumption)) rfl (still_bin rfl ot ot bin_lss) ?_
            refine OD.still (wants_T rfl rfl rfl lk (by first | rfl | assumption)) rfl (still_mv rfl ot) ?_
            refine OD.split (t := 57) lk (fun hg57 => ?_) (fun hg57 => ?_)
            · have hg57' := hg57; (try simp only [decide_eq_true_eq, decide_eq_false_iff_not, beq_iff_eq, bne_iff_ne, Bool.not_eq_true', Bool.not_eq_false', Bool.not_eq_true, Bool.not_eq_false, beq_eq_false_iff_ne, ne_eq, bne_eq_false_iff_eq, Bool.and_eq_true, Bool.or_eq_true, Bool.not_not] at hg57')
              refine OD.skip (wants_F rfl rfl rfl lk (by first | rfl | assumption)) rfl ?_
              refine OD.skip (wants_F rfl rfl rfl lk (by first | rfl | assumption)) rfl ?_
              refine OD.still (wants_T rfl rfl rfl lk (by first | rfl | assumption)) rfl (still_pickT rfl ot (by first | rfl | assumption) opd_const) ?_
              refine OD.still (wants_plain rfl) rfl (still_pickT rfl ot (by first | rfl | assumption) ot) ?_
              refine OD.still (wants_plain rfl) rfl (still_as rfl ot) ?_
              refine OD.wk (Wk.as_ (n := 94) (l' := [(2, _)]) (S' := [⟨b8, 25, 2, [_, _]⟩, ⟨b3, 25, 2, [_, _]⟩]) rfl rfl ⟨lk, trivial⟩) ?_
              refine OD.nil ?_
              refine CD.ret ?_
              refine ⟨.inr rfl, _, [], List.nil_sublist _, ret_one Tryd.results13 (res_tmp (Nat.le_of_ble_eq_true rfl) lk), ?_⟩
              exact ⟨by first | rfl | (simp; omega) | (simp [*]; done) | (simp [*]; omega), rfl⟩
            · have hg57' := hg57; (try simp only [decide_eq_true_eq, decide_eq_false_iff_not, beq_iff_eq, bne_iff_ne, Bool.not_eq_true', Bool.not_eq_false', Bool.not_eq_true, Bool.not_eq_false, beq_eq_false_iff_ne, ne_eq, bne_eq_false_iff_eq, Bool.and_eq_true, Bool.or_eq_true, Bool.not_not] at hg57')
              refine OD.still (wants_T rfl rfl rfl lk (by first | rfl | assumption)) rfl (still_mv rfl ot) ?_
              refine OD.still (wants_T rfl rfl rfl lk (by first | rfl | assumption)) rfl (still_bin rfl ot opd_const bin_eql) ?_
              refine OD.still (wants_T rfl rfl rfl lk (by first | rfl | assumption)) rfl (still_pickF rfl ot (by first | rfl | assumption) ot) ?_
              refine OD.still (wants_plain rfl) rfl (still_pickT rfl ot (by first | rfl | assumption) ot) ?_
              refine OD.still (wants_plain rfl) rfl (still_as rfl ot) ?_
              refine OD.wk (Wk.as_ (n := 94) (l' := [(2, _)]) (S' := [⟨b8, 25, 2, [_, _]⟩, ⟨b3, 25, 2, [_, _]⟩]) rfl rfl ⟨lk, trivial⟩) ?_
              refine OD.nil ?_
              refine CD.ret ?_
              refine ⟨.inr rfl, _, [], List.nil_sublist _, ret_one Tryd.results13 (res_tmp (Nat.le_of_ble_eq_true rfl) lk), ?_⟩
              exact ⟨by first | rfl | (simp; omega) | (simp [*]; done) | (simp [*]; omega), rfl⟩
          · exact absurd hg53 (by simp)
        · exact absurd hg49 (by simp)
      · have hc2' := hc2
        (try simp only [decide_eq_true_eq, decide_eq_false_iff_not, beq_iff_eq, bne_iff_ne, Bool.not_eq_true', Bool.not_eq_false', Bool.not_eq_true, Bool.not_eq_false, beq_eq_false_iff_ne, ne_eq, bne_eq_false_iff_eq, Bool.and_eq_true, Bool.or_eq_true, Bool.not_not, Bool.and_eq_false_iff, Bool.or_eq_false_iff, Int.not_lt, Int.not_le] at hc2')
        have hv0 : (vicF h q) ≠ 0 := by simpa using hc2
        obtain ⟨hv1, hv2, hv3⟩ := vic_bd g hv0
        have hlen : 2 ≤ q.length := by (rcases Nat.lt_or_ge q.length 2 with h9 | h9; exact absurd (vic_one g g.mode (by omega)) hv0; exact h9)
        obtain ⟨h', q', ws, hlv, _, _, hcnt⟩ := leave_told g hv1 hv2
        have hfp := filter_pos hv3
        have hlvp := leave_vp g hlv
        unfold locksS at hlvp
        refine CD.skip ?_
        refine CD.seq ?_
        refine CD.region ?_
        refine OD.still (wants_plain rfl) rfl (still_as rfl opd_const) ?_
        refine OD.wk (Wk.as_ (n := 94) (l' := [(3, _), (4, _), (5, _), (6, _), (11, _)]) (S' := [⟨b3, 25, 2, [_, _]⟩]) rfl rfl ⟨lk, lk, lk, lk, lk, trivial⟩) ?_
        refine OD.nil ?_
        refine CD.seq ?_
        refine CD.seq ?_
        refine CD.region ?_
        refine OD.still (wants_plain rfl) rfl (still_as rfl opd_const) ?_
        refine OD.wk (Wk.as_ (n := 94) (l' := [(3, _), (4, _), (5, _), (6, _), (11, _), (12, _)]) (S' := [⟨b3, 25, 2, [_, _]⟩]) rfl rfl ⟨lk, lk, lk, lk, lk, lk, trivial⟩) ?_
        refine OD.nil ?_
        refine CD.block ?_
        refine CD.wk (Wk.asS (n := 94) (l' := [(3, .v (.pointer (some ⟨b3, 0, none⟩))), (4, .v (.int .i64 (n : Nat))), (5, .v (.int .i64 (i : Nat))), (6, .v (.int .i64 (vicF h q))), (11, .v (.bool ((q.take (0)).any fun x => x.t == (vicF h q)))), (12, .v (.int .i64 ((0) : Nat)))]) (S' := [⟨b3, 25, 2, [locksD h, locksD q]⟩]) rfl (by repeat (first | exact List.Sublist.refl _ | apply List.Sublist.cons)) ⟨(by (repeat (first | exact look_hit | (apply look_at; focus (first | rfl | (congr 2; omega) | (refine vb ?_; rw [← any_step hkl]; simp_all; done) | (simp; done))) | (apply look_miss; focus rfl))); done), (by (repeat (first | exact look_hit | (apply look_at; focus (first | rfl | (congr 2; omega) | (refine vb ?_; rw [← any_step hkl]; simp_all; done) | (simp; done))) | (apply look_miss; focus rfl))); done), (by (repeat (first | exact look_hit | (apply look_at; focus (first | rfl | (congr 2; omega) | (refine vb ?_; rw [← any_step hkl]; simp_all; done) | (simp; done))) | (apply look_miss; focus rfl))); done), (by (repeat (first | exact look_hit | (apply look_at; focus (first | rfl | (congr 2; omega) | (refine vb ?_; rw [← any_step hkl]; simp_all; done) | (simp; done))) | (apply look_miss; focus rfl))); done), (by (repeat (first | exact look_hit | (apply look_at; focus (first | rfl | (congr 2; omega) | (refine vb ?_; rw [← any_step hkl]; simp_all; done) | (simp; done))) | (apply look_miss; focus rfl))); done), (by (repeat (first | exact look_hit | (apply look_at; focus (first | rfl | (congr 2; omega) | (refine vb ?_; rw [← any_step hkl]; simp_all; done) | (simp; done))) | (apply look_miss; focus rfl))); done), trivial⟩) (CD.loop (fun (k : Nat) y__ => (k ≤ q.length) ∧ y__ = (⟨94, [(3, .v (.pointer (some ⟨b3, 0, none⟩))), (4, .v (.int .i64 (n : Nat))), (5, .v (.int .i64 (i : Nat))), (6, .v (.int .i64 (vicF h q))), (11, .v (.bool ((q.take k).any fun x => x.t == (vicF h q)))), (12, .v (.int .i64 (k : Nat)))], [⟨b3, 25, 2, [locksD h, locksD q]⟩]⟩ : St)) (fun (k : Nat) => q.length - k) 0 ⟨(Nat.zero_le _), rfl⟩ ?_)
        rintro k _ ⟨hk, rfl⟩
        refine CD.seq ?_
        refine CD.seq ?_
        refine CD.region ?_
        refine OD.still (wants_plain rfl) rfl (still_mv rfl ot) ?_
        refine OD.still (wants_plain rfl) rfl (still_r1 (mk := fun y => Op.fieldAddr 25 y 1) rfl ot (by first | exact fa_ptr (off := 1) Tryd.runUnderlying25 rfl Tryd.sizeOf23 rfl | exact fa_iptr (off := 1) Tryd.runUnderlying25 rfl Tryd.sizeOf23 rfl)) ?_
        refine OD.still (wants_plain rfl) rfl (still_r1 (mk := Op.load 23) rfl ot (by first | exact ld_blk (k := 0) rfl rfl Tryd.isAgg23 rfl | exact ld_fm cL_len Tryd.isAgg23 (by first | assumption | omega) rfl | exact ld_fm0 cL_len Tryd.isAgg23 (by first | assumption | omega) rfl | exact ld_row (k := 0) cL_len rfl rfl rfl Tryd.isAgg23 (by first | assumption | omega) rfl | exact ld_row0 (k := 0) cL_len rfl rfl rfl Tryd.isAgg23 (by first | assumption | omega) rfl | exact ld_i Tryd.isAgg23 rfl)) ?_
        refine OD.still (wants_plain rfl) rfl (still_r1 (mk := fun y => .call { callee := .builtin .len, args := #[y], argTypes := #[23] }) rfl ot (by first | exact len_list rfl Tryd.runUnderlying23 | exact len_row rfl Tryd.runUnderlying23)) ?_
        refine OD.still (wants_plain rfl) rfl (still_bin rfl ot ot bin_lss) ?_
        refine OD.wk (Wk.as_ (n := 94) (l' := [(3, _), (4, _), (5, _), (6, _), (11, _), (12, _), (66, _)]) (S' := [⟨b3, 25, 2, [_, _]⟩]) rfl rfl ⟨lk, lk, lk, lk, lk, lk, lk, trivial⟩) ?_
        refine OD.nil ?_
        refine CD.cond ot (fun hc3 => ?_) (fun hc3 => ?_)
        · have hc3' := hc3
          (try simp only [decide_eq_true_eq, decide_eq_false_iff_not, beq_iff_eq, bne_iff_ne, Bool.not_eq_true', Bool.not_eq_false', Bool.not_eq_true, Bool.not_eq_false, beq_eq_false_iff_ne, ne_eq, bne_eq_false_iff_eq, Bool.and_eq_true, Bool.or_eq_true, Bool.not_not, Bool.and_eq_false_iff, Bool.or_eq_false_iff, Int.not_lt, Int.not_le] at hc3')
          have hkl : k < q.length := by omega
          refine CD.skip ?_
          refine CD.seq ?_
          refine CD.block ?_
          refine CD.region ?_
          refine OD.still (wants_plain rfl) rfl (still_mv rfl ot) ?_
          refine OD.still (wants_plain rfl) rfl (still_mv rfl ot) ?_
          refine OD.split (t := 70) lk (fun hg70 => ?_) (fun hg70 => ?_)
          · have hg70' := hg70; (try simp only [decide_eq_true_eq, decide_eq_false_iff_not, beq_iff_eq, bne_iff_ne, Bool.not_eq_true', Bool.not_eq_false', Bool.not_eq_true, Bool.not_eq_false, beq_eq_false_iff_ne, ne_eq, bne_eq_false_iff_eq, Bool.and_eq_true, Bool.or_eq_true, Bool.not_not] at hg70')
            refine OD.skip (wants_F rfl rfl rfl lk (by first | rfl | assumption)) rfl ?_
            refine OD.skip (wants_F rfl rfl rfl lk (by first | rfl | assumption)) rfl ?_
            refine OD.skip (wants_F rfl rfl rfl lk (by first | rfl | assumption)) rfl ?_
            refine OD.skip (wants_F rfl rfl rfl lk (by first | rfl | assumption)) rfl ?_
            refine OD.skip (wants_F rfl rfl rfl lk (by first | rfl | assumption)) rfl ?_
            refine OD.skip (wants_F rfl rfl rfl lk (by first | rfl | assumption)) rfl ?_
            refine OD.skip (wants_F rfl rfl rfl lk (by first | rfl | assumption)) rfl ?_
            refine OD.skip (wants_F rfl rfl rfl lk (by first | rfl | assumption)) rfl ?_
            refine OD.still (wants_plain rfl) rfl (still_pickT rfl ot (by first | rfl | assumption) opd_const) ?_
            refine OD.still (wants_plain rfl) rfl (still_as rfl ot) ?_
            refine OD.wk (Wk.as_ (n := 94) (l' := [(3, _), (4, _), (5, _), (6, _), (11, _), (12, _)]) (S' := [⟨b3, 25, 2, [_, _]⟩]) rfl rfl ⟨lk, lk, lk, lk, lk, lk, trivial⟩) ?_
            refine OD.nil ?_
            refine CD.region ?_
            refine OD.still (wants_plain rfl) rfl (still_mv rfl ot) ?_
            refine OD.still (wants_plain rfl) rfl (still_bin rfl ot opd_const (bin_add (wrap_i64 (by omega) (by omega)))) ?_
            refine OD.still (wants_plain rfl) rfl (still_as rfl ot) ?_
            refine OD.wk (Wk.as_ (n := 94) (l' := [(3, _), (4, _), (5, _), (6, _), (11, _), (12, _)]) (S' := [⟨b3, 25, 2, [_, _]⟩]) rfl rfl ⟨lk, lk, lk, lk, lk, lk, trivial⟩) ?_
            refine OD.nil ?_
            refine ⟨(k + 1), ⟨94, [(3, .v (.pointer (some ⟨b3, 0, none⟩))), (4, .v (.int .i64 (n : Nat))), (5, .v (.int .i64 (i : Nat))), (6, .v (.int .i64 (vicF h q))), (11, .v (.bool ((q.take ((k + 1))).any fun x => x.t == (vicF h q)))), (12, .v (.int .i64 (((k + 1)) : Nat)))], [⟨b3, 25, 2, [locksD h, locksD q]⟩]⟩, ?_, Wk.asS (n := 94) rfl (by repeat (first | exact List.Sublist.refl _ | apply List.Sublist.cons)) ⟨(by (repeat (first | exact look_hit | (apply look_at; focus (first | rfl | (congr 2; omega) | (refine vb ?_; rw [← any_step hkl]; simp_all; done) | (simp; done))) | (apply look_miss; focus rfl))); done), (by (repeat (first | exact look_hit | (apply look_at; focus (first | rfl | (congr 2; omega) | (refine vb ?_; rw [← any_step hkl]; simp_all; done) | (simp; done))) | (apply look_miss; focus rfl))); done), (by (repeat (first | exact look_hit | (apply look_at; focus (first | rfl | (congr 2; omega) | (refine vb ?_; rw [← any_step hkl]; simp_all; done) | (simp; done))) | (apply look_miss; focus rfl))); done), (by (repeat (first | exact look_hit | (apply look_at; focus (first | rfl | (congr 2; omega) | (refine vb ?_; rw [← any_step hkl]; simp_all; done) | (simp; done))) | (apply look_miss; focus rfl))); done), (by (repeat (first | exact look_hit | (apply look_at; focus (first | rfl | (congr 2; omega) | (refine vb ?_; rw [← any_step hkl]; simp_all; done) | (simp; done))) | (apply look_miss; focus rfl))); done), (by (repeat (first | exact look_hit | (apply look_at; focus (first | rfl | (congr 2; omega) | (refine vb ?_; rw [← any_step hkl]; simp_all; done) | (simp; done))) | (apply look_miss; focus rfl))); done), trivial⟩, (by omega), rfl⟩
            first | omega | (simp only []; omega)
          · have hg70' := hg70; (try simp only [decide_eq_true_eq, decide_eq_false_iff_not, beq_iff_eq, bne_iff_ne, Bool.not_eq_true', Bool.not_eq_false', Bool.not_eq_true, Bool.not_eq_false, beq_eq_false_iff_ne, ne_eq, bne_eq_false_iff_eq, Bool.and_eq_true, Bool.or_eq_true, Bool.not_not] at hg70')
            refine OD.still (wants_T rfl rfl rfl lk (by first | rfl | assumption)) rfl (still_r1 (mk := fun y => Op.fieldAddr 25 y 1) rfl ot (by first | exact fa_ptr (off := 1) Tryd.runUnderlying25 rfl Tryd.sizeOf23 rfl | exact fa_iptr (off := 1) Tryd.runUnderlying25 rfl Tryd.sizeOf23 rfl)) ?_
            refine OD.still (wants_T rfl rfl rfl lk (by first | rfl | assumption)) rfl (still_r1 (mk := Op.load 23) rfl ot (by first | exact ld_blk (k := 0) rfl rfl Tryd.isAgg23 rfl | exact ld_fm cL_len Tryd.isAgg23 (by first | assumption | omega) rfl | exact ld_fm0 cL_len Tryd.isAgg23 (by first | assumption | omega) rfl | exact ld_row (k := 0) cL_len rfl rfl rfl Tryd.isAgg23 (by first | assumption | omega) rfl | exact ld_row0 (k := 0) cL_len rfl rfl rfl Tryd.isAgg23 (by first | assumption | omega) rfl | exact ld_i Tryd.isAgg23 rfl)) ?_
            refine OD.still (wants_T rfl rfl rfl lk (by first | rfl | assumption)) rfl (still_mv rfl ot) ?_
            refine OD.still (wants_T rfl rfl rfl lk (by first | rfl | assumption)) rfl (still_r2 (mk := Op.indexAddr 23) rfl ot ot (by first | exact ix_list Tryd.runUnderlying23 Tryd.sizeOf27 rfl (by first | assumption | omega) | exact ix_list (j := Int.toNat _) Tryd.runUnderlying23 Tryd.sizeOf27 (Int.toNat_of_nonneg (by omega)).symm (by omega) | exact ix_row Tryd.runUnderlying23 Tryd.sizeOf27 rfl (by first | assumption | omega) | exact ix_row (j := Int.toNat _) Tryd.runUnderlying23 Tryd.sizeOf27 (Int.toNat_of_nonneg (by omega)).symm (by omega))) ?_
            refine OD.still (wants_T rfl rfl rfl lk (by first | rfl | assumption)) rfl (still_r1 (mk := fun y => Op.fieldAddr 27 y 0) rfl ot (by first | exact fa_ptr (off := 0) Tryd.runUnderlying27 rfl Tryd.sizeOf3 rfl | exact fa_iptr (off := 0) Tryd.runUnderlying27 rfl Tryd.sizeOf3 rfl)) ?_
            refine OD.still (wants_T rfl rfl rfl lk (by first | rfl | assumption)) rfl (still_r1 (mk := Op.load 3) rfl ot (by first | exact ld_blk (k := 0) rfl rfl Tryd.isAgg3 rfl | exact ld_fm cL_len Tryd.isAgg3 (by first | assumption | omega) rfl | exact ld_fm0 cL_len Tryd.isAgg3 (by first | assumption | omega) rfl | exact ld_row (k := 0) cL_len rfl rfl rfl Tryd.isAgg3 (by first | assumption | omega) rfl | exact ld_row0 (k := 0) cL_len rfl rfl rfl Tryd.isAgg3 (by first | assumption | omega) rfl | exact ld_i Tryd.isAgg3 rfl)) ?_
            refine OD.still (wants_T rfl rfl rfl lk (by first | rfl | assumption)) rfl (still_mv rfl ot) ?_
            refine OD.still (wants_T rfl rfl rfl lk (by first | rfl | assumption)) rfl (still_bin rfl ot ot bin_eql) ?_
            refine OD.still (wants_plain rfl) rfl (still_pickF rfl ot (by first | rfl | assumption) ot) ?_
            refine OD.still (wants_plain rfl) rfl (still_as rfl ot) ?_
            refine OD.wk (Wk.as_ (n := 94) (l' := [(3, _), (4, _), (5, _), (6, _), (11, _), (12, _)]) (S' := [⟨b3, 25, 2, [_, _]⟩]) rfl rfl ⟨lk, lk, lk, lk, lk, lk, trivial⟩) ?_
            refine OD.nil ?_
            refine CD.region ?_
            refine OD.still (wants_plain rfl) rfl (still_mv rfl ot) ?_
            refine OD.still (wants_plain rfl) rfl (still_bin rfl ot opd_const (bin_add (wrap_i64 (by omega) (by omega)))) ?_
            refine OD.still (wants_plain rfl) rfl (still_as rfl ot) ?_
            refine OD.wk (Wk.as_ (n := 94) (l' := [(3, _), (4, _), (5, _), (6, _), (11, _), (12, _)]) (S' := [⟨b3, 25, 2, [_, _]⟩]) rfl rfl ⟨lk, lk, lk, lk, lk, lk, trivial⟩) ?_
            refine OD.nil ?_
            refine ⟨(k + 1), ⟨94, [(3, .v (.pointer (some ⟨b3, 0, none⟩))), (4, .v (.int .i64 (n : Nat))), (5, .v (.int .i64 (i : Nat))), (6, .v (.int .i64 (vicF h q))), (11, .v (.bool ((q.take ((k + 1))).any fun x => x.t == (vicF h q)))), (12, .v (.int .i64 (((k + 1)) : Nat)))], [⟨b3, 25, 2, [locksD h, locksD q]⟩]⟩, ?_, Wk.asS (n := 94) rfl (by repeat (first | exact List.Sublist.refl _ | apply List.Sublist.cons)) ⟨(by (repeat (first | exact look_hit | (apply look_at; focus (first | rfl | (congr 2; omega) | (refine vb ?_; rw [← any_step hkl]; simp_all; done) | (simp; done))) | (apply look_miss; focus rfl))); done), (by (repeat (first | exact look_hit | (apply look_at; focus (first | rfl | (congr 2; omega) | (refine vb ?_; rw [← any_step hkl]; simp_all; done) | (simp; done))) | (apply look_miss; focus rfl))); done), (by (repeat (first | exact look_hit | (apply look_at; focus (first | rfl | (congr 2; omega) | (refine vb ?_; rw [← any_step hkl]; simp_all; done) | (simp; done))) | (apply look_miss; focus rfl))); done), (by (repeat (first | exact look_hit | (apply look_at; focus (first | rfl | (congr 2; omega) | (refine vb ?_; rw [← any_step hkl]; simp_all; done) | (simp; done))) | (apply look_miss; focus rfl))); done), (by (repeat (first | exact look_hit | (apply look_at; focus (first | rfl | (congr 2; omega) | (refine vb ?_; rw [← any_step hkl]; simp_all; done) | (simp; done))) | (apply look_miss; focus rfl))); done), (by (repeat (first | exact look_hit | (apply look_at; focus (first | rfl | (congr 2; omega) | (refine vb ?_; rw [← any_step hkl]; simp_all; done) | (simp; done))) | (apply look_miss; focus rfl))); done), trivial⟩, (by omega), rfl⟩
            first | omega | (simp only []; omega)
        · have hc3' := hc3
          (try simp only [decide_eq_true_eq, decide_eq_false_iff_not, beq_iff_eq, bne_iff_ne, Bool.not_eq_true', Bool.not_eq_false', Bool.not_eq_true, Bool.not_eq_false, beq_eq_false_iff_ne, ne_eq, bne_eq_false_iff_eq, Bool.and_eq_true, Bool.or_eq_true, Bool.not_not, Bool.and_eq_false_iff, Bool.or_eq_false_iff, Int.not_lt, Int.not_le] at hc3')
          have hae := any_end hv3 (show k = q.length by omega)
          refine CD.exit ?_
          refine CD.seq ?_
          refine CD.region ?_
          refine OD.still (wants_plain rfl) rfl (still_r1 (mk := Op.load 25) rfl ot (by first | exact ld_blks (k := 0) (ds := [_, _]) rfl rfl Tryd.isAgg25 Tryd.sizeOf25 rfl rfl | exact ld_fms cL_len Tryd.isAgg25 Tryd.sizeOf25 (by first | assumption | omega) | exact ld_rows (k := 0) cL_len rfl rfl rfl Tryd.isAgg25 Tryd.sizeOf25 (by first | assumption | omega) | exact ld_is (ds := [_, _]) Tryd.isAgg25 Tryd.sizeOf25 rfl rfl)) ?_
          refine OD.still (wants_plain rfl) rfl (still_mv rfl ot) ?_
          refine OD.callP (wants_plain rfl) rfl rfl rfl Tryd.call17 (hlvp) ⟨ot, ot, trivial⟩ ?_
          refine OD.still (wants_plain rfl) rfl (still_mv rfl ot) ?_
          refine OD.still (wants_plain rfl) rfl (still_extract rfl ot rfl) ?_
          refine OD.still (wants_plain rfl) rfl (still_extract rfl ot rfl) ?_
          refine OD.still (wants_plain rfl) rfl (still_extract rfl ot rfl) ?_
          refine OD.alloc (ds := [_, _]) (wants_plain rfl) rfl rfl Tryd.zeroValue25 rfl (fun b13 => ?_)
          refine OD.store (k := 0) (cs' := [_, _]) (wants_plain rfl) rfl rfl ot rfl rfl ot rfl rfl Tryd.sizeOf25 rfl rfl rfl ?_
          refine OD.still (wants_plain rfl) rfl (still_as rfl ot) ?_
          refine OD.still (wants_plain rfl) rfl (still_as rfl ot) ?_
          refine OD.wk (Wk.as_ (n := 94) (l' := [(3, _), (4, _), (5, _), (11, _), (13, _), (15, _)]) (S' := [⟨b13, 25, 2, [_, _]⟩, ⟨b3, 25, 2, [_, _]⟩]) rfl rfl ⟨lk, lk, lk, lk, lk, lk, trivial⟩) ?_
          refine OD.nil ?_
          refine CD.seq ?_
          refine CD.seq ?_
          refine CD.region ?_
          refine OD.still (wants_plain rfl) rfl (still_mv rfl ot) ?_
          refine OD.still (wants_plain rfl) rfl (still_bin rfl ot opd_const bin_neq) ?_
          refine OD.still (wants_plain rfl) rfl (still_mv rfl ot) ?_
          refine OD.split (t := 89) lk (fun hg89 => ?_) (fun hg89 => ?_)
          · exact absurd hg89 (by simp)
          · have hg89' := hg89; (try simp only [decide_eq_true_eq, decide_eq_false_iff_not, beq_iff_eq, bne_iff_ne, Bool.not_eq_true', Bool.not_eq_false', Bool.not_eq_true, Bool.not_eq_false, beq_eq_false_iff_ne, ne_eq, bne_eq_false_iff_eq, Bool.and_eq_true, Bool.or_eq_true, Bool.not_not] at hg89')
            refine OD.still (wants_T rfl rfl rfl lk (by first | rfl | assumption)) rfl (still_mv rfl ot) ?_
            refine OD.still (wants_T rfl rfl rfl lk (by first | rfl | assumption)) rfl (still_un rfl ot un_not) ?_
            refine OD.still (wants_plain rfl) rfl (still_pickF rfl ot (by first | rfl | assumption) ot) ?_
            refine OD.wk (Wk.as_ (n := 94) (l' := [(3, _), (4, _), (5, _), (13, _), (92, _)]) (S' := [⟨b13, 25, 2, [_, _]⟩, ⟨b3, 25, 2, [_, _]⟩]) rfl rfl ⟨lk, lk, lk, lk, lk, trivial⟩) ?_
            refine OD.nil ?_
            refine CD.cond ot (fun hc4 => ?_) (fun hc4 => ?_)
            · exact absurd hc4 (by simp [hae])
            · have hc4' := hc4
              (try simp only [decide_eq_true_eq, decide_eq_false_iff_not, beq_iff_eq, bne_iff_ne, Bool.not_eq_true', Bool.not_eq_false', Bool.not_eq_true, Bool.not_eq_false, beq_eq_false_iff_ne, ne_eq, bne_eq_false_iff_eq, Bool.and_eq_true, Bool.or_eq_true, Bool.not_not, Bool.and_eq_false_iff, Bool.or_eq_false_iff, Int.not_lt, Int.not_le] at hc4')
              refine CD.skip ?_
              refine CD.region ?_
              refine OD.still (wants_plain rfl) rfl (still_r1 (mk := Op.load 25) rfl ot (by first | exact ld_blks (k := 0) (ds := [_, _]) rfl rfl Tryd.isAgg25 Tryd.sizeOf25 rfl rfl | exact ld_fms cL_len Tryd.isAgg25 Tryd.sizeOf25 (by first | assumption | omega) | exact ld_rows (k := 0) cL_len rfl rfl rfl Tryd.isAgg25 Tryd.sizeOf25 (by first | assumption | omega) | exact ld_rows (k := 1) cL_len rfl rfl rfl Tryd.isAgg25 Tryd.sizeOf25 (by first | assumption | omega) | exact ld_is (ds := [_, _]) Tryd.isAgg25 Tryd.sizeOf25 rfl rfl)) ?_
              refine OD.store (k := 1) (cs' := [_, _]) (wants_plain rfl) rfl rfl ot rfl rfl ot rfl rfl Tryd.sizeOf25 rfl rfl rfl ?_
              refine OD.wk (Wk.as_ (n := 94) (l' := [(3, _), (4, _), (5, _)]) (S' := [⟨b13, 25, 2, [_, _]⟩, ⟨b3, 25, 2, [_, _]⟩]) rfl rfl ⟨lk, lk, lk, trivial⟩) ?_
              refine OD.nil ?_
              refine CD.region ?_
              refine OD.still (wants_plain rfl) rfl (still_mv rfl ot) ?_
              refine OD.still (wants_plain rfl) rfl (still_bin rfl ot opd_const (bin_add (wrap_i64 (by omega) (by omega)))) ?_
              refine OD.still (wants_plain rfl) rfl (still_as rfl ot) ?_
              refine OD.wk (Wk.as_ (n := 94) (l' := [(3, _), (4, _), (5, _)]) (S' := [⟨b13, 25, 2, [_, _]⟩, ⟨b3, 25, 2, [_, _]⟩]) rfl rfl ⟨lk, lk, lk, trivial⟩) ?_
              refine OD.nil ?_
              refine ⟨((i + 1), h', q'), ⟨94, [(3, .v (.pointer (some ⟨b3, 0, none⟩))), (4, .v (.int .i64 (n : Nat))), (5, .v (.int .i64 (((i + 1)) : Nat)))], [⟨b3, 25, 2, [locksD (h'), locksD (q')]⟩]⟩, ?_, Wk.asS (n := 94) rfl (by repeat (first | exact List.Sublist.refl _ | apply List.Sublist.cons)) ⟨(by (repeat (first | exact look_hit | (apply look_at; focus (first | rfl | (simp; done) | (congr 2; omega))) | (apply look_miss; focus rfl))); done), (by (repeat (first | exact look_hit | (apply look_at; focus (first | rfl | (simp; done) | (congr 2; omega))) | (apply look_miss; focus rfl))); done), (by (repeat (first | exact look_hit | (apply look_at; focus (first | rfl | (simp; done) | (congr 2; omega))) | (apply look_miss; focus rfl))); done), trivial⟩, (leave_good g hlv), (by omega), (by omega), rfl⟩
              first | omega | (simp only []; omega)
  · exact absurd hc0 (by simp; omega)

theorem walkVictimsEnd (l : List W3) (v : Value) (hok : ∀ x ∈ l, x.Ok) (w : World) (h1 : FitsTab w) (h2 : JoinsTab w) (hv : Rep w (fun _ => False) (.list 3 (l.flatMap cW) l.length) v) : Calls Tryd.prog 13 #[v] w fun e w' => e = .returned (.bool true) ∧ Below w.heap.size w w' :=
  (victims_vp l hok).runL (tabs h1 h2) (vs := [v]) (RepL.cons hv ⟨rfl, fun i h => by simp at h⟩)

end Go.Proofs.YtcogdagfcndbfaaDoor.Lk
