/-
  Locks: walks of Clone, own, first.
-/
import Derived.Test.YtcogdagfcndbfaaDoorLk1
namespace Go.Proofs.YtcogdagfcndbfaaDoor.Lk
open Go.RowKit V
set_option linter.unusedVariables false
set_option linter.unusedSimpArgs false

theorem infoL : (Tryd.prog.info? 27).map (fun i => (i.zero, i.size, i.bytes)) = some (some (.agg #[.int .i64 0, .string ⟨#[]⟩, .int .i64 0]), 3, 32) := by kernel_rfl
abbrev OwnK (ls : List L) (ad : Option Addr) (cap : Nat) (S : List Blk) : Prop := OwnL 27 3 (ls.flatMap cL) ls.length ad cap S
theorem cells_len (ls : List L) : (ls.flatMap cL).length = ls.length * 3 := fm_len cL_len ls
variable (G : List (Nat × List Value))

theorem clone_vc (ls : List L) (hlen : ls.length ≤ 1000000) : VC Tryd.prog G 45 [locksD ls] [] (fun r S => ∃ ad cap, r = .v (.slice ad ls.length cap) ∧ OwnK ls ad cap S) := by
  refine VC.body Tryd.func45 rfl Tryd.ntmps45 (Nat.le_of_ble_eq_true rfl) fun X0 w0 S00 => ?_
  unfold locksD
  refine CD.seq ?_
  refine CD.region ?_
  refine OD.still (wants_plain rfl) rfl (still_as rfl opd_const) ?_
  refine OD.wk (Wk.as_ (n := 8) (l' := [(0, _)]) (S' := []) rfl rfl ⟨(by (repeat (first | exact look_hit | (apply look_miss; focus rfl) | exact look_nil)); done), trivial⟩) ?_
  refine OD.nil ?_
  refine CD.seq ?_
  refine CD.seq ?_
  refine CD.region ?_
  refine OD.still (wants_plain rfl) rfl (still_mv rfl (opd_tmp rfl (by (repeat (first | exact look_hit | (apply look_miss; focus rfl) | exact look_nil)); done))) ?_
  refine OD.eqNil (wants_plain rfl) rfl rfl (opd_tmp rfl (by (repeat (first | exact look_hit | (apply look_miss; focus rfl) | exact look_nil)); done)) opd_const Tryd.underlying23 (fun bn hbn => ?_)
  refine OD.wk (Wk.as_ (n := 8) (l' := [(0, _), (4, _)]) (S' := []) rfl rfl ⟨(by (repeat (first | exact look_hit | (apply look_miss; focus rfl) | exact look_nil)); done), (by (repeat (first | exact look_hit | (apply look_miss; focus rfl) | exact look_nil)); done), trivial⟩) ?_
  refine OD.nil ?_
  refine CD.cond (opd_tmp rfl (by (repeat (first | exact look_hit | (apply look_miss; focus rfl) | exact look_nil)); done)) (fun hc0 => ?_) (fun hc0 => ?_)
  · have hc0' := hc0
    (try simp only [decide_eq_true_eq, decide_eq_false_iff_not, beq_iff_eq, bne_iff_ne, Bool.not_eq_true', Bool.not_eq_false', Bool.not_eq_true, Bool.not_eq_false, beq_eq_false_iff_ne, ne_eq, bne_eq_false_iff_eq, Bool.and_eq_true, Bool.or_eq_true, Bool.not_not, Bool.and_eq_false_iff, Bool.or_eq_false_iff, Int.not_lt, Int.not_le] at hc0')
    refine CD.seq ?_
    refine CD.region ?_
    refine OD.still (wants_plain rfl) rfl (still_as rfl opd_const) ?_
    refine OD.wk (Wk.as_ (n := 8) (l' := [(2, _)]) (S' := []) rfl rfl ⟨(by (repeat (first | exact look_hit | (apply look_miss; focus rfl) | exact look_nil)); done), trivial⟩) ?_
    refine OD.nil ?_
    refine CD.ret ?_
    refine ⟨.inr rfl, _, _, (by repeat (first | exact List.Sublist.refl _ | apply List.Sublist.cons)), ret_one Tryd.results45 (res_tmp (Nat.le_of_ble_eq_true rfl) (by (repeat (first | exact look_hit | (apply look_miss; focus rfl) | exact look_nil)); done)), ?_⟩
    first | exact ⟨none, 0, by rw [(hbn hc0).1], .inl ⟨(hbn hc0).1, (hbn hc0).2, rfl, rfl, rfl⟩⟩ | exact ⟨some ⟨b7, 0, none⟩, cap7, rfl, .inr ⟨b7, rfl, h1, h2, rfl⟩⟩ | exact ⟨some ⟨b5, 0, none⟩, 0, rfl, .inr ⟨b5, rfl, Nat.le_refl _, Nat.zero_le _, rfl⟩⟩
  · have hc0' := hc0
    (try simp only [decide_eq_true_eq, decide_eq_false_iff_not, beq_iff_eq, bne_iff_ne, Bool.not_eq_true', Bool.not_eq_false', Bool.not_eq_true, Bool.not_eq_false, beq_eq_false_iff_ne, ne_eq, bne_eq_false_iff_eq, Bool.and_eq_true, Bool.or_eq_true, Bool.not_not, Bool.and_eq_false_iff, Bool.or_eq_false_iff, Int.not_lt, Int.not_le] at hc0')
    refine CD.skip ?_
    refine CD.seq ?_
    refine CD.region ?_
    refine OD.bldS0 (wants_plain rfl) rfl rfl Tryd.runUnderlying23 Tryd.sizeOf27 (fun b5 => ?_)
    refine OD.still (wants_plain rfl) rfl (still_mv rfl (opd_tmp rfl (by (repeat (first | exact look_hit | (apply look_miss; focus rfl) | exact look_nil)); done))) ?_
    rcases Nat.eq_zero_or_pos ls.length with hz | hz
    · obtain rfl := List.length_eq_zero_iff.1 hz
      refine OD.still (wants_plain rfl) rfl (still_append0 (ad := some _) rfl Tryd.runUnderlying23 Tryd.sizeOf27 (opd_tmp rfl (by (repeat (first | exact look_hit | (apply look_miss; focus rfl) | exact look_nil)); done)) (Nat.le_refl _) (opd_tmp rfl (by (repeat (first | exact look_hit | (apply look_miss; focus rfl) | exact look_nil)); done))) ?_
      refine OD.still (wants_plain rfl) rfl (still_as rfl (opd_tmp rfl (by (repeat (first | exact look_hit | (apply look_miss; focus rfl) | exact look_nil)); done))) ?_
      refine OD.wk (Wk.as_ (n := 8) (l' := [(2, _)]) (S' := [_]) rfl rfl ⟨(by (repeat (first | exact look_hit | (apply look_miss; focus rfl) | exact look_nil)); done), trivial⟩) ?_
      refine OD.nil ?_
      refine CD.ret ?_
      refine ⟨.inr rfl, _, _, (by repeat (first | exact List.Sublist.refl _ | apply List.Sublist.cons)), ret_one Tryd.results45 (res_tmp (Nat.le_of_ble_eq_true rfl) (by (repeat (first | exact look_hit | (apply look_miss; focus rfl) | exact look_nil)); done)), ?_⟩
      first | exact ⟨none, 0, by rw [(hbn hc0).1], .inl ⟨(hbn hc0).1, (hbn hc0).2, rfl, rfl, rfl⟩⟩ | exact ⟨some ⟨b7, 0, none⟩, cap7, rfl, .inr ⟨b7, rfl, h1, h2, rfl⟩⟩ | exact ⟨some ⟨b5, 0, none⟩, 0, rfl, .inr ⟨b5, rfl, Nat.le_refl _, Nat.zero_le _, rfl⟩⟩
    · skip
      refine OD.append (k := 0) (wants_plain rfl) rfl rfl Tryd.underlying23 infoL rfl (by decide) (opd_tmp rfl (by (repeat (first | exact look_hit | (apply look_miss; focus rfl) | exact look_nil)); done)) rfl rfl rfl rfl rfl (Nat.le_refl _) (by decide) (opd_tmp rfl (by (repeat (first | exact look_hit | (apply look_miss; focus rfl) | exact look_nil)); done)) (fm_one cL_one ls) hz (by unfold maxLen; omega) (by omega) (fun b7 cap7 h1 h2 => ?_)
      rw [Nat.zero_add] at h1 ⊢
      refine OD.still (wants_plain rfl) rfl (still_as rfl (opd_tmp rfl (by (repeat (first | exact look_hit | (apply look_miss; focus rfl) | exact look_nil)); done))) ?_
      refine OD.wk (Wk.as_ (n := 8) (l' := [(2, _)]) (S' := [_]) rfl rfl ⟨(by (repeat (first | exact look_hit | (apply look_miss; focus rfl) | exact look_nil)); done), trivial⟩) ?_
      refine OD.nil ?_
      refine CD.ret ?_
      refine ⟨.inr rfl, _, _, (by repeat (first | exact List.Sublist.refl _ | apply List.Sublist.cons)), ret_one Tryd.results45 (res_tmp (Nat.le_of_ble_eq_true rfl) (by (repeat (first | exact look_hit | (apply look_miss; focus rfl) | exact look_nil)); done)), ?_⟩
      first | exact ⟨none, 0, by rw [(hbn hc0).1], .inl ⟨(hbn hc0).1, (hbn hc0).2, rfl, rfl, rfl⟩⟩ | exact ⟨some ⟨b7, 0, none⟩, cap7, rfl, .inr ⟨b7, rfl, h1, h2, rfl⟩⟩ | exact ⟨some ⟨b5, 0, none⟩, 0, rfl, .inr ⟨b5, rfl, Nat.le_refl _, Nat.zero_le _, rfl⟩⟩

def locksS (held queue : List L) : D := .agg [locksD held, locksD queue]

theorem places25_Lk2 : ∀ w, ((#[{ name := "Held", type := 23, offset := 0, embedded := false, tag := "", pkgPath := "", byteOffset := 0 }, { name := "Queue", type := 23, offset := 1, embedded := false, tag := "", pkgPath := "", byteOffset := 24 }] : Array Field).mapM fun f => do pure (f.offset, ← sizeOf f.type) : Sem (Array (Nat × Nat))).run Tryd.prog w = .ok #[(0, 1), (1, 1)] w := fun w => by simp [Tryd.sizeOf23]

theorem own_vc (held queue : List L) (hlen : held.length + queue.length ≤ 1000) : VC Tryd.prog G 28 [locksS held queue] [] (fun r S => ∃ ah ch aq cq Sh Sq, r = .agg [.v (.slice ah held.length ch), .v (.slice aq queue.length cq)] ∧ OwnK held ah ch Sh ∧ OwnK queue aq cq Sq ∧ S = Sq ++ Sh) := by
  refine VC.body Tryd.func28 rfl Tryd.ntmps28 (Nat.le_of_ble_eq_true rfl) fun X0 w0 S00 => ?_
  unfold locksS
  refine CD.seq ?_
  refine CD.region ?_
  refine OD.box (ds := [_, _]) (wants_plain rfl) rfl rfl (opd_tmp rfl (by (repeat (first | exact look_hit | (apply look_miss; focus rfl) | exact look_nil)); done)) rfl rfl (fun b1 => ?_)
  refine OD.alloc (ds := [_, _]) (wants_plain rfl) rfl rfl Tryd.zeroValue25 rfl (fun b2 => ?_)
  refine OD.wk (Wk.as_ (n := 10) (l' := [(1, _), (2, _)]) (S' := [⟨b2, 25, 2, [_, _]⟩, ⟨b1, 25, 2, [_, _]⟩]) rfl rfl ⟨(by (repeat (first | exact look_hit | (apply look_miss; focus rfl) | exact look_nil)); done), (by (repeat (first | exact look_hit | (apply look_miss; focus rfl) | exact look_nil)); done), trivial⟩) ?_
  refine OD.nil ?_
  refine CD.seq ?_
  refine CD.draw (bks (List.eraseIdx _ 0)) (by kernel_rfl) (fun _ h => (List.Sublist.map _ (List.eraseIdx_sublist _ 0)).subset h) ?_
  refine AD0.take (i := 0) rfl (by kernel_rfl) (by kernel_rfl) (by kernel_rfl) (by repeat (first | exact NP.body | apply NP.then | apply NP.inBlock | apply NP.round)) (wants_plain rfl) rfl (still_r1 (mk := fun y => Op.fieldAddr 25 y 0) rfl (opd_tmp rfl (by (repeat (first | exact look_hit | (apply look_miss; focus rfl) | exact look_nil)); done)) (by first | exact fa_ptr (off := 0) Tryd.runUnderlying25 rfl Tryd.sizeOf23 rfl | exact fa_iptr (off := 0) Tryd.runUnderlying25 rfl Tryd.sizeOf23 rfl)) (by exact trivial) ?_
  refine AD0.take (i := 1) rfl (by kernel_rfl) (by kernel_rfl) (by kernel_rfl) (by repeat (first | exact NP.body | apply NP.then | apply NP.inBlock | apply NP.round)) (wants_plain rfl) rfl (still_r1 (mk := Op.load 23) rfl (opd_tmp rfl (by (repeat (first | exact look_hit | (apply look_miss; focus rfl) | exact look_nil)); done)) (by first | exact ld_blk (k := 1) rfl rfl Tryd.isAgg23 rfl | exact ld_i Tryd.isAgg23 rfl)) (by first | exact trivial | exact safe_blk (k0 := 0) rfl rfl) ?_
  refine AD0.take (i := 3) rfl (by kernel_rfl) (by kernel_rfl) (by kernel_rfl) (by repeat (first | exact NP.body | apply NP.then | apply NP.inBlock | apply NP.round)) (wants_plain rfl) rfl (still_r1 (mk := fun y => Op.fieldAddr 25 y 1) rfl (opd_tmp rfl (by (repeat (first | exact look_hit | (apply look_miss; focus rfl) | exact look_nil)); done)) (by first | exact fa_ptr (off := 1) Tryd.runUnderlying25 rfl Tryd.sizeOf23 rfl | exact fa_iptr (off := 1) Tryd.runUnderlying25 rfl Tryd.sizeOf23 rfl)) (by exact trivial) ?_
  refine AD0.take (i := 4) rfl (by kernel_rfl) (by kernel_rfl) (by kernel_rfl) (by repeat (first | exact NP.body | apply NP.then | apply NP.inBlock | apply NP.round)) (wants_plain rfl) rfl (still_r1 (mk := Op.load 23) rfl (opd_tmp rfl (by (repeat (first | exact look_hit | (apply look_miss; focus rfl) | exact look_nil)); done)) (by first | exact ld_blk (k := 1) rfl rfl Tryd.isAgg23 rfl | exact ld_i Tryd.isAgg23 rfl)) (by first | exact trivial | exact safe_blk (k0 := 0) rfl rfl) ?_
  refine AD0.later rfl ?_
  refine AD.one (i := 2) (by kernel_rfl) ?_
  refine AStep.call rfl (wants_plain rfl) rfl rfl rfl Tryd.call45 (clone_vc _ held (by omega)) ⟨(opd_tmp rfl (by (repeat (first | exact look_hit | (apply look_miss; focus rfl) | exact look_nil)); done)), trivial⟩ (perm_none _) (by intro b hb; simp [bks, St.put] at hb ⊢; try first | exact hb | simp [hb] | (rcases hb with hb | hb <;> simp [hb]) | (rcases hb with hb | hb | hb <;> simp [hb])) ?_; rintro _ S5 ⟨a5, c5, rfl, ho5⟩
  refine AD.perm List.perm_append_comm ?_
  refine AD.one (i := 5) (by kernel_rfl) ?_
  refine AStep.call rfl (wants_plain rfl) rfl rfl rfl Tryd.call45 (clone_vc _ queue (by omega)) ⟨(opd_tmp rfl (by (repeat (first | exact look_hit | (apply look_miss; focus rfl) | exact look_nil)); done)), trivial⟩ (perm_none _) (by intro b hb; simp [bks, St.put] at hb ⊢; try first | exact hb | simp [hb] | (rcases hb with hb | hb <;> simp [hb]) | (rcases hb with hb | hb | hb <;> simp [hb])) ?_; rintro _ S8 ⟨a8, c8, rfl, ho8⟩
  refine AD.perm (List.perm_append_comm_assoc _ [_, _] _) ?_
  refine AD.take (i := 6) rfl (by kernel_rfl) (by kernel_rfl) (by kernel_rfl) (by repeat (first | exact NP.body | apply NP.then | apply NP.inBlock | apply NP.round)) (wants_plain rfl) rfl (still_bld (pl := [(0, _), (1, _)]) (ds := [_, _]) rfl Tryd.zeroValue25 Tryd.runUnderlying25 places25_Lk2 ⟨rfl, (opd_tmp rfl (by (repeat (first | exact look_hit | (apply look_miss; focus rfl) | exact look_nil)); done)), rfl, (opd_tmp rfl (by (repeat (first | exact look_hit | (apply look_miss; focus rfl) | exact look_nil)); done)), trivial⟩ rfl rfl) (by exact trivial) (by intro h; cases h) ?_
  refine AD.one (i := 7) (by kernel_rfl) ?_
  refine AStep.store (k := 0) (cs' := [_, _]) rfl (wants_plain rfl) rfl rfl (opd_tmp rfl (by (repeat (first | exact look_hit | (apply look_miss; focus rfl) | exact look_nil)); done)) rfl rfl (opd_tmp rfl (by (repeat (first | exact look_hit | (apply look_miss; focus rfl) | exact look_nil)); done)) rfl rfl Tryd.sizeOf25 rfl rfl rfl (by intro b hb; simp [bks, St.put] at hb ⊢; try first | exact hb | simp [hb] | (rcases hb with hb | hb <;> simp [hb]) | (rcases hb with hb | hb | hb <;> simp [hb])) ?_
  refine AD.wk (y := ⟨10, [(2, _)], (⟨b2, 25, 2, [_, _]⟩ :: ⟨b1, 25, 2, [_, _]⟩ :: _)⟩) (Wk.as_ rfl rfl ⟨(by (repeat (first | exact look_hit | (apply look_miss; focus rfl) | exact look_nil)); done), trivial⟩) rfl ?_
  refine AD.done (by kernel_rfl) ?_
  refine CD.ret ?_
  refine ⟨.inr rfl, _, (S8 ++ S5), (by repeat (first | exact List.Sublist.refl _ | apply List.Sublist.cons)), ret_one Tryd.results28 (res_cells (k := 0) (ds := [_, _]) (Nat.le_of_ble_eq_true rfl) (by (repeat (first | exact look_hit | (apply look_miss; focus rfl) | exact look_nil)); done) rfl rfl Tryd.isAgg25 Tryd.sizeOf25 rfl rfl), ?_⟩
  exact ⟨_, _, _, _, _, _, rfl, by assumption, by assumption, rfl⟩

end Go.Proofs.YtcogdagfcndbfaaDoor.Lk
