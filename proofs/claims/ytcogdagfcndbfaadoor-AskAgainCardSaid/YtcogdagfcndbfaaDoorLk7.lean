/-
  Locks: walks of slices.Delete and slices.DeleteFunc.
-/
import Derived.Test.YtcogdagfcndbfaaDoorLk6
import Derived.Test.YtcogdagfcndbfaaDoorVf
namespace Go.Proofs.YtcogdagfcndbfaaDoor.Lk
open Go.RowKit V
set_option linter.unusedVariables false
set_option linter.unusedSimpArgs false

variable (G : List (Nat × List Value))
theorem del_new {q : List L} {i cap : Nat} (hi : i < q.length) (hc : q.length ≤ cap) : ((q.flatMap cL).drop (offs cap (i + 1) 3 0)).take ((q.length - (i + 1)) * 3) = (q.drop (i + 1)).flatMap cL := by
  unfold offs
  by_cases h : cap = i + 1
  · have e : q.length = i + 1 := by omega
    have e2 : q.drop (i + 1) = [] := List.drop_of_length_le (by omega)
    rw [if_pos h, show q.length - (i + 1) = 0 from by omega, e2]; simp
  · rw [if_neg h, Nat.zero_add, fm_drop cL_len, List.take_of_length_le]
    rw [fm_len cL_len, List.length_drop]; exact Nat.le_refl _
theorem del_cs {q : List L} {i : Nat} (hi : i < q.length) : setAll (q.flatMap cL) (i * 3) ((q.drop (i + 1)).flatMap cL) = (q.eraseIdx i).flatMap cL ++ (q.flatMap cL).drop (i * 3 + ((q.drop (i + 1)).flatMap cL).length) := by
  rw [setAll_eq _ _ _ (by rw [fm_len cL_len, fm_len cL_len, List.length_drop]; omega), fm_take cL_len, List.eraseIdx_eq_take_drop_succ, List.flatMap_append]

theorem infoS : (Tryd.prog.info? 27).map (fun i => i.size) = some 3 := by have h := infoL; cases hh : Tryd.prog.info? 27 with | none => rw [hh] at h; cases h | some i => rw [hh] at h; simp at h; simp [h.2.1]
theorem delete_vc (q : List L) (i cap b : Nat) (hi : i < q.length) (hc : q.length ≤ cap) (hm : cap ≤ maxLen) (hs : q.length ≤ 1000) : VC Tryd.prog G 34 [.v (.slice (some ⟨b, 0, none⟩) q.length cap), .v (.int .i64 (i : Nat)), .v (.int .i64 ((i + 1 : Nat) : Int))] [⟨b, 27, cap * 3, q.flatMap cL⟩] (fun r S => r = .v (.slice (some ⟨b, 0, none⟩) (q.length - 1) cap) ∧ S = [⟨b, 27, cap * 3, (q.eraseIdx i).flatMap cL⟩]) := by
  refine VC.body Tryd.func34 rfl Tryd.ntmps34 (Nat.le_of_ble_eq_true rfl) fun X0 w0 S00 => ?_
  refine CD.seq ?_
  refine CD.region ?_
  refine OD.still (wants_plain rfl) rfl (still_as rfl opd_const) ?_
  refine OD.wk (Wk.as_ (n := 33) (l' := [(0, _), (1, _), (2, _)]) (S' := [_]) rfl rfl ⟨(by (repeat (first | exact look_hit | (apply look_miss; focus rfl) | exact look_nil)); done), (by (repeat (first | exact look_hit | (apply look_miss; focus rfl) | exact look_nil)); done), (by (repeat (first | exact look_hit | (apply look_miss; focus rfl) | exact look_nil)); done), trivial⟩) ?_
  refine OD.nil ?_
  refine CD.seq ?_
  refine CD.region ?_
  refine OD.still (wants_plain rfl) rfl (still_mv rfl (opd_tmp rfl (by (repeat (first | exact look_hit | (apply look_miss; focus rfl) | exact look_nil)); done))) ?_
  refine OD.still (wants_plain rfl) rfl (still_mv rfl (opd_tmp rfl (by (repeat (first | exact look_hit | (apply look_miss; focus rfl) | exact look_nil)); done))) ?_
  refine OD.still (wants_plain rfl) rfl (still_mv rfl (opd_tmp rfl (by (repeat (first | exact look_hit | (apply look_miss; focus rfl) | exact look_nil)); done))) ?_
  refine OD.still (wants_plain rfl) rfl (still_mv rfl (opd_tmp rfl (by (repeat (first | exact look_hit | (apply look_miss; focus rfl) | exact look_nil)); done))) ?_
  refine OD.still (wants_plain rfl) rfl (still_r1 (mk := fun y => .call { callee := .builtin .len, args := #[y], argTypes := #[23] }) rfl (opd_tmp rfl (by (repeat (first | exact look_hit | (apply look_miss; focus rfl) | exact look_nil)); done)) (by first | exact len_list rfl Tryd.runUnderlying23 | exact len_row rfl Tryd.runUnderlying23)) ?_
  refine OD.still (wants_plain rfl) rfl (still_rslice3 rfl (opd_tmp rfl (by (repeat (first | exact look_hit | (apply look_miss; focus rfl) | exact look_nil)); done)) (opd_tmp rfl (by (repeat (first | exact look_hit | (apply look_miss; focus rfl) | exact look_nil)); done)) (opd_tmp rfl (by (repeat (first | exact look_hit | (apply look_miss; focus rfl) | exact look_nil)); done)) (opd_tmp rfl (by (repeat (first | exact look_hit | (apply look_miss; focus rfl) | exact look_nil)); done)) Tryd.runUnderlying23 Tryd.sizeOf27 (by omega) (by omega) hc) ?_
  refine OD.wk (Wk.as_ (n := 33) (l' := [(0, _), (1, _), (2, _)]) (S' := [_]) rfl rfl ⟨(by (repeat (first | exact look_hit | (apply look_miss; focus rfl) | exact look_nil)); done), (by (repeat (first | exact look_hit | (apply look_miss; focus rfl) | exact look_nil)); done), (by (repeat (first | exact look_hit | (apply look_miss; focus rfl) | exact look_nil)); done), trivial⟩) ?_
  refine OD.nil ?_
  refine CD.seq ?_
  refine CD.seq ?_
  refine CD.region ?_
  refine OD.still (wants_plain rfl) rfl (still_mv rfl (opd_tmp rfl (by (repeat (first | exact look_hit | (apply look_miss; focus rfl) | exact look_nil)); done))) ?_
  refine OD.still (wants_plain rfl) rfl (still_mv rfl (opd_tmp rfl (by (repeat (first | exact look_hit | (apply look_miss; focus rfl) | exact look_nil)); done))) ?_
  refine OD.still (wants_plain rfl) rfl (still_bin rfl (opd_tmp rfl (by (repeat (first | exact look_hit | (apply look_miss; focus rfl) | exact look_nil)); done)) (opd_tmp rfl (by (repeat (first | exact look_hit | (apply look_miss; focus rfl) | exact look_nil)); done)) bin_eql) ?_
  refine OD.wk (Wk.as_ (n := 33) (l' := [(0, _), (1, _), (2, _), (16, _)]) (S' := [_]) rfl rfl ⟨(by (repeat (first | exact look_hit | (apply look_miss; focus rfl) | exact look_nil)); done), (by (repeat (first | exact look_hit | (apply look_miss; focus rfl) | exact look_nil)); done), (by (repeat (first | exact look_hit | (apply look_miss; focus rfl) | exact look_nil)); done), (by (repeat (first | exact look_hit | (apply look_miss; focus rfl) | exact look_nil)); done), trivial⟩) ?_
  refine OD.nil ?_
  refine CD.cond (opd_tmp rfl (by (repeat (first | exact look_hit | (apply look_miss; focus rfl) | exact look_nil)); done)) (fun hc0 => ?_) (fun hc0 => ?_)
  · exact absurd hc0 (by simp at hc0; omega)
  · have hc0' := hc0
    (try simp only [decide_eq_true_eq, decide_eq_false_iff_not, beq_iff_eq, bne_iff_ne, Bool.not_eq_true', Bool.not_eq_false', Bool.not_eq_true, Bool.not_eq_false, beq_eq_false_iff_ne, ne_eq, bne_eq_false_iff_eq, Bool.and_eq_true, Bool.or_eq_true, Bool.not_not, Bool.and_eq_false_iff, Bool.or_eq_false_iff, Int.not_lt, Int.not_le] at hc0')
    refine CD.skip ?_
    refine CD.seq ?_
    refine CD.region ?_
    refine OD.still (wants_plain rfl) rfl (still_mv rfl (opd_tmp rfl (by (repeat (first | exact look_hit | (apply look_miss; focus rfl) | exact look_nil)); done))) ?_
    refine OD.still (wants_plain rfl) rfl (still_r1 (mk := fun y => .call { callee := .builtin .len, args := #[y], argTypes := #[23] }) rfl (opd_tmp rfl (by (repeat (first | exact look_hit | (apply look_miss; focus rfl) | exact look_nil)); done)) (by first | exact len_list rfl Tryd.runUnderlying23 | exact len_row rfl Tryd.runUnderlying23)) ?_
    refine OD.still (wants_plain rfl) rfl (still_as rfl (opd_tmp rfl (by (repeat (first | exact look_hit | (apply look_miss; focus rfl) | exact look_nil)); done))) ?_
    refine OD.wk (Wk.as_ (n := 33) (l' := [(0, _), (1, _), (2, _), (7, _)]) (S' := [_]) rfl rfl ⟨(by (repeat (first | exact look_hit | (apply look_miss; focus rfl) | exact look_nil)); done), (by (repeat (first | exact look_hit | (apply look_miss; focus rfl) | exact look_nil)); done), (by (repeat (first | exact look_hit | (apply look_miss; focus rfl) | exact look_nil)); done), (by (repeat (first | exact look_hit | (apply look_miss; focus rfl) | exact look_nil)); done), trivial⟩) ?_
    refine OD.nil ?_
    refine CD.seq ?_
    refine CD.draw (bks (List.eraseIdx _ 0)) (by kernel_rfl) (fun _ h => (List.Sublist.map _ (List.eraseIdx_sublist _ 0)).subset h) ?_
    refine AD0.take (i := 0) rfl (by kernel_rfl) (by kernel_rfl) (by kernel_rfl) (by repeat (first | exact NP.body | apply NP.then | apply NP.inBlock | apply NP.round)) (wants_plain rfl) rfl (still_mv rfl (opd_tmp rfl (by (repeat (first | exact look_hit | (apply look_miss; focus rfl) | exact look_nil)); done))) (by exact trivial) ?_
    refine AD0.take (i := 1) rfl (by kernel_rfl) (by kernel_rfl) (by kernel_rfl) (by repeat (first | exact NP.body | apply NP.then | apply NP.inBlock | apply NP.round)) (wants_plain rfl) rfl (still_mv rfl (opd_tmp rfl (by (repeat (first | exact look_hit | (apply look_miss; focus rfl) | exact look_nil)); done))) (by exact trivial) ?_
    refine AD0.take (i := 2) rfl (by kernel_rfl) (by kernel_rfl) (by kernel_rfl) (by repeat (first | exact NP.body | apply NP.then | apply NP.inBlock | apply NP.round)) (wants_plain rfl) rfl (still_rs (l := 0) (h := i) rfl (opd_tmp rfl (by (repeat (first | exact look_hit | (apply look_miss; focus rfl) | exact look_nil)); done)) trivial ⟨_, (opd_tmp rfl (by (repeat (first | exact look_hit | (apply look_miss; focus rfl) | exact look_nil)); done))⟩ (by first | exact sl_head cL_len (fun h => by cases h) Tryd.runUnderlying23 Tryd.sizeOf27 (by omega) | exact sl_row (fun h => by cases h) Tryd.runUnderlying23 Tryd.sizeOf27 (by omega) | exact sl_rowG (fun _ => rfl) (fun h => by cases h) Tryd.runUnderlying23 Tryd.sizeOf27 (by omega) (by omega) | exact sl_list (fun _ => rfl) (fun h => by cases h) Tryd.runUnderlying23 Tryd.sizeOf27 (by omega) (by omega))) (by exact trivial) ?_
    refine AD0.take (i := 3) rfl (by kernel_rfl) (by kernel_rfl) (by kernel_rfl) (by repeat (first | exact NP.body | apply NP.then | apply NP.inBlock | apply NP.round)) (wants_plain rfl) rfl (still_mv rfl (opd_tmp rfl (by (repeat (first | exact look_hit | (apply look_miss; focus rfl) | exact look_nil)); done))) (by exact trivial) ?_
    refine AD0.take (i := 4) rfl (by kernel_rfl) (by kernel_rfl) (by kernel_rfl) (by repeat (first | exact NP.body | apply NP.then | apply NP.inBlock | apply NP.round)) (wants_plain rfl) rfl (still_mv rfl (opd_tmp rfl (by (repeat (first | exact look_hit | (apply look_miss; focus rfl) | exact look_nil)); done))) (by exact trivial) ?_
    refine AD0.take (i := 5) rfl (by kernel_rfl) (by kernel_rfl) (by kernel_rfl) (by repeat (first | exact NP.body | apply NP.then | apply NP.inBlock | apply NP.round)) (wants_plain rfl) rfl (still_rs (l := i + 1) rfl (opd_tmp rfl (by (repeat (first | exact look_hit | (apply look_miss; focus rfl) | exact look_nil)); done)) ⟨_, (opd_tmp rfl (by (repeat (first | exact look_hit | (apply look_miss; focus rfl) | exact look_nil)); done))⟩ trivial (by first | exact sl_tail rfl cL_len (fun h => by cases h) Tryd.runUnderlying23 Tryd.sizeOf27 (by omega) | exact sl_row (fun _ => rfl) Tryd.runUnderlying23 Tryd.sizeOf27 (by omega) | exact sl_rowG (fun h => by cases h) (fun _ => rfl) Tryd.runUnderlying23 Tryd.sizeOf27 (by omega) (by omega) | exact sl_list (fun h => by cases h) (fun _ => rfl) Tryd.runUnderlying23 Tryd.sizeOf27 (by omega) (by omega))) (by exact trivial) ?_
    refine AD0.later rfl ?_
    refine AD.one (i := 6) (by kernel_rfl) ?_
    refine AStep.appendIn (n := i) (m := q.length - (i + 1)) (k := 0) (new := (q.drop (i + 1)).flatMap cL) (cs' := (q.eraseIdx i).flatMap cL ++ (q.flatMap cL).drop (i * 3 + ((q.drop (i + 1)).flatMap cL).length)) rfl (wants_plain rfl) rfl rfl Tryd.underlying23 infoS (opd_tmp rfl (by (repeat (first | exact look_hit | (apply look_miss; focus rfl) | exact look_nil)); done)) rfl rfl (opd_tmp rfl (by (repeat (first | exact look_hit | (apply look_miss; focus rfl) | exact look_nil)); done)) (del_new hi hc) (by rw [fm_len cL_len, List.length_drop]) (fm_one cL_one _) (by omega) (by show _ ≤ (q.flatMap cL).length; rw [fm_len cL_len]; omega) (del_cs hi) (by intro b hb; simp [bks, St.put] at hb ⊢; try first | exact hb | simp [hb] | (rcases hb with hb | hb <;> simp [hb]) | (rcases hb with hb | hb | hb <;> simp [hb])) ?_
    rw [show i + (q.length - (i + 1)) = q.length - 1 from by omega]
    refine AD.take (i := 7) rfl (by kernel_rfl) (by kernel_rfl) (by kernel_rfl) (by repeat (first | exact NP.body | apply NP.then | apply NP.inBlock | apply NP.round)) (wants_plain rfl) rfl (still_as rfl (opd_tmp rfl (by (repeat (first | exact look_hit | (apply look_miss; focus rfl) | exact look_nil)); done))) (by exact trivial) (by intro h; cases h) ?_
    refine AD.wk (y := ⟨33, [(0, _), (7, _)], [_]⟩) (Wk.as_ rfl rfl ⟨(by (repeat (first | exact look_hit | (apply look_miss; focus rfl) | exact look_nil)); done), (by (repeat (first | exact look_hit | (apply look_miss; focus rfl) | exact look_nil)); done), trivial⟩) rfl ?_
    refine AD.done (by kernel_rfl) ?_
    refine CD.seq ?_
    refine CD.region ?_
    refine OD.still (wants_plain rfl) rfl (still_mv rfl (opd_tmp rfl (by (repeat (first | exact look_hit | (apply look_miss; focus rfl) | exact look_nil)); done))) ?_
    refine OD.still (wants_plain rfl) rfl (still_mv rfl (opd_tmp rfl (by (repeat (first | exact look_hit | (apply look_miss; focus rfl) | exact look_nil)); done))) ?_
    refine OD.still (wants_plain rfl) rfl (still_r1 (mk := fun y => .call { callee := .builtin .len, args := #[y], argTypes := #[23] }) rfl (opd_tmp rfl (by (repeat (first | exact look_hit | (apply look_miss; focus rfl) | exact look_nil)); done)) (by first | exact len_list rfl Tryd.runUnderlying23 | exact len_row rfl Tryd.runUnderlying23)) ?_
    refine OD.still (wants_plain rfl) rfl (still_mv rfl (opd_tmp rfl (by (repeat (first | exact look_hit | (apply look_miss; focus rfl) | exact look_nil)); done))) ?_
    refine OD.still (wants_plain rfl) rfl (still_rs (l := q.length - 1) (h := q.length) rfl (opd_tmp rfl (by (repeat (first | exact look_hit | (apply look_miss; focus rfl) | exact look_nil)); done)) ⟨_, (opd_tmp rfl (by (repeat (first | exact look_hit | (apply look_miss; focus rfl) | exact look_nil)); done))⟩ ⟨_, (opd_tmp rfl (by (repeat (first | exact look_hit | (apply look_miss; focus rfl) | exact look_nil)); done))⟩ (by first | exact sl_row (fun h => by cases h) Tryd.runUnderlying23 Tryd.sizeOf27 (by omega) | exact sl_rowG (fun h => by cases h) (fun h => by cases h) Tryd.runUnderlying23 Tryd.sizeOf27 (by omega) (by omega) | exact sl_list (fun h => by cases h) (fun h => by cases h) Tryd.runUnderlying23 Tryd.sizeOf27 (by omega) (by omega))) ?_
    refine OD.shrink (k := 0) (cs' := (q.eraseIdx i).flatMap cL) rfl (List.prefix_append _ _) ?_
    refine OD.clear (k := 0) (sz := 3) (wants_plain rfl) rfl rfl Tryd.underlying23 Tryd.zeroValue27 rfl (by kernel_rfl) (opd_tmp rfl (by (repeat (first | exact look_hit | (apply look_miss; focus rfl) | exact look_nil)); done)) rfl rfl (fun h0 => ?_) ?_
    · have h3 : offs cap (q.length - 1) 3 0 = (q.length - 1) * 3 := by unfold offs; rw [if_neg (by omega)]; omega
      rw [h3]; refine ⟨?_, ?_⟩
      · show ((q.eraseIdx i).flatMap cL).length ≤ _; rw [fm_len cL_len, List.length_eraseIdx_of_lt hi]; exact Nat.le_refl _
      · show _ ≤ cap * 3; omega
    refine OD.wk (Wk.as_ (n := 33) (l' := [(0, _)]) (S' := [_]) rfl rfl ⟨(by (repeat (first | exact look_hit | (apply look_miss; focus rfl) | exact look_nil)); done), trivial⟩) ?_
    refine OD.nil ?_
    refine CD.seq ?_
    refine CD.region ?_
    refine OD.still (wants_plain rfl) rfl (still_mv rfl (opd_tmp rfl (by (repeat (first | exact look_hit | (apply look_miss; focus rfl) | exact look_nil)); done))) ?_
    refine OD.still (wants_plain rfl) rfl (still_as rfl (opd_tmp rfl (by (repeat (first | exact look_hit | (apply look_miss; focus rfl) | exact look_nil)); done))) ?_
    refine OD.wk (Wk.as_ (n := 33) (l' := [(6, _)]) (S' := [_]) rfl rfl ⟨(by (repeat (first | exact look_hit | (apply look_miss; focus rfl) | exact look_nil)); done), trivial⟩) ?_
    refine OD.nil ?_
    refine CD.ret ?_
    refine ⟨.inr rfl, _, [_], (by repeat (first | exact List.Sublist.refl _ | apply List.Sublist.cons)), ret_one Tryd.results34 (res_tmp (Nat.le_of_ble_eq_true rfl) (by (repeat (first | exact look_hit | (apply look_miss; focus rfl) | exact look_nil)); done)), ?_⟩
    exact ⟨rfl, rfl⟩

theorem leave1_vc (t : Int) (y : L) (b : Nat) : VC Tryd.prog G 32 [lockD y, .v (.pointer (some ⟨b, 0, none⟩))] [⟨b, 3, 1, [.v (.int .i64 t)]⟩] (fun r S => r = .v (.bool (y.t == t)) ∧ S = [⟨b, 3, 1, [.v (.int .i64 t)]⟩]) := by
  refine VC.body Tryd.func32 rfl Tryd.ntmps32 (Nat.le_of_ble_eq_true rfl) fun X0 w0 S00 => ?_
  unfold lockD cL
  refine CD.seq ?_
  refine CD.region ?_
  refine OD.box (ds := [_, _, _]) (wants_plain rfl) rfl rfl (opd_tmp rfl (by (repeat (first | exact look_hit | (apply look_miss; focus rfl) | exact look_nil)); done)) rfl rfl (fun b2 => ?_)
  refine OD.still (wants_plain rfl) rfl (still_as rfl opd_const) ?_
  refine OD.wk (Wk.as_ (n := 8) (l' := [(1, _), (2, _)]) (S' := [⟨b2, 27, 3, [_, _, _]⟩, ⟨_, _, _, [_]⟩]) rfl rfl ⟨(by (repeat (first | exact look_hit | (apply look_miss; focus rfl) | exact look_nil)); done), (by (repeat (first | exact look_hit | (apply look_miss; focus rfl) | exact look_nil)); done), trivial⟩) ?_
  refine OD.nil ?_
  refine CD.seq ?_
  refine CD.region ?_
  refine OD.still (wants_plain rfl) rfl (still_r1 (mk := fun y => Op.fieldAddr 27 y 0) rfl (opd_tmp rfl (by (repeat (first | exact look_hit | (apply look_miss; focus rfl) | exact look_nil)); done)) (by first | exact fa_ptr (off := 0) Tryd.runUnderlying27 rfl Tryd.sizeOf3 rfl | exact fa_iptr (off := 0) Tryd.runUnderlying27 rfl Tryd.sizeOf3 rfl)) ?_
  refine OD.still (wants_plain rfl) rfl (still_r1 (mk := Op.load 3) rfl (opd_tmp rfl (by (repeat (first | exact look_hit | (apply look_miss; focus rfl) | exact look_nil)); done)) (by first | exact ld_blk (k := 0) rfl rfl Tryd.isAgg3 rfl | exact ld_i Tryd.isAgg3 rfl)) ?_
  refine OD.still (wants_plain rfl) rfl (still_r1 (mk := Op.load 3) rfl (opd_tmp rfl (by (repeat (first | exact look_hit | (apply look_miss; focus rfl) | exact look_nil)); done)) (by first | exact ld_blk (k := 1) rfl rfl Tryd.isAgg3 rfl | exact ld_i Tryd.isAgg3 rfl)) ?_
  refine OD.still (wants_plain rfl) rfl (still_bin rfl (opd_tmp rfl (by (repeat (first | exact look_hit | (apply look_miss; focus rfl) | exact look_nil)); done)) (opd_tmp rfl (by (repeat (first | exact look_hit | (apply look_miss; focus rfl) | exact look_nil)); done)) bin_eql) ?_
  refine OD.still (wants_plain rfl) rfl (still_as rfl (opd_tmp rfl (by (repeat (first | exact look_hit | (apply look_miss; focus rfl) | exact look_nil)); done))) ?_
  refine OD.wk (Wk.as_ (n := 8) (l' := [(3, _)]) (S' := [⟨b2, 27, 3, [_, _, _]⟩, ⟨_, _, _, [_]⟩]) rfl rfl ⟨(by (repeat (first | exact look_hit | (apply look_miss; focus rfl) | exact look_nil)); done), trivial⟩) ?_
  refine OD.nil ?_
  refine CD.ret ?_
  refine ⟨.inr rfl, _, [⟨b, 3, 1, [.v (.int .i64 t)]⟩], (by repeat (first | exact List.Sublist.refl _ | apply List.Sublist.cons)), ret_one Tryd.results32 (res_tmp (Nat.le_of_ble_eq_true rfl) (by (repeat (first | exact look_hit | (apply look_miss; focus rfl) | exact look_nil)); done)), ?_⟩
  exact ⟨rfl, rfl⟩


theorem idx_none {p : L → Bool} {q : List L} (h : idxI p q < 0) : q.filter (fun x => !p x) = q := by
  rw [List.filter_eq_self]
  intro x hx
  unfold idxI at h
  cases hf : q.findIdx? p with
  | none => have := List.findIdx?_eq_none_iff.1 hf x hx; simp [this]
  | some k => rw [hf] at h; simp at h; omega
theorem idx_some {p : L → Bool} {q : List L} {k : Nat} (h : q.findIdx? p = some k) : k < q.length ∧ (q.take (k + 1)).filter (fun x => !p x) = q.take k := by
  obtain ⟨h1, h2, h3⟩ := List.findIdx?_eq_some_iff_getElem.1 h
  refine ⟨h1, ?_⟩
  rw [List.take_succ_eq_append_getElem h1, List.filter_append, List.filter_eq_self.2]
  · simp [h2]
  · intro x hx
    obtain ⟨j, hj, rfl⟩ := List.mem_iff_getElem.1 hx
    rw [List.length_take] at hj
    rw [List.getElem_take]
    simpa using h3 j (by omega)
theorem idxI_m1 {p : L → Bool} {q : List L} (h : idxI p q < 0) : idxI p q = -1 := by
  unfold idxI at h ⊢
  cases hf : q.findIdx? p with
  | none => rfl
  | some k => rw [hf] at h; simp at h; omega
theorem take_prefix (cur : List L) (i : Nat) : (cur.take i).flatMap cL <+: cur.flatMap cL := by
  have h := fm_prefix (g := cL) (cur.take i) (cur.drop i)
  rwa [List.take_append_drop] at h
/-- Half way through DeleteFunc: what has been kept, what is still to come. -/
structure Half (p : L → Bool) (q cur : List L) (i j : Nat) : Prop where
  len : cur.length = q.length
  lt : i < j
  le : j ≤ q.length
  kept : cur.take i = (q.take j).filter (fun x => !p x)
  rest : ∀ k (h : j ≤ k) (h1 : k < cur.length) (h2 : k < q.length), cur[k] = q[k]
theorem Half.start {p : L → Bool} {q : List L} {k : Nat} (h : q.findIdx? p = some k) : Half p q q k (k + 1) :=
  ⟨rfl, by omega, (idx_some h).1, (idx_some h).2.symm, fun _ _ _ _ => rfl⟩
theorem Half.skip {p : L → Bool} {q cur : List L} {i j : Nat} (h : Half p q cur i j) (hj : j < q.length) (hp : p q[j] = true) : Half p q cur i (j + 1) :=
  ⟨h.len, by have := h.lt; omega, hj, by rw [h.kept, List.take_succ_eq_append_getElem hj, List.filter_append]; simp [hp], fun k hk h1 h2 => h.rest k (by omega) h1 h2⟩
theorem Half.keep {p : L → Bool} {q cur : List L} {i j : Nat} (h : Half p q cur i j) (hj : j < q.length) (hp : p q[j] = false) : Half p q (cur.set i q[j]) (i + 1) (j + 1) :=
  ⟨by rw [List.length_set]; exact h.len, by have := h.lt; omega, hj, by
    have hi : i < cur.length := by have := h.lt; have := h.len; omega
    rw [List.take_succ_eq_append_getElem (by rw [List.length_set]; exact hi), List.getElem_set_self, List.take_set_of_le (Nat.le_refl _), h.kept, List.take_succ_eq_append_getElem hj, List.filter_append]; simp [hp],
   fun k hk h1 h2 => by rw [List.getElem_set_ne (by have := h.lt; omega)]; exact h.rest k (by omega) _ h2⟩

set_option maxHeartbeats 2000000 in
theorem deleteFunc_vc (q : List L) (ad : Option Addr) (cap : Nat) (Sq Sx : List Blk) (g : Nat) (caps : List D) (p : L → Bool) (ho : OwnK q ad cap Sq) (hs : q.length ≤ 1000) (hcall : ∀ args w, (callFunc g args).run Tryd.prog w = .ok (.enter g args) w) (hp : ∀ x, VC Tryd.prog G g (lockD x :: caps) Sx (fun r S' => r = .v (.bool (p x)) ∧ S' = Sx)) (hfl : flatS Sx = true) :
    VC Tryd.prog G 33 [.v (.slice ad q.length cap), .clo (.func g) caps] (Sq ++ Sx) (fun r S => ∃ ad' cap' Sq', r = .v (.slice ad' (q.filter (fun x => !p x)).length cap') ∧ OwnK (q.filter (fun x => !p x)) ad' cap' Sq' ∧ S.Perm (Sq' ++ Sx)) := by
  refine VC.body Tryd.func33 rfl Tryd.ntmps33 (Nat.le_of_ble_eq_true rfl) fun X0 w0 S00 => ?_
  refine CD.seq ?_
  refine CD.region ?_
  refine OD.still (wants_plain rfl) rfl (still_as rfl opd_const) ?_
  refine OD.wk (Wk.as_ (n := 42) (l' := [(0, _), (1, _)]) (S' := ((Sq ++ Sx))) rfl rfl ⟨(by (repeat (first | exact look_hit | (apply look_miss; focus rfl) | exact look_nil)); done), (by (repeat (first | exact look_hit | (apply look_miss; focus rfl) | exact look_nil)); done), trivial⟩) ?_
  refine OD.nil ?_
  refine CD.seq ?_
  refine CD.region ?_
  refine OD.still (wants_plain rfl) rfl (still_mv rfl (opd_tmp rfl (by (repeat (first | exact look_hit | (apply look_miss; focus rfl) | exact look_nil)); done))) ?_
  refine OD.still (wants_plain rfl) rfl (still_mv rfl (opd_tmp rfl (by (repeat (first | exact look_hit | (apply look_miss; focus rfl) | exact look_nil)); done))) ?_
  rcases Int.lt_or_le (idxI p q) 0 with hfi | hfi
  · skip
    refine OD.lookS (Sf := Sx) (R := Sq) (wants_plain rfl) rfl rfl rfl Tryd.call43 (index_vc _ q g caps Sx p hcall (fun y _ => hp y) (by omega)) rfl hfl List.perm_append_comm ⟨⟨_, (opd_tmp rfl (by (repeat (first | exact look_hit | (apply look_miss; focus rfl) | exact look_nil)); done)), view_own ho (cells_len _) (fun B hB => hB)⟩, ⟨_, (opd_tmp rfl (by (repeat (first | exact look_hit | (apply look_miss; focus rfl) | exact look_nil)); done)), view_same⟩, trivial⟩ ?_
    refine OD.still (wants_plain rfl) rfl (still_as rfl (opd_tmp rfl (by (repeat (first | exact look_hit | (apply look_miss; focus rfl) | exact look_nil)); done))) ?_
    refine OD.wk (Wk.as_ (n := 42) (l' := [(0, _), (1, _), (5, _)]) (S' := ((Sq ++ Sx))) rfl rfl ⟨(by (repeat (first | exact look_hit | (apply look_miss; focus rfl) | exact look_nil)); done), (by (repeat (first | exact look_hit | (apply look_miss; focus rfl) | exact look_nil)); done), (by (repeat (first | exact look_hit | (apply look_miss; focus rfl) | exact look_nil)); done), trivial⟩) ?_
    refine OD.nil ?_
    refine CD.seq ?_
    refine CD.seq ?_
    refine CD.region ?_
    refine OD.still (wants_plain rfl) rfl (still_mv rfl (opd_tmp rfl (by (repeat (first | exact look_hit | (apply look_miss; focus rfl) | exact look_nil)); done))) ?_
    refine OD.still (wants_plain rfl) rfl (still_bin rfl (opd_tmp rfl (by (repeat (first | exact look_hit | (apply look_miss; focus rfl) | exact look_nil)); done)) opd_const bin_eql) ?_
    refine OD.wk (Wk.as_ (n := 42) (l' := [(0, _), (1, _), (5, _), (12, _)]) (S' := ((Sq ++ Sx))) rfl rfl ⟨(by (repeat (first | exact look_hit | (apply look_miss; focus rfl) | exact look_nil)); done), (by (repeat (first | exact look_hit | (apply look_miss; focus rfl) | exact look_nil)); done), (by (repeat (first | exact look_hit | (apply look_miss; focus rfl) | exact look_nil)); done), (by (repeat (first | exact look_hit | (apply look_miss; focus rfl) | exact look_nil)); done), trivial⟩) ?_
    refine OD.nil ?_
    refine CD.cond (opd_tmp rfl (by (repeat (first | exact look_hit | (apply look_miss; focus rfl) | exact look_nil)); done)) (fun hc0 => ?_) (fun hc0 => ?_)
    · have hc0' := hc0
      (try simp only [decide_eq_true_eq, decide_eq_false_iff_not, beq_iff_eq, bne_iff_ne, Bool.not_eq_true', Bool.not_eq_false', Bool.not_eq_true, Bool.not_eq_false, beq_eq_false_iff_ne, ne_eq, bne_eq_false_iff_eq, Bool.and_eq_true, Bool.or_eq_true, Bool.not_not, Bool.and_eq_false_iff, Bool.or_eq_false_iff, Int.not_lt, Int.not_le] at hc0')
      refine CD.seq ?_
      refine CD.region ?_
      refine OD.still (wants_plain rfl) rfl (still_mv rfl (opd_tmp rfl (by (repeat (first | exact look_hit | (apply look_miss; focus rfl) | exact look_nil)); done))) ?_
      refine OD.still (wants_plain rfl) rfl (still_as rfl (opd_tmp rfl (by (repeat (first | exact look_hit | (apply look_miss; focus rfl) | exact look_nil)); done))) ?_
      refine OD.wk (Wk.as_ (n := 42) (l' := [(4, _)]) (S' := ((Sq ++ Sx))) rfl rfl ⟨(by (repeat (first | exact look_hit | (apply look_miss; focus rfl) | exact look_nil)); done), trivial⟩) ?_
      refine OD.nil ?_
      refine CD.ret ?_
      refine ⟨.inr rfl, _, _, (.refl _), ret_one Tryd.results33 (res_tmp (Nat.le_of_ble_eq_true rfl) (by (repeat (first | exact look_hit | (apply look_miss; focus rfl) | exact look_nil)); done)), ?_⟩
      first | (rw [idx_none hfi]; exact ⟨ad, cap, Sq, rfl, ho, List.Perm.refl _⟩) | (rw [← hfin]; refine ⟨some ⟨bq, 0, none⟩, cap, [⟨bq, 27, cap * 3, (cur.take i).flatMap cL⟩], ?_, .inr ⟨bq, rfl, by rw [List.length_take]; omega, hh2, rfl⟩, List.Perm.refl _⟩; rw [List.length_take, Nat.min_eq_left (by omega)])
    · exact absurd hc0 (by have := idxI_m1 hfi; simp [this] at hc0)
  · skip
    refine OD.lookS (Sf := Sx) (R := Sq) (wants_plain rfl) rfl rfl rfl Tryd.call43 (index_vc _ q g caps Sx p hcall (fun y _ => hp y) (by omega)) rfl hfl List.perm_append_comm ⟨⟨_, (opd_tmp rfl (by (repeat (first | exact look_hit | (apply look_miss; focus rfl) | exact look_nil)); done)), view_own ho (cells_len _) (fun B hB => hB)⟩, ⟨_, (opd_tmp rfl (by (repeat (first | exact look_hit | (apply look_miss; focus rfl) | exact look_nil)); done)), view_same⟩, trivial⟩ ?_
    obtain ⟨j, hj, hj1, hj2, hj3⟩ := idxI_nn hfi
    rw [show idxI p q = (j : Nat) from hj1]
    rcases ho with ⟨h0, _⟩ | ⟨bq, rfl, hh1, hh2, rfl⟩
    · omega
    refine OD.still (wants_plain rfl) rfl (still_as rfl (opd_tmp rfl (by (repeat (first | exact look_hit | (apply look_miss; focus rfl) | exact look_nil)); done))) ?_
    refine OD.wk (Wk.as_ (n := 42) (l' := [(0, _), (1, _), (5, _)]) (S' := (_ :: Sx)) rfl rfl ⟨(by (repeat (first | exact look_hit | (apply look_miss; focus rfl) | exact look_nil)); done), (by (repeat (first | exact look_hit | (apply look_miss; focus rfl) | exact look_nil)); done), (by (repeat (first | exact look_hit | (apply look_miss; focus rfl) | exact look_nil)); done), trivial⟩) ?_
    refine OD.nil ?_
    refine CD.seq ?_
    refine CD.seq ?_
    refine CD.region ?_
    refine OD.still (wants_plain rfl) rfl (still_mv rfl (opd_tmp rfl (by (repeat (first | exact look_hit | (apply look_miss; focus rfl) | exact look_nil)); done))) ?_
    refine OD.still (wants_plain rfl) rfl (still_bin rfl (opd_tmp rfl (by (repeat (first | exact look_hit | (apply look_miss; focus rfl) | exact look_nil)); done)) opd_const bin_eql) ?_
    refine OD.wk (Wk.as_ (n := 42) (l' := [(0, _), (1, _), (5, _), (12, _)]) (S' := (_ :: Sx)) rfl rfl ⟨(by (repeat (first | exact look_hit | (apply look_miss; focus rfl) | exact look_nil)); done), (by (repeat (first | exact look_hit | (apply look_miss; focus rfl) | exact look_nil)); done), (by (repeat (first | exact look_hit | (apply look_miss; focus rfl) | exact look_nil)); done), (by (repeat (first | exact look_hit | (apply look_miss; focus rfl) | exact look_nil)); done), trivial⟩) ?_
    refine OD.nil ?_
    refine CD.cond (opd_tmp rfl (by (repeat (first | exact look_hit | (apply look_miss; focus rfl) | exact look_nil)); done)) (fun hc0 => ?_) (fun hc0 => ?_)
    · exact absurd hc0 (by first | (simp at hc0; done) | (simp at hc0; omega))
    · have hc0' := hc0
      (try simp only [decide_eq_true_eq, decide_eq_false_iff_not, beq_iff_eq, bne_iff_ne, Bool.not_eq_true', Bool.not_eq_false', Bool.not_eq_true, Bool.not_eq_false, beq_eq_false_iff_ne, ne_eq, bne_eq_false_iff_eq, Bool.and_eq_true, Bool.or_eq_true, Bool.not_not, Bool.and_eq_false_iff, Bool.or_eq_false_iff, Int.not_lt, Int.not_le] at hc0')
      refine CD.skip ?_
      refine CD.seq ?_
      refine CD.seq ?_
      refine CD.region ?_
      refine OD.still (wants_plain rfl) rfl (still_mv rfl (opd_tmp rfl (by (repeat (first | exact look_hit | (apply look_miss; focus rfl) | exact look_nil)); done))) ?_
      refine OD.still (wants_plain rfl) rfl (still_bin rfl (opd_tmp rfl (by (repeat (first | exact look_hit | (apply look_miss; focus rfl) | exact look_nil)); done)) opd_const (bin_add (wrap_i64 (by omega) (by omega)))) ?_
      refine OD.still (wants_plain rfl) rfl (still_as rfl (opd_tmp rfl (by (repeat (first | exact look_hit | (apply look_miss; focus rfl) | exact look_nil)); done))) ?_
      refine OD.wk (Wk.as_ (n := 42) (l' := [(0, _), (1, _), (5, _), (6, _)]) (S' := (_ :: Sx)) rfl rfl ⟨(by (repeat (first | exact look_hit | (apply look_miss; focus rfl) | exact look_nil)); done), (by (repeat (first | exact look_hit | (apply look_miss; focus rfl) | exact look_nil)); done), (by (repeat (first | exact look_hit | (apply look_miss; focus rfl) | exact look_nil)); done), (by (repeat (first | exact look_hit | (apply look_miss; focus rfl) | exact look_nil)); done), trivial⟩) ?_
      refine OD.nil ?_
      refine CD.block ?_
      refine CD.wk (Wk.asS (n := 42) (l' := [(0, .v (.slice (some ⟨bq, 0, none⟩) q.length cap)), (1, .clo (.func g) caps), (5, .v (.int .i64 (j : Nat))), (6, .v (.int .i64 (((j + 1)) : Nat)))]) (S' := (⟨bq, 27, cap * 3, q.flatMap cL⟩ :: Sx)) rfl (by repeat (first | exact List.Sublist.refl _ | apply List.Sublist.cons)) ⟨(by (repeat (first | exact look_hit | (apply look_at; focus (first | rfl | (simp; done) | (congr 2; omega))) | (apply look_miss; focus rfl))); done), (by (repeat (first | exact look_hit | (apply look_at; focus (first | rfl | (simp; done) | (congr 2; omega))) | (apply look_miss; focus rfl))); done), (by (repeat (first | exact look_hit | (apply look_at; focus (first | rfl | (simp; done) | (congr 2; omega))) | (apply look_miss; focus rfl))); done), (by (repeat (first | exact look_hit | (apply look_at; focus (first | rfl | (simp; done) | (congr 2; omega))) | (apply look_miss; focus rfl))); done), trivial⟩) (CD.loop (fun (gh__ : List L × Nat × Nat) y__ => match gh__ with | (cur, i, k) => (Half p q cur i k) ∧ (i < q.length) ∧ y__ = (⟨42, [(0, .v (.slice (some ⟨bq, 0, none⟩) q.length cap)), (1, .clo (.func g) caps), (5, .v (.int .i64 (i : Nat))), (6, .v (.int .i64 (k : Nat)))], (⟨bq, 27, cap * 3, cur.flatMap cL⟩ :: Sx)⟩ : St)) (fun (gh__ : List L × Nat × Nat) => match gh__ with | (cur, i, k) => q.length - k) (q, j, (j + 1)) ⟨(Half.start hj2), hj, rfl⟩ ?_)
      rintro ⟨cur, i, k⟩ _ ⟨hh, hil, rfl⟩
      refine CD.seq ?_
      refine CD.seq ?_
      refine CD.region ?_
      refine OD.still (wants_plain rfl) rfl (still_mv rfl (opd_tmp rfl (by (repeat (first | exact look_hit | (apply look_miss; focus rfl) | exact look_nil)); done))) ?_
      refine OD.still (wants_plain rfl) rfl (still_mv rfl (opd_tmp rfl (by (repeat (first | exact look_hit | (apply look_miss; focus rfl) | exact look_nil)); done))) ?_
      refine OD.still (wants_plain rfl) rfl (still_r1 (mk := fun y => .call { callee := .builtin .len, args := #[y], argTypes := #[23] }) rfl (opd_tmp rfl (by (repeat (first | exact look_hit | (apply look_miss; focus rfl) | exact look_nil)); done)) (by first | exact len_list rfl Tryd.runUnderlying23 | exact len_row rfl Tryd.runUnderlying23)) ?_
      refine OD.still (wants_plain rfl) rfl (still_bin rfl (opd_tmp rfl (by (repeat (first | exact look_hit | (apply look_miss; focus rfl) | exact look_nil)); done)) (opd_tmp rfl (by (repeat (first | exact look_hit | (apply look_miss; focus rfl) | exact look_nil)); done)) bin_lss) ?_
      refine OD.wk (Wk.as_ (n := 42) (l' := [(0, _), (1, _), (5, _), (6, _), (19, _)]) (S' := (_ :: Sx)) rfl rfl ⟨(by (repeat (first | exact look_hit | (apply look_miss; focus rfl) | exact look_nil)); done), (by (repeat (first | exact look_hit | (apply look_miss; focus rfl) | exact look_nil)); done), (by (repeat (first | exact look_hit | (apply look_miss; focus rfl) | exact look_nil)); done), (by (repeat (first | exact look_hit | (apply look_miss; focus rfl) | exact look_nil)); done), (by (repeat (first | exact look_hit | (apply look_miss; focus rfl) | exact look_nil)); done), trivial⟩) ?_
      refine OD.nil ?_
      refine CD.cond (opd_tmp rfl (by (repeat (first | exact look_hit | (apply look_miss; focus rfl) | exact look_nil)); done)) (fun hc1 => ?_) (fun hc1 => ?_)
      · have hc1' := hc1
        (try simp only [decide_eq_true_eq, decide_eq_false_iff_not, beq_iff_eq, bne_iff_ne, Bool.not_eq_true', Bool.not_eq_false', Bool.not_eq_true, Bool.not_eq_false, beq_eq_false_iff_ne, ne_eq, bne_eq_false_iff_eq, Bool.and_eq_true, Bool.or_eq_true, Bool.not_not, Bool.and_eq_false_iff, Bool.or_eq_false_iff, Int.not_lt, Int.not_le] at hc1')
        have hkq : k < q.length := by omega
        have hkc : k < cur.length := by rw [hh.len]; exact hkq
        have hic : i < cur.length := by have := hh.lt; omega
        have hrest : cur[k] = q[k] := hh.rest k (Nat.le_refl _) hkc hkq
        have hcl := hh.len
        refine CD.skip ?_
        refine CD.seq ?_
        refine CD.block ?_
        refine CD.seq ?_
        refine CD.region ?_
        refine OD.still (wants_plain rfl) rfl (still_mv rfl (opd_tmp rfl (by (repeat (first | exact look_hit | (apply look_miss; focus rfl) | exact look_nil)); done))) ?_
        refine OD.still (wants_plain rfl) rfl (still_mv rfl (opd_tmp rfl (by (repeat (first | exact look_hit | (apply look_miss; focus rfl) | exact look_nil)); done))) ?_
        refine OD.still (wants_plain rfl) rfl (still_r2 (mk := Op.indexAddr 23) rfl (opd_tmp rfl (by (repeat (first | exact look_hit | (apply look_miss; focus rfl) | exact look_nil)); done)) (opd_tmp rfl (by (repeat (first | exact look_hit | (apply look_miss; focus rfl) | exact look_nil)); done)) (by first | exact ix_list Tryd.runUnderlying23 Tryd.sizeOf27 rfl (by first | assumption | omega) | exact ix_list (j := Int.toNat _) Tryd.runUnderlying23 Tryd.sizeOf27 (Int.toNat_of_nonneg (by omega)).symm (by omega) | exact ix_row Tryd.runUnderlying23 Tryd.sizeOf27 rfl (by first | assumption | omega) | exact ix_row (j := Int.toNat _) Tryd.runUnderlying23 Tryd.sizeOf27 (Int.toNat_of_nonneg (by omega)).symm (by omega))) ?_
        refine OD.still (wants_plain rfl) rfl (still_r1 (mk := Op.load 27) rfl (opd_tmp rfl (by (repeat (first | exact look_hit | (apply look_miss; focus rfl) | exact look_nil)); done)) (ld_rowB (k := 0) cL_len rfl Tryd.isAgg27 Tryd.sizeOf27 hkc)) ?_
        refine OD.alloc (ds := [_, _, _]) (wants_plain rfl) rfl rfl Tryd.zeroValue27 rfl (fun b7 => ?_)
        rw [hrest]
        refine OD.store (k := 0) (cs' := [_, _, _]) (wants_plain rfl) rfl rfl (opd_tmp rfl (by (repeat (first | exact look_hit | (apply look_miss; focus rfl) | exact look_nil)); done)) rfl rfl (opd_tmp rfl (by (repeat (first | exact look_hit | (apply look_miss; focus rfl) | exact look_nil)); done)) rfl rfl Tryd.sizeOf27 rfl rfl rfl ?_
        refine OD.wk (Wk.as_ (n := 42) (l' := [(0, _), (1, _), (5, _), (6, _), (7, _)]) (S' := (⟨b7, 27, 3, [_, _, _]⟩ :: _ :: Sx)) rfl rfl ⟨(by (repeat (first | exact look_hit | (apply look_miss; focus rfl) | exact look_nil)); done), (by (repeat (first | exact look_hit | (apply look_miss; focus rfl) | exact look_nil)); done), (by (repeat (first | exact look_hit | (apply look_miss; focus rfl) | exact look_nil)); done), (by (repeat (first | exact look_hit | (apply look_miss; focus rfl) | exact look_nil)); done), (by (repeat (first | exact look_hit | (apply look_miss; focus rfl) | exact look_nil)); done), trivial⟩) ?_
        refine OD.nil ?_
        refine CD.seq ?_
        refine CD.region ?_
        refine OD.still (wants_plain rfl) rfl (still_mv rfl (opd_tmp rfl (by (repeat (first | exact look_hit | (apply look_miss; focus rfl) | exact look_nil)); done))) ?_
        refine OD.still (wants_plain rfl) rfl (still_r1 (mk := Op.load 27) rfl (opd_tmp rfl (by (repeat (first | exact look_hit | (apply look_miss; focus rfl) | exact look_nil)); done)) (by first | exact ld_blks (k := 0) (ds := [_, _, _]) rfl rfl Tryd.isAgg27 Tryd.sizeOf27 rfl rfl | exact ld_fms cL_len Tryd.isAgg27 Tryd.sizeOf27 (by first | assumption | omega) | exact ld_rows (k := 0) cL_len rfl rfl rfl Tryd.isAgg27 Tryd.sizeOf27 (by first | assumption | omega) | exact ld_rows (k := 1) cL_len rfl rfl rfl Tryd.isAgg27 Tryd.sizeOf27 (by first | assumption | omega) | exact ld_is (ds := [_, _, _]) Tryd.isAgg27 Tryd.sizeOf27 rfl rfl)) ?_
        refine OD.callv (f := g) (args := [_]) (wants_plain rfl) rfl rfl (opd_tmp rfl (by (repeat (first | exact look_hit | (apply look_miss; focus rfl) | exact look_nil)); done)) hcall (hp q[k]) rfl ⟨(opd_tmp rfl (by (repeat (first | exact look_hit | (apply look_miss; focus rfl) | exact look_nil)); done)), trivial⟩ (List.perm_append_comm (l₁ := [_, _])) ?_; rintro _ S2 ⟨rfl, hS2⟩; rw [hS2]; clear hS2
        refine OD.perm (List.perm_append_comm (l₂ := [_, _])) ?_
        refine OD.still (wants_plain rfl) rfl (still_un rfl (opd_tmp rfl (by (repeat (first | exact look_hit | (apply look_miss; focus rfl) | exact look_nil)); done)) un_not) ?_
        refine OD.wk (Wk.as_ (n := 42) (l' := [(0, _), (1, _), (5, _), (6, _), (7, _), (29, _)]) (S' := (⟨b7, 27, 3, [_, _, _]⟩ :: _ :: Sx)) rfl rfl ⟨(by (repeat (first | exact look_hit | (apply look_miss; focus rfl) | exact look_nil)); done), (by (repeat (first | exact look_hit | (apply look_miss; focus rfl) | exact look_nil)); done), (by (repeat (first | exact look_hit | (apply look_miss; focus rfl) | exact look_nil)); done), (by (repeat (first | exact look_hit | (apply look_miss; focus rfl) | exact look_nil)); done), (by (repeat (first | exact look_hit | (apply look_miss; focus rfl) | exact look_nil)); done), (by (repeat (first | exact look_hit | (apply look_miss; focus rfl) | exact look_nil)); done), trivial⟩) ?_
        refine OD.nil ?_
        refine CD.cond (opd_tmp rfl (by (repeat (first | exact look_hit | (apply look_miss; focus rfl) | exact look_nil)); done)) (fun hc2 => ?_) (fun hc2 => ?_)
        · have hc2' := hc2
          (try simp only [decide_eq_true_eq, decide_eq_false_iff_not, beq_iff_eq, bne_iff_ne, Bool.not_eq_true', Bool.not_eq_false', Bool.not_eq_true, Bool.not_eq_false, beq_eq_false_iff_ne, ne_eq, bne_eq_false_iff_eq, Bool.and_eq_true, Bool.or_eq_true, Bool.not_not, Bool.and_eq_false_iff, Bool.or_eq_false_iff, Int.not_lt, Int.not_le] at hc2')
          have hpk : p q[k] = false := by simpa using hc2
          have hh2 := hh.keep hkq hpk
          refine CD.seq ?_
          refine CD.region ?_
          refine OD.still (wants_plain rfl) rfl (still_mv rfl (opd_tmp rfl (by (repeat (first | exact look_hit | (apply look_miss; focus rfl) | exact look_nil)); done))) ?_
          refine OD.still (wants_plain rfl) rfl (still_mv rfl (opd_tmp rfl (by (repeat (first | exact look_hit | (apply look_miss; focus rfl) | exact look_nil)); done))) ?_
          refine OD.still (wants_plain rfl) rfl (still_r1 (mk := Op.load 27) rfl (opd_tmp rfl (by (repeat (first | exact look_hit | (apply look_miss; focus rfl) | exact look_nil)); done)) (by first | exact ld_blks (k := 0) (ds := [_, _, _]) rfl rfl Tryd.isAgg27 Tryd.sizeOf27 rfl rfl | exact ld_fms cL_len Tryd.isAgg27 Tryd.sizeOf27 (by first | assumption | omega) | exact ld_rows (k := 0) cL_len rfl rfl rfl Tryd.isAgg27 Tryd.sizeOf27 (by first | assumption | omega) | exact ld_rows (k := 1) cL_len rfl rfl rfl Tryd.isAgg27 Tryd.sizeOf27 (by first | assumption | omega) | exact ld_is (ds := [_, _, _]) Tryd.isAgg27 Tryd.sizeOf27 rfl rfl)) ?_
          refine OD.still (wants_plain rfl) rfl (still_r2 (mk := Op.indexAddr 23) rfl (opd_tmp rfl (by (repeat (first | exact look_hit | (apply look_miss; focus rfl) | exact look_nil)); done)) (opd_tmp rfl (by (repeat (first | exact look_hit | (apply look_miss; focus rfl) | exact look_nil)); done)) (by first | exact ix_list Tryd.runUnderlying23 Tryd.sizeOf27 rfl (by first | assumption | omega) | exact ix_list (j := Int.toNat _) Tryd.runUnderlying23 Tryd.sizeOf27 (Int.toNat_of_nonneg (by omega)).symm (by omega) | exact ix_row Tryd.runUnderlying23 Tryd.sizeOf27 rfl (by first | assumption | omega) | exact ix_row (j := Int.toNat _) Tryd.runUnderlying23 Tryd.sizeOf27 (Int.toNat_of_nonneg (by omega)).symm (by omega))) ?_
          refine OD.storeAt (k := 1) (cs' := (cur.set i q[k]).flatMap cL) (wants_plain rfl) rfl rfl (opd_tmp rfl (by (repeat (first | exact look_hit | (apply look_miss; focus rfl) | exact look_nil)); done)) rfl rfl (opd_tmp rfl (by (repeat (first | exact look_hit | (apply look_miss; focus rfl) | exact look_nil)); done)) rfl rfl Tryd.sizeOf27 rfl (by rw [fm_len cL_len]; omega) (by rw [Nat.zero_add]; exact fm_set cL_len _ _ hic) ?_
          refine OD.wk (Wk.as_ (n := 42) (l' := [(0, _), (1, _), (5, _), (6, _)]) (S' := (⟨b7, 27, 3, [_, _, _]⟩ :: _ :: Sx)) rfl rfl ⟨(by (repeat (first | exact look_hit | (apply look_miss; focus rfl) | exact look_nil)); done), (by (repeat (first | exact look_hit | (apply look_miss; focus rfl) | exact look_nil)); done), (by (repeat (first | exact look_hit | (apply look_miss; focus rfl) | exact look_nil)); done), (by (repeat (first | exact look_hit | (apply look_miss; focus rfl) | exact look_nil)); done), trivial⟩) ?_
          refine OD.nil ?_
          refine CD.region ?_
          refine OD.still (wants_plain rfl) rfl (still_mv rfl (opd_tmp rfl (by (repeat (first | exact look_hit | (apply look_miss; focus rfl) | exact look_nil)); done))) ?_
          refine OD.still (wants_plain rfl) rfl (still_bin rfl (opd_tmp rfl (by (repeat (first | exact look_hit | (apply look_miss; focus rfl) | exact look_nil)); done)) opd_const (bin_add (wrap_i64 (by omega) (by omega)))) ?_
          refine OD.still (wants_plain rfl) rfl (still_as rfl (opd_tmp rfl (by (repeat (first | exact look_hit | (apply look_miss; focus rfl) | exact look_nil)); done))) ?_
          refine OD.wk (Wk.as_ (n := 42) (l' := [(0, _), (1, _), (5, _), (6, _)]) (S' := (⟨b7, 27, 3, [_, _, _]⟩ :: _ :: Sx)) rfl rfl ⟨(by (repeat (first | exact look_hit | (apply look_miss; focus rfl) | exact look_nil)); done), (by (repeat (first | exact look_hit | (apply look_miss; focus rfl) | exact look_nil)); done), (by (repeat (first | exact look_hit | (apply look_miss; focus rfl) | exact look_nil)); done), (by (repeat (first | exact look_hit | (apply look_miss; focus rfl) | exact look_nil)); done), trivial⟩) ?_
          refine OD.nil ?_
          refine CD.region ?_
          refine OD.still (wants_plain rfl) rfl (still_mv rfl (opd_tmp rfl (by (repeat (first | exact look_hit | (apply look_miss; focus rfl) | exact look_nil)); done))) ?_
          refine OD.still (wants_plain rfl) rfl (still_bin rfl (opd_tmp rfl (by (repeat (first | exact look_hit | (apply look_miss; focus rfl) | exact look_nil)); done)) opd_const (bin_add (wrap_i64 (by omega) (by omega)))) ?_
          refine OD.still (wants_plain rfl) rfl (still_as rfl (opd_tmp rfl (by (repeat (first | exact look_hit | (apply look_miss; focus rfl) | exact look_nil)); done))) ?_
          refine OD.wk (Wk.as_ (n := 42) (l' := [(0, _), (1, _), (5, _), (6, _)]) (S' := (⟨b7, 27, 3, [_, _, _]⟩ :: _ :: Sx)) rfl rfl ⟨(by (repeat (first | exact look_hit | (apply look_miss; focus rfl) | exact look_nil)); done), (by (repeat (first | exact look_hit | (apply look_miss; focus rfl) | exact look_nil)); done), (by (repeat (first | exact look_hit | (apply look_miss; focus rfl) | exact look_nil)); done), (by (repeat (first | exact look_hit | (apply look_miss; focus rfl) | exact look_nil)); done), trivial⟩) ?_
          refine OD.nil ?_
          refine ⟨((cur.set i q[k]), (i + 1), (k + 1)), ⟨42, [(0, .v (.slice (some ⟨bq, 0, none⟩) q.length cap)), (1, .clo (.func g) caps), (5, .v (.int .i64 (((i + 1)) : Nat))), (6, .v (.int .i64 (((k + 1)) : Nat)))], (⟨bq, 27, cap * 3, ((cur.set i q[k])).flatMap cL⟩ :: Sx)⟩, ?_, Wk.asS (n := 42) rfl (by repeat (first | exact List.Sublist.refl _ | apply List.Sublist.cons)) ⟨(by (repeat (first | exact look_hit | (apply look_at; focus (first | rfl | (simp; done) | (congr 2; omega))) | (apply look_miss; focus rfl))); done), (by (repeat (first | exact look_hit | (apply look_at; focus (first | rfl | (simp; done) | (congr 2; omega))) | (apply look_miss; focus rfl))); done), (by (repeat (first | exact look_hit | (apply look_at; focus (first | rfl | (simp; done) | (congr 2; omega))) | (apply look_miss; focus rfl))); done), (by (repeat (first | exact look_hit | (apply look_at; focus (first | rfl | (simp; done) | (congr 2; omega))) | (apply look_miss; focus rfl))); done), trivial⟩, (by assumption), (by have := hh2.lt; have := hh2.le; omega), rfl⟩
          first | omega | (simp only []; omega)
        · have hc2' := hc2
          (try simp only [decide_eq_true_eq, decide_eq_false_iff_not, beq_iff_eq, bne_iff_ne, Bool.not_eq_true', Bool.not_eq_false', Bool.not_eq_true, Bool.not_eq_false, beq_eq_false_iff_ne, ne_eq, bne_eq_false_iff_eq, Bool.and_eq_true, Bool.or_eq_true, Bool.not_not, Bool.and_eq_false_iff, Bool.or_eq_false_iff, Int.not_lt, Int.not_le] at hc2')
          have hpk : p q[k] = true := by simpa using hc2
          have hh2 := hh.skip hkq hpk
          refine CD.skip ?_
          refine CD.region ?_
          refine OD.still (wants_plain rfl) rfl (still_mv rfl (opd_tmp rfl (by (repeat (first | exact look_hit | (apply look_miss; focus rfl) | exact look_nil)); done))) ?_
          refine OD.still (wants_plain rfl) rfl (still_bin rfl (opd_tmp rfl (by (repeat (first | exact look_hit | (apply look_miss; focus rfl) | exact look_nil)); done)) opd_const (bin_add (wrap_i64 (by omega) (by omega)))) ?_
          refine OD.still (wants_plain rfl) rfl (still_as rfl (opd_tmp rfl (by (repeat (first | exact look_hit | (apply look_miss; focus rfl) | exact look_nil)); done))) ?_
          refine OD.wk (Wk.as_ (n := 42) (l' := [(0, _), (1, _), (5, _), (6, _)]) (S' := (⟨b7, 27, 3, [_, _, _]⟩ :: _ :: Sx)) rfl rfl ⟨(by (repeat (first | exact look_hit | (apply look_miss; focus rfl) | exact look_nil)); done), (by (repeat (first | exact look_hit | (apply look_miss; focus rfl) | exact look_nil)); done), (by (repeat (first | exact look_hit | (apply look_miss; focus rfl) | exact look_nil)); done), (by (repeat (first | exact look_hit | (apply look_miss; focus rfl) | exact look_nil)); done), trivial⟩) ?_
          refine OD.nil ?_
          refine ⟨(cur, i, (k + 1)), ⟨42, [(0, .v (.slice (some ⟨bq, 0, none⟩) q.length cap)), (1, .clo (.func g) caps), (5, .v (.int .i64 (i : Nat))), (6, .v (.int .i64 (((k + 1)) : Nat)))], (⟨bq, 27, cap * 3, cur.flatMap cL⟩ :: Sx)⟩, ?_, Wk.asS (n := 42) rfl (by repeat (first | exact List.Sublist.refl _ | apply List.Sublist.cons)) ⟨(by (repeat (first | exact look_hit | (apply look_at; focus (first | rfl | (simp; done) | (congr 2; omega))) | (apply look_miss; focus rfl))); done), (by (repeat (first | exact look_hit | (apply look_at; focus (first | rfl | (simp; done) | (congr 2; omega))) | (apply look_miss; focus rfl))); done), (by (repeat (first | exact look_hit | (apply look_at; focus (first | rfl | (simp; done) | (congr 2; omega))) | (apply look_miss; focus rfl))); done), (by (repeat (first | exact look_hit | (apply look_at; focus (first | rfl | (simp; done) | (congr 2; omega))) | (apply look_miss; focus rfl))); done), trivial⟩, (by assumption), (by have := hh2.lt; have := hh2.le; omega), rfl⟩
          first | omega | (simp only []; omega)
      · have hc1' := hc1
        (try simp only [decide_eq_true_eq, decide_eq_false_iff_not, beq_iff_eq, bne_iff_ne, Bool.not_eq_true', Bool.not_eq_false', Bool.not_eq_true, Bool.not_eq_false, beq_eq_false_iff_ne, ne_eq, bne_eq_false_iff_eq, Bool.and_eq_true, Bool.or_eq_true, Bool.not_not, Bool.and_eq_false_iff, Bool.or_eq_false_iff, Int.not_lt, Int.not_le] at hc1')
        have hkq : k = q.length := by have := hh.le; omega
        have hfin : cur.take i = q.filter (fun x => !p x) := by rw [hh.kept, hkq, List.take_length]
        have hcl := hh.len
        refine CD.exit ?_
        refine CD.seq ?_
        refine CD.region ?_
        refine OD.still (wants_plain rfl) rfl (still_mv rfl (opd_tmp rfl (by (repeat (first | exact look_hit | (apply look_miss; focus rfl) | exact look_nil)); done))) ?_
        refine OD.still (wants_plain rfl) rfl (still_mv rfl (opd_tmp rfl (by (repeat (first | exact look_hit | (apply look_miss; focus rfl) | exact look_nil)); done))) ?_
        refine OD.still (wants_plain rfl) rfl (still_rs (l := i) (h := q.length) rfl (opd_tmp rfl (by (repeat (first | exact look_hit | (apply look_miss; focus rfl) | exact look_nil)); done)) ⟨_, (opd_tmp rfl (by (repeat (first | exact look_hit | (apply look_miss; focus rfl) | exact look_nil)); done))⟩ trivial (by first | exact sl_tail rfl cL_len (fun h => by cases h) Tryd.runUnderlying23 Tryd.sizeOf27 (by omega) | exact sl_row (fun _ => rfl) Tryd.runUnderlying23 Tryd.sizeOf27 (by omega) | exact sl_rowG (fun h => by cases h) (fun _ => rfl) Tryd.runUnderlying23 Tryd.sizeOf27 (by omega) (by omega) | exact sl_list (fun h => by cases h) (fun _ => rfl) Tryd.runUnderlying23 Tryd.sizeOf27 (by omega) (by omega))) ?_
        refine OD.shrink (k := 0) (cs' := (cur.take i).flatMap cL) rfl (take_prefix _ _) ?_
        refine OD.clear (k := 0) (sz := 3) (wants_plain rfl) rfl rfl Tryd.underlying23 Tryd.zeroValue27 rfl (by kernel_rfl) (opd_tmp rfl (by (repeat (first | exact look_hit | (apply look_miss; focus rfl) | exact look_nil)); done)) rfl rfl (fun h0 => ?_) ?_
        · have h3 : offs cap i 3 0 = i * 3 := by unfold offs; rw [if_neg (by omega)]; omega
          rw [h3]; refine ⟨?_, ?_⟩
          · show ((cur.take i).flatMap cL).length ≤ _; rw [fm_len cL_len, List.length_take]; omega
          · show _ ≤ cap * 3; omega
        refine OD.wk (Wk.as_ (n := 42) (l' := [(0, _), (5, _)]) (S' := (_ :: Sx)) rfl rfl ⟨(by (repeat (first | exact look_hit | (apply look_miss; focus rfl) | exact look_nil)); done), (by (repeat (first | exact look_hit | (apply look_miss; focus rfl) | exact look_nil)); done), trivial⟩) ?_
        refine OD.nil ?_
        refine CD.seq ?_
        refine CD.region ?_
        refine OD.still (wants_plain rfl) rfl (still_mv rfl (opd_tmp rfl (by (repeat (first | exact look_hit | (apply look_miss; focus rfl) | exact look_nil)); done))) ?_
        refine OD.still (wants_plain rfl) rfl (still_mv rfl (opd_tmp rfl (by (repeat (first | exact look_hit | (apply look_miss; focus rfl) | exact look_nil)); done))) ?_
        refine OD.still (wants_plain rfl) rfl (still_rs (l := 0) (h := i) rfl (opd_tmp rfl (by (repeat (first | exact look_hit | (apply look_miss; focus rfl) | exact look_nil)); done)) trivial ⟨_, (opd_tmp rfl (by (repeat (first | exact look_hit | (apply look_miss; focus rfl) | exact look_nil)); done))⟩ (by first | exact sl_head cL_len (fun h => by cases h) Tryd.runUnderlying23 Tryd.sizeOf27 (by omega) | exact sl_row (fun h => by cases h) Tryd.runUnderlying23 Tryd.sizeOf27 (by omega) | exact sl_rowG (fun _ => rfl) (fun h => by cases h) Tryd.runUnderlying23 Tryd.sizeOf27 (by omega) (by omega) | exact sl_list (fun _ => rfl) (fun h => by cases h) Tryd.runUnderlying23 Tryd.sizeOf27 (by omega) (by omega))) ?_
        refine OD.still (wants_plain rfl) rfl (still_as rfl (opd_tmp rfl (by (repeat (first | exact look_hit | (apply look_miss; focus rfl) | exact look_nil)); done))) ?_
        refine OD.wk (Wk.as_ (n := 42) (l' := [(4, _)]) (S' := (_ :: Sx)) rfl rfl ⟨(by (repeat (first | exact look_hit | (apply look_miss; focus rfl) | exact look_nil)); done), trivial⟩) ?_
        refine OD.nil ?_
        refine CD.ret ?_
        refine ⟨.inr rfl, _, _, (.refl _), ret_one Tryd.results33 (res_tmp (Nat.le_of_ble_eq_true rfl) (by (repeat (first | exact look_hit | (apply look_miss; focus rfl) | exact look_nil)); done)), ?_⟩
        first | (rw [idx_none hfi]; exact ⟨ad, cap, Sq, rfl, ho, List.Perm.refl _⟩) | (rw [← hfin]; refine ⟨some ⟨bq, 0, none⟩, cap, [⟨bq, 27, cap * 3, (cur.take i).flatMap cL⟩], ?_, .inr ⟨bq, rfl, by rw [List.length_take]; omega, hh2, rfl⟩, List.Perm.refl _⟩; rw [List.length_take, Nat.min_eq_left (by omega)])

end Go.Proofs.YtcogdagfcndbfaaDoor.Lk
