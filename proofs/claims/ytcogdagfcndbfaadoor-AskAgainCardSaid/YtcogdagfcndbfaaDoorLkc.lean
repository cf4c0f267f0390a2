/-
  Locks: the law AskMore.
-/
import Derived.Test.YtcogdagfcndbfaaDoorLka
namespace Go.Proofs.YtcogdagfcndbfaaDoor.Lk
open Go.RowKit V
set_option linter.unusedVariables false
set_option linter.unusedSimpArgs false

/-- What is in the environment, seen as something else. -/
theorem Wk.view {n t : Nat} {l : List (Nat × D)} {S : List Blk} {d d' : D} (h : V.look t l = d) (hv : View [] d d') : Wk ⟨n, l, S⟩ ⟨n, (t, d') :: l, S⟩ := fun C a w s => by
  refine ⟨s.defers, s.size, fun i hi => ?_, s.own, s.fr, s.ex, s.tab⟩
  have hi2 := s.env i hi
  by_cases e : i = t
  · subst e
    rw [show V.look i ((i, d') :: l) = d' from look_hit]
    rw [show V.look i l = d from h] at hi2
    have hl : live (live C.X S) [] = live C.X S := by funext b; simp [live, bks]
    refine hv (live C.X S) (live C.X S) w _ (fun b hb => hb) (fun b _ hm => by simp [bks] at hm) ⟨fun B hB => by simp at hB, by simp [bks]⟩ ?_
    rw [hl]; exact hi2
  · rw [show V.look i ((t, d') :: l) = V.look i l from by rw [look_cons, if_neg (fun h => e h.symm)]]
    exact hi2

abbrev oneM (m : Int) : L := ⟨1, ⟨#[97]⟩, m⟩
abbrev twoX : L := ⟨2, ⟨#[97]⟩, 5⟩
theorem shape_one {m : Int} (h : modeB m = true) : shapeF (oneM m) = 0 := shape_iff.2 ⟨⟨(by show (1 : Int) ≤ 1; decide), (by show (1 : Int) ≤ 1048576; decide)⟩, (by show (⟨#[97]⟩ : ByteArray).size ≤ 120; decide), h⟩
theorem more_one {m : Int} (h : modeB m = true) : askF [] [] (oneM m) = ([oneM m], [], true, 0) := by
  rw [ask_get (shape_one h) rfl rfl (first_yes (fun y hy => by cases hy) rfl) (by show 1 + 0 ≤ 200; decide)]
  rfl
theorem fits_five {m : Int} (h : modeB m = true) : fitsF m 5 = false := by rcases fiveM h with rfl | rfl | rfl | rfl | rfl <;> decide
theorem more_two {m : Int} (h : modeB m = true) : askF [oneM m] [] twoX = ([oneM m], [twoX], false, 0) :=
  ask_wait (shape_iff.2 ⟨⟨by decide, by decide⟩, by decide, by decide⟩) rfl (own_no fun y hy => by simp only [List.mem_singleton] at hy; subst hy; show (1 : Int) ≠ 2; decide) (first_no (List.mem_singleton_self _) rfl (by show (1 : Int) ≠ 2; decide) (fits_five h)) (by show 1 + (0 + 1) ≤ 200; decide)
theorem more_leave (m : Int) : leaveF [oneM m] [twoX] 2 = ([oneM m], [], [], 0) := by
  refine leave_yes (by decide) (by decide) ?_
  exact (show wake [oneM m] [] 0 [] = _ from wake_end (by simp))
theorem more_ask {m n : Int} (h : modeB m = true) (hn : modeB n = true) {q : List L} (hq : q = [] ∨ q = [twoX]) : askF [oneM m] q (oneM n) = ([oneM (joinsF m n)], q, true, 0) := by
  have hany : (q.any fun y => y.t == (oneM n).t) = false := by rcases hq with rfl | rfl <;> rfl
  have hlen : q.length ≤ 1 := by rcases hq with rfl | rfl <;> decide
  have hown : ownM [oneM m] (oneM n) = some m := by unfold ownM; simp [hasK]
  rw [ask_on (shape_one hn) hany, askG_some hown]
  by_cases e : joinsF m n = m
  · rw [if_pos e, e]
  · rw [if_neg e]
    have hf : firstQ [oneM m] q { (oneM n) with m := joinsF m n } = true := by
      unfold firstQ
      have h1 : freeB [oneM m] { (oneM n) with m := joinsF m n } = true := by unfold freeB; simp [clash]
      have h2 : 0 ≤ findI [oneM m] 1 ⟨#[97]⟩ := findI_nn.2 ⟨oneM m, List.mem_singleton_self _, by simp [hasK]⟩
      rw [h1, decide_eq_true h2]; rfl
    have hh : haveL [oneM m] { (oneM n) with m := joinsF m n } = [oneM (joinsF m n)] := by unfold haveL; simp [hasK]
    rw [if_pos hf, hh, if_neg (by simp; omega)]

theorem places25_Lkc : ∀ w, ((#[{ name := "Held", type := 23, offset := 0, embedded := false, tag := "", pkgPath := "", byteOffset := 0 }, { name := "Queue", type := 23, offset := 1, embedded := false, tag := "", pkgPath := "", byteOffset := 24 }] : Array Field).mapM fun f => do pure (f.offset, ← sizeOf f.type) : Sem (Array (Nat × Nat))).run Tryd.prog w = .ok #[(0, 1), (1, 1)] w := fun w => by simp [Tryd.sizeOf23]

theorem places27_Lkc : ∀ w, ((#[{ name := "Txn", type := 3, offset := 0, embedded := false, tag := "", pkgPath := "", byteOffset := 0 }, { name := "Thing", type := 9, offset := 1, embedded := false, tag := "", pkgPath := "", byteOffset := 8 }, { name := "Mode", type := 3, offset := 2, embedded := false, tag := "", pkgPath := "", byteOffset := 24 }] : Array Field).mapM fun f => do pure (f.offset, ← sizeOf f.type) : Sem (Array (Nat × Nat))).run Tryd.prog w = .ok #[(0, 1), (1, 1), (2, 1)] w := fun w => by simp [Tryd.sizeOf3, Tryd.sizeOf9]

set_option maxHeartbeats 4000000 in
set_option maxRecDepth 100000 in
theorem more_vp (a b c : Int) (h1 : -9223372036854775808 ≤ a) (h2 : a ≤ 9223372036854775807) (h3 : -9223372036854775808 ≤ b) (h4 : b ≤ 9223372036854775807) (h5 : -9223372036854775808 ≤ c) (h6 : c ≤ 9223372036854775807) : VP Tryd.prog TG 11 [.v (.int .i64 a), .v (.int .i64 b), .v (.int .i64 c)] (.v (.bool true)) := by
  refine VC.body Tryd.func11 rfl Tryd.ntmps11 (Nat.le_of_ble_eq_true rfl) fun X0 w0 S00 => ?_
  have hpa := pickedF_bd a (by decide : (1 : Int) ≤ 4)
  have hpb := pickedF_bd b (by decide : (1 : Int) ≤ 5)
  obtain ⟨m, hm⟩ : ∃ m : Int, 1 + pickedF a 4 = m := ⟨_, rfl⟩
  obtain ⟨x, hx⟩ : ∃ x : Int, 1 + pickedF b 5 = x := ⟨_, rfl⟩
  have hmb : modeB m = true := by unfold modeB; simp; omega
  have hxb : modeB x = true := by unfold modeB; simp; omega
  have g1 := ask_good good_nil (more_one hmb)
  have g2 := ask_good g1 (more_two hmb)
  have g3 := leave_good g2 (more_leave m)
  refine CD.seq ?_
  refine CD.region ?_
  refine OD.still (wants_plain rfl) rfl (still_as rfl opd_const) ?_
  refine OD.wk (Wk.as_ (n := 86) (l' := [(0, _), (1, _), (2, _)]) (S' := []) rfl rfl ⟨(by (repeat (first | exact look_hit | (apply look_miss; focus rfl) | exact look_nil)); done), (by (repeat (first | exact look_hit | (apply look_miss; focus rfl) | exact look_nil)); done), (by (repeat (first | exact look_hit | (apply look_miss; focus rfl) | exact look_nil)); done), trivial⟩) ?_
  refine OD.nil ?_
  refine CD.seq ?_
  refine CD.region ?_
  refine OD.still (wants_plain rfl) rfl (still_mv rfl (opd_tmp rfl (by (repeat (first | exact look_hit | (apply look_miss; focus rfl) | exact look_nil)); done))) ?_
  refine OD.callP (wants_plain rfl) rfl rfl rfl Tryd.call14 (picked_vp _ a 4 h1 h2 (by decide)) ⟨(opd_tmp rfl (by (repeat (first | exact look_hit | (apply look_miss; focus rfl) | exact look_nil)); done)), opd_const, trivial⟩ ?_
  refine OD.still (wants_plain rfl) rfl (still_bin rfl opd_const (opd_tmp rfl (by (repeat (first | exact look_hit | (apply look_miss; focus rfl) | exact look_nil)); done)) (bin_add (r := m) (by rw [wrap_i64 (by omega) (by omega)]; omega))) ?_
  refine OD.still (wants_plain rfl) rfl (still_as rfl (opd_tmp rfl (by (repeat (first | exact look_hit | (apply look_miss; focus rfl) | exact look_nil)); done))) ?_
  refine OD.wk (Wk.as_ (n := 86) (l' := [(1, _), (2, _), (7, _)]) (S' := []) rfl rfl ⟨(by (repeat (first | exact look_hit | (apply look_miss; focus rfl) | exact look_nil)); done), (by (repeat (first | exact look_hit | (apply look_miss; focus rfl) | exact look_nil)); done), (by (repeat (first | exact look_hit | (apply look_miss; focus rfl) | exact look_nil)); done), trivial⟩) ?_
  refine OD.nil ?_
  refine CD.seq ?_
  refine CD.region ?_
  refine OD.still (wants_plain rfl) rfl (still_mv rfl (opd_tmp rfl (by (repeat (first | exact look_hit | (apply look_miss; focus rfl) | exact look_nil)); done))) ?_
  refine OD.callP (wants_plain rfl) rfl rfl rfl Tryd.call14 (picked_vp _ b 5 h3 h4 (by decide)) ⟨(opd_tmp rfl (by (repeat (first | exact look_hit | (apply look_miss; focus rfl) | exact look_nil)); done)), opd_const, trivial⟩ ?_
  refine OD.still (wants_plain rfl) rfl (still_bin rfl opd_const (opd_tmp rfl (by (repeat (first | exact look_hit | (apply look_miss; focus rfl) | exact look_nil)); done)) (bin_add (r := x) (by rw [wrap_i64 (by omega) (by omega)]; omega))) ?_
  refine OD.still (wants_plain rfl) rfl (still_as rfl (opd_tmp rfl (by (repeat (first | exact look_hit | (apply look_miss; focus rfl) | exact look_nil)); done))) ?_
  refine OD.wk (Wk.as_ (n := 86) (l' := [(2, _), (7, _), (8, _)]) (S' := []) rfl rfl ⟨(by (repeat (first | exact look_hit | (apply look_miss; focus rfl) | exact look_nil)); done), (by (repeat (first | exact look_hit | (apply look_miss; focus rfl) | exact look_nil)); done), (by (repeat (first | exact look_hit | (apply look_miss; focus rfl) | exact look_nil)); done), trivial⟩) ?_
  refine OD.nil ?_
  refine CD.seq ?_
  refine CD.region ?_
  refine OD.still (wants_plain rfl) rfl (still_bld (pl := []) (ds := [_, _]) rfl Tryd.zeroValue25 Tryd.runUnderlying25 places25_Lkc trivial rfl rfl) ?_
  refine OD.still (wants_plain rfl) rfl (still_mv rfl (opd_tmp rfl (by (repeat (first | exact look_hit | (apply look_miss; focus rfl) | exact look_nil)); done))) ?_
  refine OD.still (wants_plain rfl) rfl (still_bld (pl := [(0, _), (1, _), (2, _)]) (ds := [_, _, _]) rfl Tryd.zeroValue27 Tryd.runUnderlying27 places27_Lkc ⟨rfl, opd_const, rfl, opd_const, rfl, (opd_tmp rfl (by (repeat (first | exact look_hit | (apply look_miss; focus rfl) | exact look_nil)); done)), trivial⟩ rfl rfl) ?_
  refine OD.wk (Wk.view (t := 24) (d' := locksS [] []) (by (repeat (first | exact look_hit | (apply look_miss; focus rfl) | exact look_nil)); done) (view_agg (ds := [_, _]) ⟨view_nil, view_nil, trivial⟩)) ?_
  refine OD.callP (wants_plain rfl) rfl rfl rfl Tryd.call15 (ask_vp good_nil (more_one hmb)) ⟨(opd_tmp rfl (by (repeat (first | exact look_hit | (apply look_miss; focus rfl) | exact look_nil)); done)), (opd_tmp rfl (by (repeat (first | exact look_hit | (apply look_miss; focus rfl) | exact look_nil)); done)), trivial⟩ ?_
  refine OD.still (wants_plain rfl) rfl (still_mv rfl (opd_tmp rfl (by (repeat (first | exact look_hit | (apply look_miss; focus rfl) | exact look_nil)); done))) ?_
  refine OD.still (wants_plain rfl) rfl (still_extract rfl (opd_tmp rfl (by (repeat (first | exact look_hit | (apply look_miss; focus rfl) | exact look_nil)); done)) rfl) ?_
  refine OD.still (wants_plain rfl) rfl (still_extract rfl (opd_tmp rfl (by (repeat (first | exact look_hit | (apply look_miss; focus rfl) | exact look_nil)); done)) rfl) ?_
  refine OD.still (wants_plain rfl) rfl (still_extract rfl (opd_tmp rfl (by (repeat (first | exact look_hit | (apply look_miss; focus rfl) | exact look_nil)); done)) rfl) ?_
  refine OD.alloc (ds := [_, _]) (wants_plain rfl) rfl rfl Tryd.zeroValue25 rfl (fun b9 => ?_)
  refine OD.store (k := 0) (cs' := [_, _]) (wants_plain rfl) rfl rfl (opd_tmp rfl (by (repeat (first | exact look_hit | (apply look_miss; focus rfl) | exact look_nil)); done)) rfl rfl (opd_tmp rfl (by (repeat (first | exact look_hit | (apply look_miss; focus rfl) | exact look_nil)); done)) rfl rfl Tryd.sizeOf25 rfl rfl rfl ?_
  refine OD.still (wants_plain rfl) rfl (still_as rfl (opd_tmp rfl (by (repeat (first | exact look_hit | (apply look_miss; focus rfl) | exact look_nil)); done))) ?_
  refine OD.still (wants_plain rfl) rfl (still_as rfl (opd_tmp rfl (by (repeat (first | exact look_hit | (apply look_miss; focus rfl) | exact look_nil)); done))) ?_
  refine OD.wk (Wk.as_ (n := 86) (l' := [(2, _), (7, _), (8, _), (9, _), (10, _), (11, _)]) (S' := [⟨b9, 25, 2, [_, _]⟩]) rfl rfl ⟨(by (repeat (first | exact look_hit | (apply look_miss; focus rfl) | exact look_nil)); done), (by (repeat (first | exact look_hit | (apply look_miss; focus rfl) | exact look_nil)); done), (by (repeat (first | exact look_hit | (apply look_miss; focus rfl) | exact look_nil)); done), (by (repeat (first | exact look_hit | (apply look_miss; focus rfl) | exact look_nil)); done), (by (repeat (first | exact look_hit | (apply look_miss; focus rfl) | exact look_nil)); done), (by (repeat (first | exact look_hit | (apply look_miss; focus rfl) | exact look_nil)); done), trivial⟩) ?_
  refine OD.nil ?_
  refine CD.seq ?_
  refine CD.seq ?_
  refine CD.region ?_
  refine OD.still (wants_plain rfl) rfl (still_mv rfl (opd_tmp rfl (by (repeat (first | exact look_hit | (apply look_miss; focus rfl) | exact look_nil)); done))) ?_
  refine OD.still (wants_plain rfl) rfl (still_bin rfl (opd_tmp rfl (by (repeat (first | exact look_hit | (apply look_miss; focus rfl) | exact look_nil)); done)) opd_const bin_neq) ?_
  refine OD.still (wants_plain rfl) rfl (still_mv rfl (opd_tmp rfl (by (repeat (first | exact look_hit | (apply look_miss; focus rfl) | exact look_nil)); done))) ?_
  refine OD.split (t := 33) (by (repeat (first | exact look_hit | (apply look_miss; focus rfl) | exact look_nil)); done) (fun hg33 => ?_) (fun hg33 => ?_)
  · exact absurd hg33 (by simp at hg33)
  · have hg33' := hg33; simp only [decide_eq_true_eq, decide_eq_false_iff_not, beq_iff_eq, bne_iff_ne, Bool.not_eq_true', Bool.not_eq_false', Bool.not_eq_true, Bool.not_eq_false, beq_eq_false_iff_ne, ne_eq, bne_eq_false_iff_eq, Bool.and_eq_true, Bool.or_eq_true, Bool.not_not] at hg33'
    refine OD.still (wants_T rfl rfl rfl (by (repeat (first | exact look_hit | (apply look_miss; focus rfl) | exact look_nil)); done) (by first | rfl | assumption)) rfl (still_mv rfl (opd_tmp rfl (by (repeat (first | exact look_hit | (apply look_miss; focus rfl) | exact look_nil)); done))) ?_
    refine OD.still (wants_T rfl rfl rfl (by (repeat (first | exact look_hit | (apply look_miss; focus rfl) | exact look_nil)); done) (by first | rfl | assumption)) rfl (still_un rfl (opd_tmp rfl (by (repeat (first | exact look_hit | (apply look_miss; focus rfl) | exact look_nil)); done)) un_not) ?_
    refine OD.still (wants_plain rfl) rfl (still_pickF rfl (opd_tmp rfl (by (repeat (first | exact look_hit | (apply look_miss; focus rfl) | exact look_nil)); done)) (by first | rfl | assumption) (opd_tmp rfl (by (repeat (first | exact look_hit | (apply look_miss; focus rfl) | exact look_nil)); done))) ?_
    refine OD.wk (Wk.as_ (n := 86) (l' := [(2, _), (7, _), (8, _), (9, _), (36, _)]) (S' := [⟨b9, 25, 2, [_, _]⟩]) rfl rfl ⟨(by (repeat (first | exact look_hit | (apply look_miss; focus rfl) | exact look_nil)); done), (by (repeat (first | exact look_hit | (apply look_miss; focus rfl) | exact look_nil)); done), (by (repeat (first | exact look_hit | (apply look_miss; focus rfl) | exact look_nil)); done), (by (repeat (first | exact look_hit | (apply look_miss; focus rfl) | exact look_nil)); done), (by (repeat (first | exact look_hit | (apply look_miss; focus rfl) | exact look_nil)); done), trivial⟩) ?_
    refine OD.nil ?_
    refine CD.cond (opd_tmp rfl (by (repeat (first | exact look_hit | (apply look_miss; focus rfl) | exact look_nil)); done)) (fun hc0 => ?_) (fun hc0 => ?_)
    · exact absurd hc0 (by simp at hc0)
    · have hc0' := hc0
      (try simp only [decide_eq_true_eq, decide_eq_false_iff_not, beq_iff_eq, bne_iff_ne, Bool.not_eq_true', Bool.not_eq_false', Bool.not_eq_true, Bool.not_eq_false, beq_eq_false_iff_ne, ne_eq, bne_eq_false_iff_eq, Bool.and_eq_true, Bool.or_eq_true, Bool.not_not, Bool.and_eq_false_iff, Bool.or_eq_false_iff, Int.not_lt, Int.not_le] at hc0')
      refine CD.skip ?_
      refine CD.seq ?_
      refine CD.region ?_
      refine OD.still (wants_plain rfl) rfl (still_r1 (mk := Op.load 25) rfl (opd_tmp rfl (by (repeat (first | exact look_hit | (apply look_miss; focus rfl) | exact look_nil)); done)) (by first | exact ld_blks (k := 0) (ds := [_, _]) rfl rfl Tryd.isAgg25 Tryd.sizeOf25 rfl rfl | exact ld_fms cL_len Tryd.isAgg25 Tryd.sizeOf25 (by first | assumption | omega) | exact ld_fms cI_len Tryd.isAgg25 Tryd.sizeOf25 (by first | assumption | omega) | exact ld_rows (k := 0) cL_len rfl rfl rfl Tryd.isAgg25 Tryd.sizeOf25 (by first | assumption | omega) | exact ld_rows (k := 0) cI_len rfl rfl rfl Tryd.isAgg25 Tryd.sizeOf25 (by first | assumption | omega) | exact ld_is (ds := [_, _]) Tryd.isAgg25 Tryd.sizeOf25 rfl rfl)) ?_
      refine OD.still (wants_plain rfl) rfl (still_bld (pl := [(0, _), (1, _), (2, _)]) (ds := [_, _, _]) rfl Tryd.zeroValue27 Tryd.runUnderlying27 places27_Lkc ⟨rfl, opd_const, rfl, opd_const, rfl, opd_const, trivial⟩ rfl rfl) ?_
      refine OD.callP (wants_plain rfl) rfl rfl rfl Tryd.call15 (ask_vp g1 (more_two hmb)) ⟨(opd_tmp rfl (by (repeat (first | exact look_hit | (apply look_miss; focus rfl) | exact look_nil)); done)), (opd_tmp rfl (by (repeat (first | exact look_hit | (apply look_miss; focus rfl) | exact look_nil)); done)), trivial⟩ ?_
      refine OD.still (wants_plain rfl) rfl (still_mv rfl (opd_tmp rfl (by (repeat (first | exact look_hit | (apply look_miss; focus rfl) | exact look_nil)); done))) ?_
      refine OD.still (wants_plain rfl) rfl (still_extract rfl (opd_tmp rfl (by (repeat (first | exact look_hit | (apply look_miss; focus rfl) | exact look_nil)); done)) rfl) ?_
      refine OD.still (wants_plain rfl) rfl (still_extract rfl (opd_tmp rfl (by (repeat (first | exact look_hit | (apply look_miss; focus rfl) | exact look_nil)); done)) rfl) ?_
      refine OD.still (wants_plain rfl) rfl (still_extract rfl (opd_tmp rfl (by (repeat (first | exact look_hit | (apply look_miss; focus rfl) | exact look_nil)); done)) rfl) ?_
      refine OD.store (k := 0) (cs' := [_, _]) (wants_plain rfl) rfl rfl (opd_tmp rfl (by (repeat (first | exact look_hit | (apply look_miss; focus rfl) | exact look_nil)); done)) rfl rfl (opd_tmp rfl (by (repeat (first | exact look_hit | (apply look_miss; focus rfl) | exact look_nil)); done)) rfl rfl Tryd.sizeOf25 rfl rfl rfl ?_
      refine OD.still (wants_plain rfl) rfl (still_as rfl (opd_tmp rfl (by (repeat (first | exact look_hit | (apply look_miss; focus rfl) | exact look_nil)); done))) ?_
      refine OD.wk (Wk.as_ (n := 86) (l' := [(2, _), (7, _), (8, _), (9, _), (11, _)]) (S' := [⟨b9, 25, 2, [_, _]⟩]) rfl rfl ⟨(by (repeat (first | exact look_hit | (apply look_miss; focus rfl) | exact look_nil)); done), (by (repeat (first | exact look_hit | (apply look_miss; focus rfl) | exact look_nil)); done), (by (repeat (first | exact look_hit | (apply look_miss; focus rfl) | exact look_nil)); done), (by (repeat (first | exact look_hit | (apply look_miss; focus rfl) | exact look_nil)); done), (by (repeat (first | exact look_hit | (apply look_miss; focus rfl) | exact look_nil)); done), trivial⟩) ?_
      refine OD.nil ?_
      refine CD.seq ?_
      refine CD.seq ?_
      refine CD.region ?_
      refine OD.still (wants_plain rfl) rfl (still_mv rfl (opd_tmp rfl (by (repeat (first | exact look_hit | (apply look_miss; focus rfl) | exact look_nil)); done))) ?_
      refine OD.callP (wants_plain rfl) rfl rfl rfl Tryd.call14 (picked_vp _ c 2 h5 h6 (by decide)) ⟨(opd_tmp rfl (by (repeat (first | exact look_hit | (apply look_miss; focus rfl) | exact look_nil)); done)), opd_const, trivial⟩ ?_
      refine OD.still (wants_plain rfl) rfl (still_bin rfl (opd_tmp rfl (by (repeat (first | exact look_hit | (apply look_miss; focus rfl) | exact look_nil)); done)) opd_const bin_eql) ?_
      refine OD.wk (Wk.as_ (n := 86) (l' := [(7, _), (8, _), (9, _), (11, _), (46, _)]) (S' := [⟨b9, 25, 2, [_, _]⟩]) rfl rfl ⟨(by (repeat (first | exact look_hit | (apply look_miss; focus rfl) | exact look_nil)); done), (by (repeat (first | exact look_hit | (apply look_miss; focus rfl) | exact look_nil)); done), (by (repeat (first | exact look_hit | (apply look_miss; focus rfl) | exact look_nil)); done), (by (repeat (first | exact look_hit | (apply look_miss; focus rfl) | exact look_nil)); done), (by (repeat (first | exact look_hit | (apply look_miss; focus rfl) | exact look_nil)); done), trivial⟩) ?_
      refine OD.nil ?_
      refine CD.cond (opd_tmp rfl (by (repeat (first | exact look_hit | (apply look_miss; focus rfl) | exact look_nil)); done)) (fun hc1 => ?_) (fun hc1 => ?_)
      · have hc1' := hc1
        (try simp only [decide_eq_true_eq, decide_eq_false_iff_not, beq_iff_eq, bne_iff_ne, Bool.not_eq_true', Bool.not_eq_false', Bool.not_eq_true, Bool.not_eq_false, beq_eq_false_iff_ne, ne_eq, bne_eq_false_iff_eq, Bool.and_eq_true, Bool.or_eq_true, Bool.not_not, Bool.and_eq_false_iff, Bool.or_eq_false_iff, Int.not_lt, Int.not_le] at hc1')
        refine CD.region ?_
        refine OD.still (wants_plain rfl) rfl (still_r1 (mk := Op.load 25) rfl (opd_tmp rfl (by (repeat (first | exact look_hit | (apply look_miss; focus rfl) | exact look_nil)); done)) (by first | exact ld_blks (k := 0) (ds := [_, _]) rfl rfl Tryd.isAgg25 Tryd.sizeOf25 rfl rfl | exact ld_fms cL_len Tryd.isAgg25 Tryd.sizeOf25 (by first | assumption | omega) | exact ld_fms cI_len Tryd.isAgg25 Tryd.sizeOf25 (by first | assumption | omega) | exact ld_rows (k := 0) cL_len rfl rfl rfl Tryd.isAgg25 Tryd.sizeOf25 (by first | assumption | omega) | exact ld_rows (k := 0) cI_len rfl rfl rfl Tryd.isAgg25 Tryd.sizeOf25 (by first | assumption | omega) | exact ld_is (ds := [_, _]) Tryd.isAgg25 Tryd.sizeOf25 rfl rfl)) ?_
        refine OD.callP (wants_plain rfl) rfl rfl rfl Tryd.call17 (leave_vp g2 (more_leave m)) ⟨(opd_tmp rfl (by (repeat (first | exact look_hit | (apply look_miss; focus rfl) | exact look_nil)); done)), opd_const, trivial⟩ ?_
        refine OD.still (wants_plain rfl) rfl (still_mv rfl (opd_tmp rfl (by (repeat (first | exact look_hit | (apply look_miss; focus rfl) | exact look_nil)); done))) ?_
        refine OD.still (wants_plain rfl) rfl (still_extract rfl (opd_tmp rfl (by (repeat (first | exact look_hit | (apply look_miss; focus rfl) | exact look_nil)); done)) rfl) ?_
        refine OD.still (wants_plain rfl) rfl (still_extract rfl (opd_tmp rfl (by (repeat (first | exact look_hit | (apply look_miss; focus rfl) | exact look_nil)); done)) rfl) ?_
        refine OD.still (wants_plain rfl) rfl (still_extract rfl (opd_tmp rfl (by (repeat (first | exact look_hit | (apply look_miss; focus rfl) | exact look_nil)); done)) rfl) ?_
        refine OD.store (k := 0) (cs' := [_, _]) (wants_plain rfl) rfl rfl (opd_tmp rfl (by (repeat (first | exact look_hit | (apply look_miss; focus rfl) | exact look_nil)); done)) rfl rfl (opd_tmp rfl (by (repeat (first | exact look_hit | (apply look_miss; focus rfl) | exact look_nil)); done)) rfl rfl Tryd.sizeOf25 rfl rfl rfl ?_
        refine OD.still (wants_plain rfl) rfl (still_as rfl (opd_tmp rfl (by (repeat (first | exact look_hit | (apply look_miss; focus rfl) | exact look_nil)); done))) ?_
        refine OD.wk (Wk.as_ (n := 86) (l' := [(7, _), (8, _), (9, _), (11, _)]) (S' := [⟨b9, 25, 2, [_, _]⟩]) rfl rfl ⟨(by (repeat (first | exact look_hit | (apply look_miss; focus rfl) | exact look_nil)); done), (by (repeat (first | exact look_hit | (apply look_miss; focus rfl) | exact look_nil)); done), (by (repeat (first | exact look_hit | (apply look_miss; focus rfl) | exact look_nil)); done), (by (repeat (first | exact look_hit | (apply look_miss; focus rfl) | exact look_nil)); done), trivial⟩) ?_
        refine OD.nil ?_
        refine CD.seq ?_
        refine CD.region ?_
        refine OD.still (wants_plain rfl) rfl (still_r1 (mk := Op.load 25) rfl (opd_tmp rfl (by (repeat (first | exact look_hit | (apply look_miss; focus rfl) | exact look_nil)); done)) (by first | exact ld_blks (k := 0) (ds := [_, _]) rfl rfl Tryd.isAgg25 Tryd.sizeOf25 rfl rfl | exact ld_fms cL_len Tryd.isAgg25 Tryd.sizeOf25 (by first | assumption | omega) | exact ld_fms cI_len Tryd.isAgg25 Tryd.sizeOf25 (by first | assumption | omega) | exact ld_rows (k := 0) cL_len rfl rfl rfl Tryd.isAgg25 Tryd.sizeOf25 (by first | assumption | omega) | exact ld_rows (k := 0) cI_len rfl rfl rfl Tryd.isAgg25 Tryd.sizeOf25 (by first | assumption | omega) | exact ld_is (ds := [_, _]) Tryd.isAgg25 Tryd.sizeOf25 rfl rfl)) ?_
        refine OD.still (wants_plain rfl) rfl (still_mv rfl (opd_tmp rfl (by (repeat (first | exact look_hit | (apply look_miss; focus rfl) | exact look_nil)); done))) ?_
        refine OD.still (wants_plain rfl) rfl (still_bld (pl := [(0, _), (1, _), (2, _)]) (ds := [_, _, _]) rfl Tryd.zeroValue27 Tryd.runUnderlying27 places27_Lkc ⟨rfl, opd_const, rfl, opd_const, rfl, (opd_tmp rfl (by (repeat (first | exact look_hit | (apply look_miss; focus rfl) | exact look_nil)); done)), trivial⟩ rfl rfl) ?_
        refine OD.callP (wants_plain rfl) rfl rfl rfl Tryd.call15 (ask_vp g3 (more_ask hmb hxb (.inl rfl))) ⟨(opd_tmp rfl (by (repeat (first | exact look_hit | (apply look_miss; focus rfl) | exact look_nil)); done)), (opd_tmp rfl (by (repeat (first | exact look_hit | (apply look_miss; focus rfl) | exact look_nil)); done)), trivial⟩ ?_
        refine OD.still (wants_plain rfl) rfl (still_mv rfl (opd_tmp rfl (by (repeat (first | exact look_hit | (apply look_miss; focus rfl) | exact look_nil)); done))) ?_
        refine OD.still (wants_plain rfl) rfl (still_extract rfl (opd_tmp rfl (by (repeat (first | exact look_hit | (apply look_miss; focus rfl) | exact look_nil)); done)) rfl) ?_
        refine OD.still (wants_plain rfl) rfl (still_extract rfl (opd_tmp rfl (by (repeat (first | exact look_hit | (apply look_miss; focus rfl) | exact look_nil)); done)) rfl) ?_
        refine OD.still (wants_plain rfl) rfl (still_extract rfl (opd_tmp rfl (by (repeat (first | exact look_hit | (apply look_miss; focus rfl) | exact look_nil)); done)) rfl) ?_
        refine OD.alloc (ds := [_, _]) (wants_plain rfl) rfl rfl Tryd.zeroValue25 rfl (fun b12 => ?_)
        refine OD.store (k := 0) (cs' := [_, _]) (wants_plain rfl) rfl rfl (opd_tmp rfl (by (repeat (first | exact look_hit | (apply look_miss; focus rfl) | exact look_nil)); done)) rfl rfl (opd_tmp rfl (by (repeat (first | exact look_hit | (apply look_miss; focus rfl) | exact look_nil)); done)) rfl rfl Tryd.sizeOf25 rfl rfl rfl ?_
        refine OD.still (wants_plain rfl) rfl (still_as rfl (opd_tmp rfl (by (repeat (first | exact look_hit | (apply look_miss; focus rfl) | exact look_nil)); done))) ?_
        refine OD.still (wants_plain rfl) rfl (still_as rfl (opd_tmp rfl (by (repeat (first | exact look_hit | (apply look_miss; focus rfl) | exact look_nil)); done))) ?_
        refine OD.wk (Wk.as_ (n := 86) (l' := [(7, _), (8, _), (11, _), (12, _), (13, _), (14, _)]) (S' := [⟨b12, 25, 2, [_, _]⟩, ⟨b9, 25, 2, [_, _]⟩]) rfl rfl ⟨(by (repeat (first | exact look_hit | (apply look_miss; focus rfl) | exact look_nil)); done), (by (repeat (first | exact look_hit | (apply look_miss; focus rfl) | exact look_nil)); done), (by (repeat (first | exact look_hit | (apply look_miss; focus rfl) | exact look_nil)); done), (by (repeat (first | exact look_hit | (apply look_miss; focus rfl) | exact look_nil)); done), (by (repeat (first | exact look_hit | (apply look_miss; focus rfl) | exact look_nil)); done), (by (repeat (first | exact look_hit | (apply look_miss; focus rfl) | exact look_nil)); done), trivial⟩) ?_
        refine OD.nil ?_
        refine CD.seq ?_
        refine CD.region ?_
        refine OD.still (wants_plain rfl) rfl (still_mv rfl (opd_tmp rfl (by (repeat (first | exact look_hit | (apply look_miss; focus rfl) | exact look_nil)); done))) ?_
        refine OD.still (wants_plain rfl) rfl (still_mv rfl (opd_tmp rfl (by (repeat (first | exact look_hit | (apply look_miss; focus rfl) | exact look_nil)); done))) ?_
        refine OD.callP (wants_plain rfl) rfl rfl rfl Tryd.call22 (join_vp m x hmb hxb) ⟨(opd_tmp rfl (by (repeat (first | exact look_hit | (apply look_miss; focus rfl) | exact look_nil)); done)), (opd_tmp rfl (by (repeat (first | exact look_hit | (apply look_miss; focus rfl) | exact look_nil)); done)), trivial⟩ ?_
        refine OD.still (wants_plain rfl) rfl (still_mv rfl (opd_tmp rfl (by (repeat (first | exact look_hit | (apply look_miss; focus rfl) | exact look_nil)); done))) ?_
        refine OD.still (wants_plain rfl) rfl (still_extract rfl (opd_tmp rfl (by (repeat (first | exact look_hit | (apply look_miss; focus rfl) | exact look_nil)); done)) rfl) ?_
        refine OD.still (wants_plain rfl) rfl (still_extract rfl (opd_tmp rfl (by (repeat (first | exact look_hit | (apply look_miss; focus rfl) | exact look_nil)); done)) rfl) ?_
        refine OD.still (wants_plain rfl) rfl (still_as rfl (opd_tmp rfl (by (repeat (first | exact look_hit | (apply look_miss; focus rfl) | exact look_nil)); done))) ?_
        refine OD.still (wants_plain rfl) rfl (still_as rfl (opd_tmp rfl (by (repeat (first | exact look_hit | (apply look_miss; focus rfl) | exact look_nil)); done))) ?_
        refine OD.wk (Wk.as_ (n := 86) (l' := [(11, _), (12, _), (13, _), (14, _), (15, _), (16, _)]) (S' := [⟨b12, 25, 2, [_, _]⟩, ⟨b9, 25, 2, [_, _]⟩]) rfl rfl ⟨(by (repeat (first | exact look_hit | (apply look_miss; focus rfl) | exact look_nil)); done), (by (repeat (first | exact look_hit | (apply look_miss; focus rfl) | exact look_nil)); done), (by (repeat (first | exact look_hit | (apply look_miss; focus rfl) | exact look_nil)); done), (by (repeat (first | exact look_hit | (apply look_miss; focus rfl) | exact look_nil)); done), (by (repeat (first | exact look_hit | (apply look_miss; focus rfl) | exact look_nil)); done), (by (repeat (first | exact look_hit | (apply look_miss; focus rfl) | exact look_nil)); done), trivial⟩) ?_
        refine OD.nil ?_
        refine CD.seq ?_
        refine CD.region ?_
        refine OD.still (wants_plain rfl) rfl (still_mv rfl (opd_tmp rfl (by (repeat (first | exact look_hit | (apply look_miss; focus rfl) | exact look_nil)); done))) ?_
        refine OD.still (wants_plain rfl) rfl (still_bin rfl (opd_tmp rfl (by (repeat (first | exact look_hit | (apply look_miss; focus rfl) | exact look_nil)); done)) opd_const bin_eql) ?_
        refine OD.still (wants_plain rfl) rfl (still_mv rfl (opd_tmp rfl (by (repeat (first | exact look_hit | (apply look_miss; focus rfl) | exact look_nil)); done))) ?_
        refine OD.split (t := 69) (by (repeat (first | exact look_hit | (apply look_miss; focus rfl) | exact look_nil)); done) (fun hg69 => ?_) (fun hg69 => ?_)
        · have hg69' := hg69; simp only [decide_eq_true_eq, decide_eq_false_iff_not, beq_iff_eq, bne_iff_ne, Bool.not_eq_true', Bool.not_eq_false', Bool.not_eq_true, Bool.not_eq_false, beq_eq_false_iff_ne, ne_eq, bne_eq_false_iff_eq, Bool.and_eq_true, Bool.or_eq_true, Bool.not_not] at hg69'
          refine OD.still (wants_T rfl rfl rfl (by (repeat (first | exact look_hit | (apply look_miss; focus rfl) | exact look_nil)); done) (by first | rfl | assumption)) rfl (still_mv rfl (opd_tmp rfl (by (repeat (first | exact look_hit | (apply look_miss; focus rfl) | exact look_nil)); done))) ?_
          refine OD.still (wants_T rfl rfl rfl (by (repeat (first | exact look_hit | (apply look_miss; focus rfl) | exact look_nil)); done) (by first | rfl | assumption)) rfl (still_bin rfl (opd_tmp rfl (by (repeat (first | exact look_hit | (apply look_miss; focus rfl) | exact look_nil)); done)) opd_const bin_eql) ?_
          refine OD.still (wants_plain rfl) rfl (still_pickT rfl (opd_tmp rfl (by (repeat (first | exact look_hit | (apply look_miss; focus rfl) | exact look_nil)); done)) (by first | rfl | assumption) (opd_tmp rfl (by (repeat (first | exact look_hit | (apply look_miss; focus rfl) | exact look_nil)); done))) ?_
          refine OD.still (wants_plain rfl) rfl (still_mv rfl (opd_tmp rfl (by (repeat (first | exact look_hit | (apply look_miss; focus rfl) | exact look_nil)); done))) ?_
          refine OD.split (t := 73) (by (repeat (first | exact look_hit | (apply look_miss; focus rfl) | exact look_nil)); done) (fun hg73 => ?_) (fun hg73 => ?_)
          · have hg73' := hg73; simp only [decide_eq_true_eq, decide_eq_false_iff_not, beq_iff_eq, bne_iff_ne, Bool.not_eq_true', Bool.not_eq_false', Bool.not_eq_true, Bool.not_eq_false, beq_eq_false_iff_ne, ne_eq, bne_eq_false_iff_eq, Bool.and_eq_true, Bool.or_eq_true, Bool.not_not] at hg73'
            refine OD.still (wants_T rfl rfl rfl (by (repeat (first | exact look_hit | (apply look_miss; focus rfl) | exact look_nil)); done) (by first | rfl | assumption)) rfl (still_mv rfl (opd_tmp rfl (by (repeat (first | exact look_hit | (apply look_miss; focus rfl) | exact look_nil)); done))) ?_
            refine OD.still (wants_T rfl rfl rfl (by (repeat (first | exact look_hit | (apply look_miss; focus rfl) | exact look_nil)); done) (by first | rfl | assumption)) rfl (still_bin rfl (opd_tmp rfl (by (repeat (first | exact look_hit | (apply look_miss; focus rfl) | exact look_nil)); done)) opd_const bin_eql) ?_
            refine OD.still (wants_plain rfl) rfl (still_pickT rfl (opd_tmp rfl (by (repeat (first | exact look_hit | (apply look_miss; focus rfl) | exact look_nil)); done)) (by first | rfl | assumption) (opd_tmp rfl (by (repeat (first | exact look_hit | (apply look_miss; focus rfl) | exact look_nil)); done))) ?_
            refine OD.still (wants_plain rfl) rfl (still_mv rfl (opd_tmp rfl (by (repeat (first | exact look_hit | (apply look_miss; focus rfl) | exact look_nil)); done))) ?_
            refine OD.split (t := 77) (by (repeat (first | exact look_hit | (apply look_miss; focus rfl) | exact look_nil)); done) (fun hg77 => ?_) (fun hg77 => ?_)
            · have hg77' := hg77; simp only [decide_eq_true_eq, decide_eq_false_iff_not, beq_iff_eq, bne_iff_ne, Bool.not_eq_true', Bool.not_eq_false', Bool.not_eq_true, Bool.not_eq_false, beq_eq_false_iff_ne, ne_eq, bne_eq_false_iff_eq, Bool.and_eq_true, Bool.or_eq_true, Bool.not_not] at hg77'
              refine OD.still (wants_T rfl rfl rfl (by (repeat (first | exact look_hit | (apply look_miss; focus rfl) | exact look_nil)); done) (by first | rfl | assumption)) rfl (still_mv rfl (opd_tmp rfl (by (repeat (first | exact look_hit | (apply look_miss; focus rfl) | exact look_nil)); done))) ?_
              refine OD.still (wants_plain rfl) rfl (still_pickT rfl (opd_tmp rfl (by (repeat (first | exact look_hit | (apply look_miss; focus rfl) | exact look_nil)); done)) (by first | rfl | assumption) (opd_tmp rfl (by (repeat (first | exact look_hit | (apply look_miss; focus rfl) | exact look_nil)); done))) ?_
              refine OD.still (wants_plain rfl) rfl (still_mv rfl (opd_tmp rfl (by (repeat (first | exact look_hit | (apply look_miss; focus rfl) | exact look_nil)); done))) ?_
              refine OD.split (t := 80) (by (repeat (first | exact look_hit | (apply look_miss; focus rfl) | exact look_nil)); done) (fun hg80 => ?_) (fun hg80 => ?_)
              · have hg80' := hg80; simp only [decide_eq_true_eq, decide_eq_false_iff_not, beq_iff_eq, bne_iff_ne, Bool.not_eq_true', Bool.not_eq_false', Bool.not_eq_true, Bool.not_eq_false, beq_eq_false_iff_ne, ne_eq, bne_eq_false_iff_eq, Bool.and_eq_true, Bool.or_eq_true, Bool.not_not] at hg80'
                refine OD.still (wants_T rfl rfl rfl (by (repeat (first | exact look_hit | (apply look_miss; focus rfl) | exact look_nil)); done) (by first | rfl | assumption)) rfl (still_r1 (mk := Op.load 25) rfl (opd_tmp rfl (by (repeat (first | exact look_hit | (apply look_miss; focus rfl) | exact look_nil)); done)) (by first | exact ld_blks (k := 0) (ds := [_, _]) rfl rfl Tryd.isAgg25 Tryd.sizeOf25 rfl rfl | exact ld_fms cL_len Tryd.isAgg25 Tryd.sizeOf25 (by first | assumption | omega) | exact ld_fms cI_len Tryd.isAgg25 Tryd.sizeOf25 (by first | assumption | omega) | exact ld_rows (k := 0) cL_len rfl rfl rfl Tryd.isAgg25 Tryd.sizeOf25 (by first | assumption | omega) | exact ld_rows (k := 1) cL_len rfl rfl rfl Tryd.isAgg25 Tryd.sizeOf25 (by first | assumption | omega) | exact ld_rows (k := 0) cI_len rfl rfl rfl Tryd.isAgg25 Tryd.sizeOf25 (by first | assumption | omega) | exact ld_rows (k := 1) cI_len rfl rfl rfl Tryd.isAgg25 Tryd.sizeOf25 (by first | assumption | omega) | exact ld_is (ds := [_, _]) Tryd.isAgg25 Tryd.sizeOf25 rfl rfl)) ?_
                refine OD.callP (wants_T rfl rfl rfl (by (repeat (first | exact look_hit | (apply look_miss; focus rfl) | exact look_nil)); done) (by first | rfl | assumption)) rfl rfl rfl Tryd.call19 (modeOf_vp _ [oneM (joinsF m x)] _ 1 ⟨#[97]⟩ (by show 1 ≤ 1000000; decide)) ⟨(opd_tmp rfl (by (repeat (first | exact look_hit | (apply look_miss; focus rfl) | exact look_nil)); done)), opd_const, opd_const, trivial⟩ ?_
                refine OD.still (wants_T rfl rfl rfl (by (repeat (first | exact look_hit | (apply look_miss; focus rfl) | exact look_nil)); done) (by first | rfl | assumption)) rfl (still_mv rfl (opd_tmp rfl (by (repeat (first | exact look_hit | (apply look_miss; focus rfl) | exact look_nil)); done))) ?_
                refine OD.still (wants_T rfl rfl rfl (by (repeat (first | exact look_hit | (apply look_miss; focus rfl) | exact look_nil)); done) (by first | rfl | assumption)) rfl (still_bin rfl (opd_tmp rfl (by (repeat (first | exact look_hit | (apply look_miss; focus rfl) | exact look_nil)); done)) (opd_tmp rfl (by (repeat (first | exact look_hit | (apply look_miss; focus rfl) | exact look_nil)); done)) bin_eql) ?_
                refine OD.still (wants_plain rfl) rfl (still_pickT rfl (opd_tmp rfl (by (repeat (first | exact look_hit | (apply look_miss; focus rfl) | exact look_nil)); done)) (by first | rfl | assumption) (opd_tmp rfl (by (repeat (first | exact look_hit | (apply look_miss; focus rfl) | exact look_nil)); done))) ?_
                refine OD.still (wants_plain rfl) rfl (still_as rfl (opd_tmp rfl (by (repeat (first | exact look_hit | (apply look_miss; focus rfl) | exact look_nil)); done))) ?_
                refine OD.wk (Wk.as_ (n := 86) (l' := [(6, _)]) (S' := [⟨b12, 25, 2, [_, _]⟩, ⟨b9, 25, 2, [_, _]⟩]) rfl rfl ⟨(by (repeat (first | exact look_hit | (apply look_miss; focus rfl) | exact look_nil)); done), trivial⟩) ?_
                refine OD.nil ?_
                refine CD.ret ?_
                refine ⟨.inr rfl, _, [], List.nil_sublist _, ret_one Tryd.results11 (res_tmp (Nat.le_of_ble_eq_true rfl) (by (repeat (first | exact look_hit | (apply look_miss; focus rfl) | exact look_nil)); done)), ?_⟩
                first | (rw [show modeF [oneM (joinsF m x)] 1 ⟨#[97]⟩ = joinsF m x from modeF_head (x := oneM (joinsF m x))]; refine ⟨?_, rfl⟩; simp) | skip
              · exact absurd hg80 (by simp at hg80)
            · exact absurd hg77 (by simp at hg77)
          · exact absurd hg73 (by simp at hg73)
        · exact absurd hg69 (by simp at hg69)
      · have hc1' := hc1
        (try simp only [decide_eq_true_eq, decide_eq_false_iff_not, beq_iff_eq, bne_iff_ne, Bool.not_eq_true', Bool.not_eq_false', Bool.not_eq_true, Bool.not_eq_false, beq_eq_false_iff_ne, ne_eq, bne_eq_false_iff_eq, Bool.and_eq_true, Bool.or_eq_true, Bool.not_not, Bool.and_eq_false_iff, Bool.or_eq_false_iff, Int.not_lt, Int.not_le] at hc1')
        refine CD.skip ?_
        refine CD.seq ?_
        refine CD.region ?_
        refine OD.still (wants_plain rfl) rfl (still_r1 (mk := Op.load 25) rfl (opd_tmp rfl (by (repeat (first | exact look_hit | (apply look_miss; focus rfl) | exact look_nil)); done)) (by first | exact ld_blks (k := 0) (ds := [_, _]) rfl rfl Tryd.isAgg25 Tryd.sizeOf25 rfl rfl | exact ld_fms cL_len Tryd.isAgg25 Tryd.sizeOf25 (by first | assumption | omega) | exact ld_fms cI_len Tryd.isAgg25 Tryd.sizeOf25 (by first | assumption | omega) | exact ld_rows (k := 0) cL_len rfl rfl rfl Tryd.isAgg25 Tryd.sizeOf25 (by first | assumption | omega) | exact ld_rows (k := 0) cI_len rfl rfl rfl Tryd.isAgg25 Tryd.sizeOf25 (by first | assumption | omega) | exact ld_is (ds := [_, _]) Tryd.isAgg25 Tryd.sizeOf25 rfl rfl)) ?_
        refine OD.still (wants_plain rfl) rfl (still_mv rfl (opd_tmp rfl (by (repeat (first | exact look_hit | (apply look_miss; focus rfl) | exact look_nil)); done))) ?_
        refine OD.still (wants_plain rfl) rfl (still_bld (pl := [(0, _), (1, _), (2, _)]) (ds := [_, _, _]) rfl Tryd.zeroValue27 Tryd.runUnderlying27 places27_Lkc ⟨rfl, opd_const, rfl, opd_const, rfl, (opd_tmp rfl (by (repeat (first | exact look_hit | (apply look_miss; focus rfl) | exact look_nil)); done)), trivial⟩ rfl rfl) ?_
        refine OD.callP (wants_plain rfl) rfl rfl rfl Tryd.call15 (ask_vp g2 (more_ask hmb hxb (.inr rfl))) ⟨(opd_tmp rfl (by (repeat (first | exact look_hit | (apply look_miss; focus rfl) | exact look_nil)); done)), (opd_tmp rfl (by (repeat (first | exact look_hit | (apply look_miss; focus rfl) | exact look_nil)); done)), trivial⟩ ?_
        refine OD.still (wants_plain rfl) rfl (still_mv rfl (opd_tmp rfl (by (repeat (first | exact look_hit | (apply look_miss; focus rfl) | exact look_nil)); done))) ?_
        refine OD.still (wants_plain rfl) rfl (still_extract rfl (opd_tmp rfl (by (repeat (first | exact look_hit | (apply look_miss; focus rfl) | exact look_nil)); done)) rfl) ?_
        refine OD.still (wants_plain rfl) rfl (still_extract rfl (opd_tmp rfl (by (repeat (first | exact look_hit | (apply look_miss; focus rfl) | exact look_nil)); done)) rfl) ?_
        refine OD.still (wants_plain rfl) rfl (still_extract rfl (opd_tmp rfl (by (repeat (first | exact look_hit | (apply look_miss; focus rfl) | exact look_nil)); done)) rfl) ?_
        refine OD.alloc (ds := [_, _]) (wants_plain rfl) rfl rfl Tryd.zeroValue25 rfl (fun b12 => ?_)
        refine OD.store (k := 0) (cs' := [_, _]) (wants_plain rfl) rfl rfl (opd_tmp rfl (by (repeat (first | exact look_hit | (apply look_miss; focus rfl) | exact look_nil)); done)) rfl rfl (opd_tmp rfl (by (repeat (first | exact look_hit | (apply look_miss; focus rfl) | exact look_nil)); done)) rfl rfl Tryd.sizeOf25 rfl rfl rfl ?_
        refine OD.still (wants_plain rfl) rfl (still_as rfl (opd_tmp rfl (by (repeat (first | exact look_hit | (apply look_miss; focus rfl) | exact look_nil)); done))) ?_
        refine OD.still (wants_plain rfl) rfl (still_as rfl (opd_tmp rfl (by (repeat (first | exact look_hit | (apply look_miss; focus rfl) | exact look_nil)); done))) ?_
        refine OD.wk (Wk.as_ (n := 86) (l' := [(7, _), (8, _), (11, _), (12, _), (13, _), (14, _)]) (S' := [⟨b12, 25, 2, [_, _]⟩, ⟨b9, 25, 2, [_, _]⟩]) rfl rfl ⟨(by (repeat (first | exact look_hit | (apply look_miss; focus rfl) | exact look_nil)); done), (by (repeat (first | exact look_hit | (apply look_miss; focus rfl) | exact look_nil)); done), (by (repeat (first | exact look_hit | (apply look_miss; focus rfl) | exact look_nil)); done), (by (repeat (first | exact look_hit | (apply look_miss; focus rfl) | exact look_nil)); done), (by (repeat (first | exact look_hit | (apply look_miss; focus rfl) | exact look_nil)); done), (by (repeat (first | exact look_hit | (apply look_miss; focus rfl) | exact look_nil)); done), trivial⟩) ?_
        refine OD.nil ?_
        refine CD.seq ?_
        refine CD.region ?_
        refine OD.still (wants_plain rfl) rfl (still_mv rfl (opd_tmp rfl (by (repeat (first | exact look_hit | (apply look_miss; focus rfl) | exact look_nil)); done))) ?_
        refine OD.still (wants_plain rfl) rfl (still_mv rfl (opd_tmp rfl (by (repeat (first | exact look_hit | (apply look_miss; focus rfl) | exact look_nil)); done))) ?_
        refine OD.callP (wants_plain rfl) rfl rfl rfl Tryd.call22 (join_vp m x hmb hxb) ⟨(opd_tmp rfl (by (repeat (first | exact look_hit | (apply look_miss; focus rfl) | exact look_nil)); done)), (opd_tmp rfl (by (repeat (first | exact look_hit | (apply look_miss; focus rfl) | exact look_nil)); done)), trivial⟩ ?_
        refine OD.still (wants_plain rfl) rfl (still_mv rfl (opd_tmp rfl (by (repeat (first | exact look_hit | (apply look_miss; focus rfl) | exact look_nil)); done))) ?_
        refine OD.still (wants_plain rfl) rfl (still_extract rfl (opd_tmp rfl (by (repeat (first | exact look_hit | (apply look_miss; focus rfl) | exact look_nil)); done)) rfl) ?_
        refine OD.still (wants_plain rfl) rfl (still_extract rfl (opd_tmp rfl (by (repeat (first | exact look_hit | (apply look_miss; focus rfl) | exact look_nil)); done)) rfl) ?_
        refine OD.still (wants_plain rfl) rfl (still_as rfl (opd_tmp rfl (by (repeat (first | exact look_hit | (apply look_miss; focus rfl) | exact look_nil)); done))) ?_
        refine OD.still (wants_plain rfl) rfl (still_as rfl (opd_tmp rfl (by (repeat (first | exact look_hit | (apply look_miss; focus rfl) | exact look_nil)); done))) ?_
        refine OD.wk (Wk.as_ (n := 86) (l' := [(11, _), (12, _), (13, _), (14, _), (15, _), (16, _)]) (S' := [⟨b12, 25, 2, [_, _]⟩, ⟨b9, 25, 2, [_, _]⟩]) rfl rfl ⟨(by (repeat (first | exact look_hit | (apply look_miss; focus rfl) | exact look_nil)); done), (by (repeat (first | exact look_hit | (apply look_miss; focus rfl) | exact look_nil)); done), (by (repeat (first | exact look_hit | (apply look_miss; focus rfl) | exact look_nil)); done), (by (repeat (first | exact look_hit | (apply look_miss; focus rfl) | exact look_nil)); done), (by (repeat (first | exact look_hit | (apply look_miss; focus rfl) | exact look_nil)); done), (by (repeat (first | exact look_hit | (apply look_miss; focus rfl) | exact look_nil)); done), trivial⟩) ?_
        refine OD.nil ?_
        refine CD.seq ?_
        refine CD.region ?_
        refine OD.still (wants_plain rfl) rfl (still_mv rfl (opd_tmp rfl (by (repeat (first | exact look_hit | (apply look_miss; focus rfl) | exact look_nil)); done))) ?_
        refine OD.still (wants_plain rfl) rfl (still_bin rfl (opd_tmp rfl (by (repeat (first | exact look_hit | (apply look_miss; focus rfl) | exact look_nil)); done)) opd_const bin_eql) ?_
        refine OD.still (wants_plain rfl) rfl (still_mv rfl (opd_tmp rfl (by (repeat (first | exact look_hit | (apply look_miss; focus rfl) | exact look_nil)); done))) ?_
        refine OD.split (t := 69) (by (repeat (first | exact look_hit | (apply look_miss; focus rfl) | exact look_nil)); done) (fun hg69 => ?_) (fun hg69 => ?_)
        · have hg69' := hg69; simp only [decide_eq_true_eq, decide_eq_false_iff_not, beq_iff_eq, bne_iff_ne, Bool.not_eq_true', Bool.not_eq_false', Bool.not_eq_true, Bool.not_eq_false, beq_eq_false_iff_ne, ne_eq, bne_eq_false_iff_eq, Bool.and_eq_true, Bool.or_eq_true, Bool.not_not] at hg69'
          refine OD.still (wants_T rfl rfl rfl (by (repeat (first | exact look_hit | (apply look_miss; focus rfl) | exact look_nil)); done) (by first | rfl | assumption)) rfl (still_mv rfl (opd_tmp rfl (by (repeat (first | exact look_hit | (apply look_miss; focus rfl) | exact look_nil)); done))) ?_
          refine OD.still (wants_T rfl rfl rfl (by (repeat (first | exact look_hit | (apply look_miss; focus rfl) | exact look_nil)); done) (by first | rfl | assumption)) rfl (still_bin rfl (opd_tmp rfl (by (repeat (first | exact look_hit | (apply look_miss; focus rfl) | exact look_nil)); done)) opd_const bin_eql) ?_
          refine OD.still (wants_plain rfl) rfl (still_pickT rfl (opd_tmp rfl (by (repeat (first | exact look_hit | (apply look_miss; focus rfl) | exact look_nil)); done)) (by first | rfl | assumption) (opd_tmp rfl (by (repeat (first | exact look_hit | (apply look_miss; focus rfl) | exact look_nil)); done))) ?_
          refine OD.still (wants_plain rfl) rfl (still_mv rfl (opd_tmp rfl (by (repeat (first | exact look_hit | (apply look_miss; focus rfl) | exact look_nil)); done))) ?_
          refine OD.split (t := 73) (by (repeat (first | exact look_hit | (apply look_miss; focus rfl) | exact look_nil)); done) (fun hg73 => ?_) (fun hg73 => ?_)
          · have hg73' := hg73; simp only [decide_eq_true_eq, decide_eq_false_iff_not, beq_iff_eq, bne_iff_ne, Bool.not_eq_true', Bool.not_eq_false', Bool.not_eq_true, Bool.not_eq_false, beq_eq_false_iff_ne, ne_eq, bne_eq_false_iff_eq, Bool.and_eq_true, Bool.or_eq_true, Bool.not_not] at hg73'
            refine OD.still (wants_T rfl rfl rfl (by (repeat (first | exact look_hit | (apply look_miss; focus rfl) | exact look_nil)); done) (by first | rfl | assumption)) rfl (still_mv rfl (opd_tmp rfl (by (repeat (first | exact look_hit | (apply look_miss; focus rfl) | exact look_nil)); done))) ?_
            refine OD.still (wants_T rfl rfl rfl (by (repeat (first | exact look_hit | (apply look_miss; focus rfl) | exact look_nil)); done) (by first | rfl | assumption)) rfl (still_bin rfl (opd_tmp rfl (by (repeat (first | exact look_hit | (apply look_miss; focus rfl) | exact look_nil)); done)) opd_const bin_eql) ?_
            refine OD.still (wants_plain rfl) rfl (still_pickT rfl (opd_tmp rfl (by (repeat (first | exact look_hit | (apply look_miss; focus rfl) | exact look_nil)); done)) (by first | rfl | assumption) (opd_tmp rfl (by (repeat (first | exact look_hit | (apply look_miss; focus rfl) | exact look_nil)); done))) ?_
            refine OD.still (wants_plain rfl) rfl (still_mv rfl (opd_tmp rfl (by (repeat (first | exact look_hit | (apply look_miss; focus rfl) | exact look_nil)); done))) ?_
            refine OD.split (t := 77) (by (repeat (first | exact look_hit | (apply look_miss; focus rfl) | exact look_nil)); done) (fun hg77 => ?_) (fun hg77 => ?_)
            · have hg77' := hg77; simp only [decide_eq_true_eq, decide_eq_false_iff_not, beq_iff_eq, bne_iff_ne, Bool.not_eq_true', Bool.not_eq_false', Bool.not_eq_true, Bool.not_eq_false, beq_eq_false_iff_ne, ne_eq, bne_eq_false_iff_eq, Bool.and_eq_true, Bool.or_eq_true, Bool.not_not] at hg77'
              refine OD.still (wants_T rfl rfl rfl (by (repeat (first | exact look_hit | (apply look_miss; focus rfl) | exact look_nil)); done) (by first | rfl | assumption)) rfl (still_mv rfl (opd_tmp rfl (by (repeat (first | exact look_hit | (apply look_miss; focus rfl) | exact look_nil)); done))) ?_
              refine OD.still (wants_plain rfl) rfl (still_pickT rfl (opd_tmp rfl (by (repeat (first | exact look_hit | (apply look_miss; focus rfl) | exact look_nil)); done)) (by first | rfl | assumption) (opd_tmp rfl (by (repeat (first | exact look_hit | (apply look_miss; focus rfl) | exact look_nil)); done))) ?_
              refine OD.still (wants_plain rfl) rfl (still_mv rfl (opd_tmp rfl (by (repeat (first | exact look_hit | (apply look_miss; focus rfl) | exact look_nil)); done))) ?_
              refine OD.split (t := 80) (by (repeat (first | exact look_hit | (apply look_miss; focus rfl) | exact look_nil)); done) (fun hg80 => ?_) (fun hg80 => ?_)
              · have hg80' := hg80; simp only [decide_eq_true_eq, decide_eq_false_iff_not, beq_iff_eq, bne_iff_ne, Bool.not_eq_true', Bool.not_eq_false', Bool.not_eq_true, Bool.not_eq_false, beq_eq_false_iff_ne, ne_eq, bne_eq_false_iff_eq, Bool.and_eq_true, Bool.or_eq_true, Bool.not_not] at hg80'
                refine OD.still (wants_T rfl rfl rfl (by (repeat (first | exact look_hit | (apply look_miss; focus rfl) | exact look_nil)); done) (by first | rfl | assumption)) rfl (still_r1 (mk := Op.load 25) rfl (opd_tmp rfl (by (repeat (first | exact look_hit | (apply look_miss; focus rfl) | exact look_nil)); done)) (by first | exact ld_blks (k := 0) (ds := [_, _]) rfl rfl Tryd.isAgg25 Tryd.sizeOf25 rfl rfl | exact ld_fms cL_len Tryd.isAgg25 Tryd.sizeOf25 (by first | assumption | omega) | exact ld_fms cI_len Tryd.isAgg25 Tryd.sizeOf25 (by first | assumption | omega) | exact ld_rows (k := 0) cL_len rfl rfl rfl Tryd.isAgg25 Tryd.sizeOf25 (by first | assumption | omega) | exact ld_rows (k := 1) cL_len rfl rfl rfl Tryd.isAgg25 Tryd.sizeOf25 (by first | assumption | omega) | exact ld_rows (k := 0) cI_len rfl rfl rfl Tryd.isAgg25 Tryd.sizeOf25 (by first | assumption | omega) | exact ld_rows (k := 1) cI_len rfl rfl rfl Tryd.isAgg25 Tryd.sizeOf25 (by first | assumption | omega) | exact ld_is (ds := [_, _]) Tryd.isAgg25 Tryd.sizeOf25 rfl rfl)) ?_
                refine OD.callP (wants_T rfl rfl rfl (by (repeat (first | exact look_hit | (apply look_miss; focus rfl) | exact look_nil)); done) (by first | rfl | assumption)) rfl rfl rfl Tryd.call19 (modeOf_vp _ [oneM (joinsF m x)] _ 1 ⟨#[97]⟩ (by show 1 ≤ 1000000; decide)) ⟨(opd_tmp rfl (by (repeat (first | exact look_hit | (apply look_miss; focus rfl) | exact look_nil)); done)), opd_const, opd_const, trivial⟩ ?_
                refine OD.still (wants_T rfl rfl rfl (by (repeat (first | exact look_hit | (apply look_miss; focus rfl) | exact look_nil)); done) (by first | rfl | assumption)) rfl (still_mv rfl (opd_tmp rfl (by (repeat (first | exact look_hit | (apply look_miss; focus rfl) | exact look_nil)); done))) ?_
                refine OD.still (wants_T rfl rfl rfl (by (repeat (first | exact look_hit | (apply look_miss; focus rfl) | exact look_nil)); done) (by first | rfl | assumption)) rfl (still_bin rfl (opd_tmp rfl (by (repeat (first | exact look_hit | (apply look_miss; focus rfl) | exact look_nil)); done)) (opd_tmp rfl (by (repeat (first | exact look_hit | (apply look_miss; focus rfl) | exact look_nil)); done)) bin_eql) ?_
                refine OD.still (wants_plain rfl) rfl (still_pickT rfl (opd_tmp rfl (by (repeat (first | exact look_hit | (apply look_miss; focus rfl) | exact look_nil)); done)) (by first | rfl | assumption) (opd_tmp rfl (by (repeat (first | exact look_hit | (apply look_miss; focus rfl) | exact look_nil)); done))) ?_
                refine OD.still (wants_plain rfl) rfl (still_as rfl (opd_tmp rfl (by (repeat (first | exact look_hit | (apply look_miss; focus rfl) | exact look_nil)); done))) ?_
                refine OD.wk (Wk.as_ (n := 86) (l' := [(6, _)]) (S' := [⟨b12, 25, 2, [_, _]⟩, ⟨b9, 25, 2, [_, _]⟩]) rfl rfl ⟨(by (repeat (first | exact look_hit | (apply look_miss; focus rfl) | exact look_nil)); done), trivial⟩) ?_
                refine OD.nil ?_
                refine CD.ret ?_
                refine ⟨.inr rfl, _, [], List.nil_sublist _, ret_one Tryd.results11 (res_tmp (Nat.le_of_ble_eq_true rfl) (by (repeat (first | exact look_hit | (apply look_miss; focus rfl) | exact look_nil)); done)), ?_⟩
                first | (rw [show modeF [oneM (joinsF m x)] 1 ⟨#[97]⟩ = joinsF m x from modeF_head (x := oneM (joinsF m x))]; refine ⟨?_, rfl⟩; simp) | skip
              · exact absurd hg80 (by simp at hg80)
            · exact absurd hg77 (by simp at hg77)
          · exact absurd hg73 (by simp at hg73)
        · exact absurd hg69 (by simp at hg69)

theorem walkAskMore (a : Int) (wa : (Lit.int .i64 a).wf = true) (b : Int) (wb : (Lit.int .i64 b).wf = true) (c : Int) (wc : (Lit.int .i64 c).wf = true) (w : World) (h1 : FitsTab w) (h2 : JoinsTab w) : Calls Tryd.prog 11 #[.int .i64 a, .int .i64 b, .int .i64 c] w fun e w' => e = .returned (.bool true) ∧ Below w.heap.size w w' :=
  (more_vp a b c (wf_bd wa).1 (wf_bd wa).2 (wf_bd wb).1 (wf_bd wb).2 (wf_bd wc).1 (wf_bd wc).2).run (tabs h1 h2) (RepL.vs w _ [_, _, _])

end Go.Proofs.YtcogdagfcndbfaaDoor.Lk
