/-
  What the proof of TopRefused leans on, part 2 of 2: walks of the program's functions at the level of values, and plain facts of what they compute.
-/
import Derived.Test.YtdbgneghoiakfaaGreatDoorPTopRefused1
namespace Go.Proofs.YtdbgneghoiakfaaGreatDoor.Tp
open Go.RowKit V Go.Proofs.YtdbgneghoiakfaaGreatDoor.Pk
set_option linter.unusedVariables false
set_option linter.unusedSimpArgs false

/-- A session that has nothing to say. -/
def cE (_ : Unit) : List D := [.v (.slice none 0 0), .v (.int .i64 0), .v (.int .i64 0), .v (.bool false), .v (.bool false), .v (.slice none 0 0)]
theorem cE_len (u : Unit) : (cE u).length = 6 := rfl
theorem cE_one (u : Unit) : (cE u).all V.one = true := rfl
/-- A script of nothing; a session's answers as they begin. -/
def cN (_ : Unit) : List D := [.v (.slice none 0 0)]
theorem cN_len (u : Unit) : (cN u).length = 1 := rfl
abbrev un (k : Nat) : List Unit := List.replicate k ()
theorem un_len (k : Nat) : (un k).length = k := List.length_replicate
variable {G : List (Nat × List Value)}

set_option maxHeartbeats 4000000 in
set_option maxRecDepth 100000 in
theorem Picked_vp (n m : Int) (hn : -9223372036854775808 ≤ n) (hn2 : n ≤ 9223372036854775807) (hm : 1 ≤ m) : VP Tryz.prog G 5 [.v (.int .i64 n), .v (.int .i64 m)] (.v (.int .i64 (pickedF n m))) := by
  refine VC.body Tryz.func5 rfl Tryz.ntmps5 (Nat.le_of_ble_eq_true rfl) fun X0 w0 S00 => ?_
  refine CD.seq ?_
  refine CD.region ?_
  refine OD.still (wants_plain rfl) rfl (still_as rfl opd_const) ?_
  refine OD.wk (Wk.as_ (n := 8) (l' := [(0, _), (1, _)]) (S' := []) rfl rfl ⟨lk, lk, trivial⟩) ?_
  refine OD.nil ?_
  refine CD.seq ?_
  refine CD.region ?_
  refine OD.still (wants_plain rfl) rfl (still_mv rfl ot) ?_
  refine OD.still (wants_plain rfl) rfl (still_mv rfl ot) ?_
  refine OD.callP (wants_plain rfl) rfl rfl rfl Tryz.call9 (picked_vp G n m hn hn2 hm) ⟨ot, ot, trivial⟩ ?_
  refine OD.still (wants_plain rfl) rfl (still_as rfl ot) ?_
  refine OD.wk (Wk.as_ (n := 8) (l' := [(4, _)]) (S' := []) rfl rfl ⟨lk, trivial⟩) ?_
  refine OD.nil ?_
  refine CD.ret ?_
  refine ⟨.inr rfl, _, [], List.nil_sublist _, ret_one Tryz.results5 (res_tmp (Nat.le_of_ble_eq_true rfl) lk), ?_⟩
  exact ⟨by first | rfl | (simp [*]; done), rfl⟩

set_option maxHeartbeats 4000000 in
set_option maxRecDepth 100000 in
theorem over1_vp (u : Unit) : VP Tryz.prog G 20 [.agg (cE u)] (.v (.bool false)) := by
  refine VC.body Tryz.func20 rfl Tryz.ntmps20 (Nat.le_of_ble_eq_true rfl) fun X0 w0 S00 => ?_
  unfold cE
  refine CD.seq ?_
  refine CD.region ?_
  refine OD.box (ds := [_, _, _, _, _, _]) (wants_plain rfl) rfl rfl ot rfl rfl (fun b1 => ?_)
  refine OD.still (wants_plain rfl) rfl (still_as rfl opd_const) ?_
  refine OD.wk (Wk.as_ (n := 14) (l' := [(1, _)]) (S' := [⟨b1, 55, 6, [_, _, _, _, _, _]⟩]) rfl rfl ⟨lk, trivial⟩) ?_
  refine OD.nil ?_
  refine CD.seq ?_
  refine CD.region ?_
  refine OD.still (wants_plain rfl) rfl (still_r1 (mk := fun y => Op.fieldAddr 55 y 1) rfl ot (by first | exact fa_ptr (off := 1) Tryz.runUnderlying55 rfl Tryz.sizeOf3 rfl | exact fa_iptr (off := 1) Tryz.runUnderlying55 rfl Tryz.sizeOf3 rfl)) ?_
  refine OD.still (wants_plain rfl) rfl (still_r1 (mk := Op.load 3) rfl ot (by first | exact ld_blk (k := 0) rfl rfl Tryz.isAgg3 rfl | exact ld_i Tryz.isAgg3 rfl)) ?_
  refine OD.still (wants_plain rfl) rfl (still_r1 (mk := fun y => Op.fieldAddr 55 y 0) rfl ot (by first | exact fa_ptr (off := 0) Tryz.runUnderlying55 rfl Tryz.sizeOf34 rfl | exact fa_iptr (off := 0) Tryz.runUnderlying55 rfl Tryz.sizeOf34 rfl)) ?_
  refine OD.still (wants_plain rfl) rfl (still_r1 (mk := Op.load 34) rfl ot (by first | exact ld_blk (k := 0) rfl rfl Tryz.isAgg34 rfl | exact ld_i Tryz.isAgg34 rfl)) ?_
  refine OD.still (wants_plain rfl) rfl (still_r1 (mk := fun y => .call { callee := .builtin .len, args := #[y], argTypes := #[34] }) rfl ot (by first | exact len_list rfl Tryz.runUnderlying34 | exact len_row rfl Tryz.runUnderlying34)) ?_
  refine OD.still (wants_plain rfl) rfl (still_bin rfl ot ot bin_lss) ?_
  refine OD.still (wants_plain rfl) rfl (still_mv rfl ot) ?_
  refine OD.split (t := 9) lk (fun hg9 => ?_) (fun hg9 => ?_)
  · exact absurd hg9 (by simp)
  · have hg9' := hg9; (try simp only [decide_eq_true_eq, decide_eq_false_iff_not, beq_iff_eq, bne_iff_ne, Bool.not_eq_true', Bool.not_eq_false', Bool.not_eq_true, Bool.not_eq_false, beq_eq_false_iff_ne, ne_eq, bne_eq_false_iff_eq, Bool.and_eq_true, Bool.or_eq_true, Bool.not_not] at hg9')
    refine OD.still (wants_T rfl rfl rfl lk (by first | rfl | assumption)) rfl (still_r1 (mk := fun y => Op.fieldAddr 55 y 2) rfl ot (by first | exact fa_ptr (off := 2) Tryz.runUnderlying55 rfl Tryz.sizeOf3 rfl | exact fa_iptr (off := 2) Tryz.runUnderlying55 rfl Tryz.sizeOf3 rfl)) ?_
    refine OD.still (wants_T rfl rfl rfl lk (by first | rfl | assumption)) rfl (still_r1 (mk := Op.load 3) rfl ot (by first | exact ld_blk (k := 0) rfl rfl Tryz.isAgg3 rfl | exact ld_i Tryz.isAgg3 rfl)) ?_
    refine OD.still (wants_T rfl rfl rfl lk (by first | rfl | assumption)) rfl (still_bin rfl ot opd_const bin_neq) ?_
    refine OD.still (wants_plain rfl) rfl (still_pickF rfl ot (by first | rfl | assumption) ot) ?_
    refine OD.still (wants_plain rfl) rfl (still_as rfl ot) ?_
    refine OD.wk (Wk.as_ (n := 14) (l' := [(2, _)]) (S' := [⟨b1, 55, 6, [_, _, _, _, _, _]⟩]) rfl rfl ⟨lk, trivial⟩) ?_
    refine OD.nil ?_
    refine CD.ret ?_
    refine ⟨.inr rfl, _, [], List.nil_sublist _, ret_one Tryz.results20 (res_tmp (Nat.le_of_ble_eq_true rfl) lk), ?_⟩
    exact ⟨by first | rfl | (simp [*]; done), rfl⟩

set_option maxHeartbeats 4000000 in
set_option maxRecDepth 100000 in
theorem index_vp (k : Nat) (hk : k ≤ 1000) : VP Tryz.prog G 36 [.list 6 ((un k).flatMap cE) (un k).length, .clo (.func 20) []] (.v (.int .i64 (-1))) := by
  refine VC.body Tryz.func36 rfl Tryz.ntmps36 (Nat.le_of_ble_eq_true rfl) fun X0 w0 S00 => ?_
  have hul := un_len k
  refine CD.seq ?_
  refine CD.region ?_
  refine OD.still (wants_plain rfl) rfl (still_as rfl opd_const) ?_
  refine OD.wk (Wk.as_ (n := 19) (l' := [(0, _), (1, _)]) (S' := []) rfl rfl ⟨lk, lk, trivial⟩) ?_
  refine OD.nil ?_
  refine CD.seq ?_
  refine CD.seq ?_
  refine CD.region ?_
  refine OD.still (wants_plain rfl) rfl (still_mv rfl ot) ?_
  refine OD.still (wants_plain rfl) rfl (still_r1 (mk := fun y => .call { callee := .builtin .len, args := #[y], argTypes := #[50] }) rfl ot (by first | exact len_list rfl Tryz.runUnderlying50 | exact len_row rfl Tryz.runUnderlying50)) ?_
  refine OD.still (wants_plain rfl) rfl (still_mv rfl opd_const) ?_
  refine OD.wk (Wk.as_ (n := 19) (l' := [(0, _), (1, _), (7, _), (8, _)]) (S' := []) rfl rfl ⟨lk, lk, lk, lk, trivial⟩) ?_
  refine OD.nil ?_
  refine CD.block ?_
  refine CD.wk (Wk.asS (n := 19) (l' := [(0, .list 6 ((un k).flatMap cE) (un k).length), (1, .clo (.func 20) []), (7, .v (.int .i64 ((un k).length : Nat))), (8, .v (.int .i64 ((0) : Nat)))]) (S' := []) rfl (by repeat (first | exact List.Sublist.refl _ | apply List.Sublist.cons)) ⟨(by (repeat (first | exact look_hit | (apply look_at; focus (first | rfl | (simp; done) | (congr 2; omega))) | (apply look_miss; focus rfl))); done), (by (repeat (first | exact look_hit | (apply look_at; focus (first | rfl | (simp; done) | (congr 2; omega))) | (apply look_miss; focus rfl))); done), (by (repeat (first | exact look_hit | (apply look_at; focus (first | rfl | (simp; done) | (congr 2; omega))) | (apply look_miss; focus rfl))); done), (by (repeat (first | exact look_hit | (apply look_at; focus (first | rfl | (simp; done) | (congr 2; omega))) | (apply look_miss; focus rfl))); done), trivial⟩) (CD.loop (fun (i : Nat) y__ => (i ≤ k) ∧ y__ = (⟨19, [(0, .list 6 ((un k).flatMap cE) (un k).length), (1, .clo (.func 20) []), (7, .v (.int .i64 ((un k).length : Nat))), (8, .v (.int .i64 (i : Nat)))], []⟩ : St)) (fun (i : Nat) => k - i) 0 ⟨(Nat.zero_le _), rfl⟩ ?_)
  rintro i _ ⟨hi, rfl⟩
  refine CD.seq ?_
  refine CD.region ?_
  refine OD.still (wants_plain rfl) rfl (still_bin rfl ot ot bin_lss) ?_
  refine OD.wk (Wk.as_ (n := 19) (l' := [(0, _), (1, _), (7, _), (8, _), (9, _)]) (S' := []) rfl rfl ⟨lk, lk, lk, lk, lk, trivial⟩) ?_
  refine OD.nil ?_
  refine CD.seq ?_
  refine CD.cond ot (fun hc0 => ?_) (fun hc0 => ?_)
  · have hc0' := hc0
    (try simp only [decide_eq_true_eq, decide_eq_false_iff_not, beq_iff_eq, bne_iff_ne, Bool.not_eq_true', Bool.not_eq_false', Bool.not_eq_true, Bool.not_eq_false, beq_eq_false_iff_ne, ne_eq, bne_eq_false_iff_eq, Bool.and_eq_true, Bool.or_eq_true, Bool.not_not, Bool.and_eq_false_iff, Bool.or_eq_false_iff, Int.not_lt, Int.not_le] at hc0')
    have hlt : i < (un k).length := by omega
    refine CD.skip ?_
    refine CD.seq ?_
    refine CD.block ?_
    refine CD.seq ?_
    refine CD.region ?_
    refine OD.still (wants_plain rfl) rfl (still_mv rfl ot) ?_
    refine OD.still (wants_plain rfl) rfl (still_as rfl ot) ?_
    refine OD.wk (Wk.as_ (n := 19) (l' := [(0, _), (1, _), (5, _), (7, _), (8, _)]) (S' := []) rfl rfl ⟨lk, lk, lk, lk, lk, trivial⟩) ?_
    refine OD.nil ?_
    refine CD.seq ?_
    refine CD.region ?_
    refine OD.still (wants_plain rfl) rfl (still_mv rfl ot) ?_
    refine OD.still (wants_plain rfl) rfl (still_mv rfl ot) ?_
    refine OD.still (wants_plain rfl) rfl (still_mv rfl ot) ?_
    refine OD.still (wants_plain rfl) rfl (still_r2 (mk := Op.indexAddr 50) rfl ot ot (by first | exact ix_list Tryz.runUnderlying50 Tryz.sizeOf55 rfl (by first | assumption | omega) | exact ix_list (j := Int.toNat _) Tryz.runUnderlying50 Tryz.sizeOf55 (Int.toNat_of_nonneg (by omega)).symm (by omega) | exact ix_row Tryz.runUnderlying50 Tryz.sizeOf55 rfl (by first | assumption | omega) | exact ix_row (j := Int.toNat _) Tryz.runUnderlying50 Tryz.sizeOf55 (Int.toNat_of_nonneg (by omega)).symm (by omega))) ?_
    refine OD.still (wants_plain rfl) rfl (still_r1 (mk := Op.load 55) rfl ot (by first | exact ld_fms cE_len Tryz.isAgg55 Tryz.sizeOf55 (by first | assumption | omega) | exact ld_is (ds := [_, _, _, _, _, _]) Tryz.isAgg55 Tryz.sizeOf55 rfl rfl)) ?_
    refine OD.callv (f := 20) (args := [_]) (all := [_]) (wants_plain rfl) rfl rfl ot Tryz.call20 (over1_vp (un k)[i]) rfl ⟨ot, trivial⟩ (perm_none _) ?_; rintro _ S2 ⟨rfl, rfl⟩
    refine OD.wk (Wk.as_ (n := 19) (l' := [(0, _), (1, _), (5, _), (7, _), (8, _), (16, _)]) (S' := []) rfl rfl ⟨lk, lk, lk, lk, lk, lk, trivial⟩) ?_
    refine OD.nil ?_
    refine CD.cond ot (fun hc1 => ?_) (fun hc1 => ?_)
    · exact absurd hc1 (by simp)
    · have hc1' := hc1
      (try simp only [decide_eq_true_eq, decide_eq_false_iff_not, beq_iff_eq, bne_iff_ne, Bool.not_eq_true', Bool.not_eq_false', Bool.not_eq_true, Bool.not_eq_false, beq_eq_false_iff_ne, ne_eq, bne_eq_false_iff_eq, Bool.and_eq_true, Bool.or_eq_true, Bool.not_not, Bool.and_eq_false_iff, Bool.or_eq_false_iff, Int.not_lt, Int.not_le] at hc1')
      refine CD.skip ?_
      refine CD.region ?_
      refine OD.still (wants_plain rfl) rfl (still_bin rfl ot opd_const (bin_add (wrap_i64 (by omega) (by omega)))) ?_
      refine OD.still (wants_plain rfl) rfl (still_mv rfl ot) ?_
      refine OD.wk (Wk.as_ (n := 19) (l' := [(0, _), (1, _), (7, _), (8, _)]) (S' := []) rfl rfl ⟨lk, lk, lk, lk, trivial⟩) ?_
      refine OD.nil ?_
      refine ⟨(i + 1), ⟨19, [(0, .list 6 ((un k).flatMap cE) (un k).length), (1, .clo (.func 20) []), (7, .v (.int .i64 ((un k).length : Nat))), (8, .v (.int .i64 (((i + 1)) : Nat)))], []⟩, ?_, Wk.asS (n := 19) rfl (by repeat (first | exact List.Sublist.refl _ | apply List.Sublist.cons)) ⟨(by (repeat (first | exact look_hit | (apply look_at; focus (first | rfl | (simp; done) | (congr 2; omega))) | (apply look_miss; focus rfl))); done), (by (repeat (first | exact look_hit | (apply look_at; focus (first | rfl | (simp; done) | (congr 2; omega))) | (apply look_miss; focus rfl))); done), (by (repeat (first | exact look_hit | (apply look_at; focus (first | rfl | (simp; done) | (congr 2; omega))) | (apply look_miss; focus rfl))); done), (by (repeat (first | exact look_hit | (apply look_at; focus (first | rfl | (simp; done) | (congr 2; omega))) | (apply look_miss; focus rfl))); done), trivial⟩, (by omega), rfl⟩
      first | omega | (simp only []; omega)
  · have hc0' := hc0
    (try simp only [decide_eq_true_eq, decide_eq_false_iff_not, beq_iff_eq, bne_iff_ne, Bool.not_eq_true', Bool.not_eq_false', Bool.not_eq_true, Bool.not_eq_false, beq_eq_false_iff_ne, ne_eq, bne_eq_false_iff_eq, Bool.and_eq_true, Bool.or_eq_true, Bool.not_not, Bool.and_eq_false_iff, Bool.or_eq_false_iff, Int.not_lt, Int.not_le] at hc0')
    refine CD.exit ?_
    refine CD.seq ?_
    refine CD.region ?_
    refine OD.still (wants_plain rfl) rfl (still_as rfl opd_const) ?_
    refine OD.wk (Wk.as_ (n := 19) (l' := [(4, _)]) (S' := []) rfl rfl ⟨lk, trivial⟩) ?_
    refine OD.nil ?_
    refine CD.ret ?_
    refine ⟨.inr rfl, _, [], List.nil_sublist _, ret_one Tryz.results36 (res_tmp (Nat.le_of_ble_eq_true rfl) lk), ?_⟩
    exact ⟨by first | rfl | (simp [*]; done), rfl⟩

set_option maxHeartbeats 4000000 in
set_option maxRecDepth 100000 in
theorem contains_vp (k : Nat) (hk : k ≤ 1000) : VP Tryz.prog G 19 [.list 6 ((un k).flatMap cE) (un k).length, .clo (.func 20) []] (.v (.bool false)) := by
  refine VC.body Tryz.func19 rfl Tryz.ntmps19 (Nat.le_of_ble_eq_true rfl) fun X0 w0 S00 => ?_
  refine CD.seq ?_
  refine CD.region ?_
  refine OD.still (wants_plain rfl) rfl (still_as rfl opd_const) ?_
  refine OD.wk (Wk.as_ (n := 9) (l' := [(0, _), (1, _)]) (S' := []) rfl rfl ⟨lk, lk, trivial⟩) ?_
  refine OD.nil ?_
  refine CD.seq ?_
  refine CD.region ?_
  refine OD.still (wants_plain rfl) rfl (still_mv rfl ot) ?_
  refine OD.still (wants_plain rfl) rfl (still_mv rfl ot) ?_
  refine OD.callP (wants_plain rfl) rfl rfl rfl Tryz.call36 (index_vp k hk) ⟨ot, ot, trivial⟩ ?_
  refine OD.still (wants_plain rfl) rfl (still_bin rfl ot opd_const bin_geq) ?_
  refine OD.still (wants_plain rfl) rfl (still_as rfl ot) ?_
  refine OD.wk (Wk.as_ (n := 9) (l' := [(4, _)]) (S' := []) rfl rfl ⟨lk, trivial⟩) ?_
  refine OD.nil ?_
  refine CD.ret ?_
  refine ⟨.inr rfl, _, [], List.nil_sublist _, ret_one Tryz.results19 (res_tmp (Nat.le_of_ble_eq_true rfl) lk), ?_⟩
  exact ⟨by simp, rfl⟩

set_option maxHeartbeats 4000000 in
set_option maxRecDepth 100000 in
theorem over_vc (b k cap : Nat) (ad ad2 : Option Addr) (n2 cap2 : Nat) (Sr : List Blk) (hk : k ≤ 1000) (ho : OwnL 55 6 ((un k).flatMap cE) (un k).length ad cap Sr) : VC Tryz.prog G 11 [.v (.pointer (some ⟨b, 0, none⟩))] ((⟨b, 52, 8, [.v (.slice none 0 0), .v (.slice none 0 0), .v (.slice none 0 0), .v (.slice ad (un k).length cap), .v (.int .i64 0), .v (.slice ad2 n2 cap2), .v (.slice none 0 0), .v (.slice none 0 0)]⟩ : Blk) :: Sr) (fun r S => r = .v (.bool true) ∧ S = (⟨b, 52, 8, [.v (.slice none 0 0), .v (.slice none 0 0), .v (.slice none 0 0), .v (.slice ad (un k).length cap), .v (.int .i64 0), .v (.slice ad2 n2 cap2), .v (.slice none 0 0), .v (.slice none 0 0)]⟩ : Blk) :: Sr) := by
  refine VC.body Tryz.func11 rfl Tryz.ntmps11 (Nat.le_of_ble_eq_true rfl) fun X0 w0 S00 => ?_
  refine CD.seq ?_
  refine CD.region ?_
  refine OD.still (wants_plain rfl) rfl (still_as rfl opd_const) ?_
  refine OD.wk (Wk.as_ (n := 9) (l' := [(0, _)]) (S' := (⟨b, 52, 8, [_, _, _, _, _, _, _, _]⟩ :: Sr)) rfl rfl ⟨lk, trivial⟩) ?_
  refine OD.nil ?_
  refine CD.seq ?_
  refine CD.region ?_
  refine OD.still (wants_plain rfl) rfl (still_mv rfl ot) ?_
  refine OD.still (wants_plain rfl) rfl (still_r1 (mk := Op.nilCheck) rfl ot (by first | exact nc_ptr | exact nc_iptr)) ?_
  refine OD.still (wants_plain rfl) rfl (still_r1 (mk := fun y => Op.fieldAddr 52 y 2) rfl ot (by first | exact fa_ptr (off := 3) Tryz.runUnderlying52 rfl Tryz.sizeOf50 rfl | exact fa_iptr (off := 3) Tryz.runUnderlying52 rfl Tryz.sizeOf50 rfl)) ?_
  refine OD.still (wants_plain rfl) rfl (still_r1 (mk := Op.load 50) rfl ot (by first | exact ld_blk (k := 0) rfl rfl Tryz.isAgg50 rfl | exact ld_i Tryz.isAgg50 rfl)) ?_
  refine OD.look (wants_plain rfl) rfl rfl rfl Tryz.call19 (contains_vp k hk) rfl ⟨⟨_, ot, (view_own ho (fm_len cE_len _) (fun B hB => List.mem_cons_of_mem _ hB))⟩, ⟨_, opd_func, view_same⟩, trivial⟩ ?_
  refine OD.still (wants_plain rfl) rfl (still_un rfl ot un_not) ?_
  refine OD.still (wants_plain rfl) rfl (still_as rfl ot) ?_
  refine OD.wk (Wk.as_ (n := 9) (l' := [(2, _)]) (S' := (⟨b, 52, 8, [_, _, _, _, _, _, _, _]⟩ :: Sr)) rfl rfl ⟨lk, trivial⟩) ?_
  refine OD.nil ?_
  refine CD.ret ?_
  refine ⟨.inr rfl, _, ((⟨b, 52, 8, [.v (.slice none 0 0), .v (.slice none 0 0), .v (.slice none 0 0), .v (.slice ad (un k).length cap), .v (.int .i64 0), .v (.slice ad2 n2 cap2), .v (.slice none 0 0), .v (.slice none 0 0)]⟩ : Blk) :: Sr), List.Sublist.refl _, ret_one Tryz.results11 (res_tmp (Nat.le_of_ble_eq_true rfl) lk), ?_⟩
  exact ⟨rfl, rfl⟩

theorem un_snoc (i : Nat) : un i ++ [()] = un (i + 1) := List.replicate_succ'.symm
theorem perm_out {a b : Blk} {S : List Blk} : (a :: b :: S).Perm ((a :: S) ++ [b]) := List.Perm.cons a (List.perm_append_comm (l₁ := [b]))
theorem perm_in {a b : Blk} {S : List Blk} : ((a :: S) ++ [b]).Perm (a :: b :: S) := perm_out.symm
theorem infoS : (Tryz.prog.info? 55).map (fun i => (i.zero, i.size, i.bytes)) = some (some (.agg #[.slice none 0 0, .int .i64 0, .int .i64 0, .bool false, .bool false, .slice none 0 0]), 6, 72) := by kernel_rfl

theorem places30_Tp1 : ∀ w, ((#[{ name := "Replies", type := 24, offset := 0, embedded := false, tag := "", pkgPath := "", byteOffset := 0 }, { name := "Commits", type := 25, offset := 1, embedded := false, tag := "", pkgPath := "", byteOffset := 24 }, { name := "Base", type := 28, offset := 2, embedded := false, tag := "", pkgPath := "", byteOffset := 48 }] : Array Field).mapM fun f => do pure (f.offset, ← sizeOf f.type) : Sem (Array (Nat × Nat))).run Tryz.prog w = .ok #[(0, 1), (1, 1), (2, 1)] w := fun w => by simp [Tryz.sizeOf24, Tryz.sizeOf25, Tryz.sizeOf28]

set_option maxHeartbeats 4000000 in
set_option maxRecDepth 100000 in
theorem runBad_vp (k : Nat) (hk : k < 1 ∨ 4 < k) (hk2 : k ≤ 1000) : VP Tryz.prog G 6 [.list 1 ((un k).flatMap cN) (un k).length, .v (.slice none 0 0)] (.tup [.agg [.v (.slice none 0 0), .v (.slice none 0 0), .v (.slice none 0 0)], .v (.int .i64 1)]) := by
  refine VC.body Tryz.func6 rfl Tryz.ntmps6 (Nat.le_of_ble_eq_true rfl) fun X0 w0 S00 => ?_
  have hul := un_len k
  refine CD.seq ?_
  refine CD.region ?_
  refine OD.alloc (ds := [_, _, _]) (wants_plain rfl) rfl rfl Tryz.zeroValue30 rfl (fun b4 => ?_)
  refine OD.still (wants_plain rfl) rfl (still_as rfl opd_const) ?_
  refine OD.wk (Wk.as_ (n := 112) (l' := [(0, _), (1, _), (4, _)]) (S' := [⟨b4, 30, 3, [_, _, _]⟩]) rfl rfl ⟨lk, lk, lk, trivial⟩) ?_
  refine OD.nil ?_
  refine CD.seq ?_
  refine CD.seq ?_
  refine CD.region ?_
  refine OD.still (wants_plain rfl) rfl (still_mv rfl ot) ?_
  refine OD.still (wants_plain rfl) rfl (still_r1 (mk := fun y => .call { callee := .builtin .len, args := #[y], argTypes := #[23] }) rfl ot (by first | exact len_list rfl Tryz.runUnderlying23 | exact len_row rfl Tryz.runUnderlying23)) ?_
  refine OD.still (wants_plain rfl) rfl (still_bin rfl ot opd_const bin_lss) ?_
  refine OD.still (wants_plain rfl) rfl (still_mv rfl ot) ?_
  refine OD.split (t := 17) lk (fun hg17 => ?_) (fun hg17 => ?_)
  · have hg17' := hg17; (try simp only [decide_eq_true_eq, decide_eq_false_iff_not, beq_iff_eq, bne_iff_ne, Bool.not_eq_true', Bool.not_eq_false', Bool.not_eq_true, Bool.not_eq_false, beq_eq_false_iff_ne, ne_eq, bne_eq_false_iff_eq, Bool.and_eq_true, Bool.or_eq_true, Bool.not_not] at hg17')
    refine OD.skip (wants_F rfl rfl rfl lk (by first | rfl | assumption)) rfl ?_
    refine OD.skip (wants_F rfl rfl rfl lk (by first | rfl | assumption)) rfl ?_
    refine OD.skip (wants_F rfl rfl rfl lk (by first | rfl | assumption)) rfl ?_
    refine OD.still (wants_plain rfl) rfl (still_pickT rfl ot (by first | rfl | assumption) opd_const) ?_
    refine OD.still (wants_plain rfl) rfl (still_mv rfl ot) ?_
    refine OD.skip (wants_F rfl rfl rfl lk (by first | rfl | assumption)) rfl ?_
    refine OD.skip (wants_F rfl rfl rfl lk (by first | rfl | assumption)) rfl ?_
    refine OD.skip (wants_F rfl rfl rfl lk (by first | rfl | assumption)) rfl ?_
    refine OD.still (wants_plain rfl) rfl (still_pickT rfl ot (by first | rfl | assumption) opd_const) ?_
    refine OD.wk (Wk.as_ (n := 112) (l' := [(0, _), (1, _), (4, _), (26, _)]) (S' := [⟨b4, 30, 3, [_, _, _]⟩]) rfl rfl ⟨lk, lk, lk, lk, trivial⟩) ?_
    refine OD.nil ?_
    refine CD.condT ot (by first | rfl | assumption) ?_
    refine CD.seq ?_
    refine CD.region ?_
    refine OD.still (wants_plain rfl) rfl (still_bld (pl := []) (ds := [_, _, _]) rfl Tryz.zeroValue30 Tryz.runUnderlying30 places30_Tp1 trivial rfl rfl) ?_
    refine OD.store (k := 0) (cs' := [_, _, _]) (wants_plain rfl) rfl rfl ot rfl rfl ot rfl rfl Tryz.sizeOf30 rfl rfl rfl ?_
    refine OD.still (wants_plain rfl) rfl (still_as rfl opd_const) ?_
    refine OD.wk (Wk.as_ (n := 112) (l' := [(4, _), (5, _)]) (S' := [⟨b4, 30, 3, [_, _, _]⟩]) rfl rfl ⟨lk, lk, trivial⟩) ?_
    refine OD.nil ?_
    refine CD.ret ?_
    refine ⟨.inr rfl, _, [], List.nil_sublist _, ret_two Tryz.results6 (res_cells (k := 0) (ds := [_, _, _]) (Nat.le_of_ble_eq_true rfl) lk rfl rfl Tryz.isAgg30 Tryz.sizeOf30 rfl rfl) (res_tmp (Nat.le_of_ble_eq_true rfl) lk), ?_⟩
    exact ⟨rfl, rfl⟩
  · have hg17' := hg17; (try simp only [decide_eq_true_eq, decide_eq_false_iff_not, beq_iff_eq, bne_iff_ne, Bool.not_eq_true', Bool.not_eq_false', Bool.not_eq_true, Bool.not_eq_false, beq_eq_false_iff_ne, ne_eq, bne_eq_false_iff_eq, Bool.and_eq_true, Bool.or_eq_true, Bool.not_not] at hg17')
    refine OD.still (wants_T rfl rfl rfl lk (by first | rfl | assumption)) rfl (still_mv rfl ot) ?_
    refine OD.still (wants_T rfl rfl rfl lk (by first | rfl | assumption)) rfl (still_r1 (mk := fun y => .call { callee := .builtin .len, args := #[y], argTypes := #[23] }) rfl ot (by first | exact len_list rfl Tryz.runUnderlying23 | exact len_row rfl Tryz.runUnderlying23)) ?_
    refine OD.still (wants_T rfl rfl rfl lk (by first | rfl | assumption)) rfl (still_bin rfl ot opd_const bin_gtr) ?_
    refine OD.still (wants_plain rfl) rfl (still_pickF rfl ot (by first | rfl | assumption) ot) ?_
    refine OD.still (wants_plain rfl) rfl (still_mv rfl ot) ?_
    refine OD.split (t := 22) lk (fun hg22 => ?_) (fun hg22 => ?_)
    · have hg22' := hg22; (try simp only [decide_eq_true_eq, decide_eq_false_iff_not, beq_iff_eq, bne_iff_ne, Bool.not_eq_true', Bool.not_eq_false', Bool.not_eq_true, Bool.not_eq_false, beq_eq_false_iff_ne, ne_eq, bne_eq_false_iff_eq, Bool.and_eq_true, Bool.or_eq_true, Bool.not_not] at hg22')
      refine OD.skip (wants_F rfl rfl rfl lk (by first | rfl | assumption)) rfl ?_
      refine OD.skip (wants_F rfl rfl rfl lk (by first | rfl | assumption)) rfl ?_
      refine OD.skip (wants_F rfl rfl rfl lk (by first | rfl | assumption)) rfl ?_
      refine OD.still (wants_plain rfl) rfl (still_pickT rfl ot (by first | rfl | assumption) opd_const) ?_
      refine OD.wk (Wk.as_ (n := 112) (l' := [(0, _), (1, _), (4, _), (26, _)]) (S' := [⟨b4, 30, 3, [_, _, _]⟩]) rfl rfl ⟨lk, lk, lk, lk, trivial⟩) ?_
      refine OD.nil ?_
      refine CD.condT ot (by first | rfl | assumption) ?_
      refine CD.seq ?_
      refine CD.region ?_
      refine OD.still (wants_plain rfl) rfl (still_bld (pl := []) (ds := [_, _, _]) rfl Tryz.zeroValue30 Tryz.runUnderlying30 places30_Tp1 trivial rfl rfl) ?_
      refine OD.store (k := 0) (cs' := [_, _, _]) (wants_plain rfl) rfl rfl ot rfl rfl ot rfl rfl Tryz.sizeOf30 rfl rfl rfl ?_
      refine OD.still (wants_plain rfl) rfl (still_as rfl opd_const) ?_
      refine OD.wk (Wk.as_ (n := 112) (l' := [(4, _), (5, _)]) (S' := [⟨b4, 30, 3, [_, _, _]⟩]) rfl rfl ⟨lk, lk, trivial⟩) ?_
      refine OD.nil ?_
      refine CD.ret ?_
      refine ⟨.inr rfl, _, [], List.nil_sublist _, ret_two Tryz.results6 (res_cells (k := 0) (ds := [_, _, _]) (Nat.le_of_ble_eq_true rfl) lk rfl rfl Tryz.isAgg30 Tryz.sizeOf30 rfl rfl) (res_tmp (Nat.le_of_ble_eq_true rfl) lk), ?_⟩
      exact ⟨rfl, rfl⟩
    · have hg22' := hg22; (try simp only [decide_eq_true_eq, decide_eq_false_iff_not, beq_iff_eq, bne_iff_ne, Bool.not_eq_true', Bool.not_eq_false', Bool.not_eq_true, Bool.not_eq_false, beq_eq_false_iff_ne, ne_eq, bne_eq_false_iff_eq, Bool.and_eq_true, Bool.or_eq_true, Bool.not_not] at hg22')
      refine OD.still (wants_T rfl rfl rfl lk (by first | rfl | assumption)) rfl (still_mv rfl ot) ?_
      refine OD.still (wants_T rfl rfl rfl lk (by first | rfl | assumption)) rfl (still_r1 (mk := fun y => .call { callee := .builtin .len, args := #[y], argTypes := #[25] }) rfl ot (by first | exact len_list rfl Tryz.runUnderlying25 | exact len_row rfl Tryz.runUnderlying25)) ?_
      refine OD.still (wants_T rfl rfl rfl lk (by first | rfl | assumption)) rfl (still_bin rfl ot opd_const bin_gtr) ?_
      refine OD.still (wants_plain rfl) rfl (still_pickF rfl ot (by first | rfl | assumption) ot) ?_
      refine OD.wk (Wk.as_ (n := 112) (l' := [(0, _), (1, _), (4, _), (26, _)]) (S' := [⟨b4, 30, 3, [_, _, _]⟩]) rfl rfl ⟨lk, lk, lk, lk, trivial⟩) ?_
      refine OD.nil ?_
      refine CD.cond ot (fun hc0 => ?_) (fun hc0 => ?_)
      · have hc0' := hc0
        (try simp only [decide_eq_true_eq, decide_eq_false_iff_not, beq_iff_eq, bne_iff_ne, Bool.not_eq_true', Bool.not_eq_false', Bool.not_eq_true, Bool.not_eq_false, beq_eq_false_iff_ne, ne_eq, bne_eq_false_iff_eq, Bool.and_eq_true, Bool.or_eq_true, Bool.not_not, Bool.and_eq_false_iff, Bool.or_eq_false_iff, Int.not_lt, Int.not_le] at hc0')
        refine CD.seq ?_
        refine CD.region ?_
        refine OD.still (wants_plain rfl) rfl (still_bld (pl := []) (ds := [_, _, _]) rfl Tryz.zeroValue30 Tryz.runUnderlying30 places30_Tp1 trivial rfl rfl) ?_
        refine OD.store (k := 0) (cs' := [_, _, _]) (wants_plain rfl) rfl rfl ot rfl rfl ot rfl rfl Tryz.sizeOf30 rfl rfl rfl ?_
        refine OD.still (wants_plain rfl) rfl (still_as rfl opd_const) ?_
        refine OD.wk (Wk.as_ (n := 112) (l' := [(4, _), (5, _)]) (S' := [⟨b4, 30, 3, [_, _, _]⟩]) rfl rfl ⟨lk, lk, trivial⟩) ?_
        refine OD.nil ?_
        refine CD.ret ?_
        refine ⟨.inr rfl, _, [], List.nil_sublist _, ret_two Tryz.results6 (res_cells (k := 0) (ds := [_, _, _]) (Nat.le_of_ble_eq_true rfl) lk rfl rfl Tryz.isAgg30 Tryz.sizeOf30 rfl rfl) (res_tmp (Nat.le_of_ble_eq_true rfl) lk), ?_⟩
        exact ⟨rfl, rfl⟩
      · exact absurd hc0 (by simp at *; omega)

theorem info44_Tp1 : (Tryz.prog.info? 44).map (fun i => (i.zero, i.size, i.bytes)) = some (some (.slice none 0 0), 1, 24) := by kernel_rfl

theorem places52_Tp1 : ∀ w, ((#[{ name := "base", type := 28, offset := 0, embedded := false, tag := "", pkgPath := "padlock/session", byteOffset := 0 }, { name := "locks", type := 49, offset := 1, embedded := false, tag := "", pkgPath := "padlock/session", byteOffset := 24 }, { name := "sessions", type := 50, offset := 3, embedded := false, tag := "", pkgPath := "padlock/session", byteOffset := 72 }, { name := "next", type := 3, offset := 4, embedded := false, tag := "", pkgPath := "padlock/session", byteOffset := 96 }, { name := "out", type := 30, offset := 5, embedded := false, tag := "", pkgPath := "padlock/session", byteOffset := 104 }] : Array Field).mapM fun f => do pure (f.offset, ← sizeOf f.type) : Sem (Array (Nat × Nat))).run Tryz.prog w = .ok #[(0, 1), (1, 2), (3, 1), (4, 1), (5, 3)] w := fun w => by simp [Tryz.sizeOf28, Tryz.sizeOf3, Tryz.sizeOf30, Tryz.sizeOf49, Tryz.sizeOf50]

theorem places55_Tp1 : ∀ w, ((#[{ name := "script", type := 34, offset := 0, embedded := false, tag := "", pkgPath := "padlock/session", byteOffset := 0 }, { name := "at", type := 3, offset := 1, embedded := false, tag := "", pkgPath := "padlock/session", byteOffset := 24 }, { name := "txn", type := 3, offset := 2, embedded := false, tag := "", pkgPath := "padlock/session", byteOffset := 32 }, { name := "open", type := 4, offset := 3, embedded := false, tag := "", pkgPath := "padlock/session", byteOffset := 40 }, { name := "waits", type := 4, offset := 4, embedded := false, tag := "", pkgPath := "padlock/session", byteOffset := 41 }, { name := "undo", type := 53, offset := 5, embedded := false, tag := "", pkgPath := "padlock/session", byteOffset := 48 }] : Array Field).mapM fun f => do pure (f.offset, ← sizeOf f.type) : Sem (Array (Nat × Nat))).run Tryz.prog w = .ok #[(0, 1), (1, 1), (2, 1), (3, 1), (4, 1), (5, 1)] w := fun w => by simp [Tryz.sizeOf3, Tryz.sizeOf34, Tryz.sizeOf4, Tryz.sizeOf53]

set_option maxHeartbeats 4000000 in
set_option maxRecDepth 100000 in
theorem runNone_vc (k : Nat) (hk1 : 1 ≤ k) (hk4 : k ≤ 4) : VC Tryz.prog G 6 [.list 1 ((un k).flatMap cN) (un k).length, .v (.slice none 0 0)] [] (fun r S => ∃ ad cap, r = .tup [.agg [.v (.slice ad (List.replicate (un k).length ()).length cap), .v (.slice none 0 0), .v (.slice none 0 0)], .v (.int .i64 0)] ∧ S = []) := by
  refine VC.body Tryz.func6 rfl Tryz.ntmps6 (Nat.le_of_ble_eq_true rfl) fun X0 w0 S00 => ?_
  have hul := un_len k
  refine CD.seq ?_
  refine CD.region ?_
  refine OD.alloc (ds := [_, _, _]) (wants_plain rfl) rfl rfl Tryz.zeroValue30 rfl (fun b4 => ?_)
  refine OD.still (wants_plain rfl) rfl (still_as rfl opd_const) ?_
  refine OD.wk (Wk.as_ (n := 112) (l' := [(0, _), (1, _), (4, _)]) (S' := [⟨b4, 30, 3, [_, _, _]⟩]) rfl rfl ⟨lk, lk, lk, trivial⟩) ?_
  refine OD.nil ?_
  refine CD.seq ?_
  refine CD.seq ?_
  refine CD.region ?_
  refine OD.still (wants_plain rfl) rfl (still_mv rfl ot) ?_
  refine OD.still (wants_plain rfl) rfl (still_r1 (mk := fun y => .call { callee := .builtin .len, args := #[y], argTypes := #[23] }) rfl ot (by first | exact len_list rfl Tryz.runUnderlying23 | exact len_row rfl Tryz.runUnderlying23)) ?_
  refine OD.still (wants_plain rfl) rfl (still_bin rfl ot opd_const bin_lss) ?_
  refine OD.still (wants_plain rfl) rfl (still_mv rfl ot) ?_
  refine OD.split (t := 17) lk (fun hg17 => ?_) (fun hg17 => ?_)
  · exact absurd hg17 (by simp; omega)
  · have hg17' := hg17; (try simp only [decide_eq_true_eq, decide_eq_false_iff_not, beq_iff_eq, bne_iff_ne, Bool.not_eq_true', Bool.not_eq_false', Bool.not_eq_true, Bool.not_eq_false, beq_eq_false_iff_ne, ne_eq, bne_eq_false_iff_eq, Bool.and_eq_true, Bool.or_eq_true, Bool.not_not] at hg17')
    refine OD.still (wants_T rfl rfl rfl lk (by first | rfl | assumption)) rfl (still_mv rfl ot) ?_
    refine OD.still (wants_T rfl rfl rfl lk (by first | rfl | assumption)) rfl (still_r1 (mk := fun y => .call { callee := .builtin .len, args := #[y], argTypes := #[23] }) rfl ot (by first | exact len_list rfl Tryz.runUnderlying23 | exact len_row rfl Tryz.runUnderlying23)) ?_
    refine OD.still (wants_T rfl rfl rfl lk (by first | rfl | assumption)) rfl (still_bin rfl ot opd_const bin_gtr) ?_
    refine OD.still (wants_plain rfl) rfl (still_pickF rfl ot (by first | rfl | assumption) ot) ?_
    refine OD.still (wants_plain rfl) rfl (still_mv rfl ot) ?_
    refine OD.split (t := 22) lk (fun hg22 => ?_) (fun hg22 => ?_)
    · exact absurd hg22 (by simp; omega)
    · have hg22' := hg22; (try simp only [decide_eq_true_eq, decide_eq_false_iff_not, beq_iff_eq, bne_iff_ne, Bool.not_eq_true', Bool.not_eq_false', Bool.not_eq_true, Bool.not_eq_false, beq_eq_false_iff_ne, ne_eq, bne_eq_false_iff_eq, Bool.and_eq_true, Bool.or_eq_true, Bool.not_not] at hg22')
      refine OD.still (wants_T rfl rfl rfl lk (by first | rfl | assumption)) rfl (still_mv rfl ot) ?_
      refine OD.still (wants_T rfl rfl rfl lk (by first | rfl | assumption)) rfl (still_r1 (mk := fun y => .call { callee := .builtin .len, args := #[y], argTypes := #[25] }) rfl ot (by first | exact len_list rfl Tryz.runUnderlying25 | exact len_row rfl Tryz.runUnderlying25)) ?_
      refine OD.still (wants_T rfl rfl rfl lk (by first | rfl | assumption)) rfl (still_bin rfl ot opd_const bin_gtr) ?_
      refine OD.still (wants_plain rfl) rfl (still_pickF rfl ot (by first | rfl | assumption) ot) ?_
      refine OD.wk (Wk.as_ (n := 112) (l' := [(0, _), (1, _), (4, _), (26, _)]) (S' := [⟨b4, 30, 3, [_, _, _]⟩]) rfl rfl ⟨lk, lk, lk, lk, trivial⟩) ?_
      refine OD.nil ?_
      refine CD.cond ot (fun hc0 => ?_) (fun hc0 => ?_)
      · exact absurd hc0 (by simp)
      · have hc0' := hc0
        (try simp only [decide_eq_true_eq, decide_eq_false_iff_not, beq_iff_eq, bne_iff_ne, Bool.not_eq_true', Bool.not_eq_false', Bool.not_eq_true, Bool.not_eq_false, beq_eq_false_iff_ne, ne_eq, bne_eq_false_iff_eq, Bool.and_eq_true, Bool.or_eq_true, Bool.not_not, Bool.and_eq_false_iff, Bool.or_eq_false_iff, Int.not_lt, Int.not_le] at hc0')
        refine CD.skip ?_
        refine CD.seq ?_
        refine CD.region ?_
        refine OD.still (wants_plain rfl) rfl (still_bld (pl := []) (ds := [_, _, _, _, _, _, _, _]) rfl Tryz.zeroValue52 Tryz.runUnderlying52 places52_Tp1 trivial rfl rfl) ?_
        refine OD.box (ds := [_, _, _, _, _, _, _, _]) (wants_plain rfl) rfl rfl ot rfl rfl (fun b29 => ?_)
        refine OD.still (wants_plain rfl) rfl (still_as rfl ot) ?_
        refine OD.wk (Wk.as_ (n := 112) (l' := [(0, _), (1, _), (4, _), (6, _)]) (S' := [⟨b29, 52, 8, [_, _, _, _, _, _, _, _]⟩, ⟨b4, 30, 3, [_, _, _]⟩]) rfl rfl ⟨lk, lk, lk, lk, trivial⟩) ?_
        refine OD.nil ?_
        refine CD.seq ?_
        refine CD.seq ?_
        refine CD.region ?_
        refine OD.still (wants_plain rfl) rfl (still_mv rfl ot) ?_
        refine OD.still (wants_plain rfl) rfl (still_r1 (mk := fun y => .call { callee := .builtin .len, args := #[y], argTypes := #[23] }) rfl ot (by first | exact len_list rfl Tryz.runUnderlying23 | exact len_row rfl Tryz.runUnderlying23)) ?_
        refine OD.still (wants_plain rfl) rfl (still_mv rfl opd_const) ?_
        refine OD.wk (Wk.as_ (n := 112) (l' := [(0, _), (1, _), (4, _), (6, _), (30, _), (31, _), (32, _)]) (S' := [⟨b29, 52, 8, [_, _, _, _, _, _, _, _]⟩, ⟨b4, 30, 3, [_, _, _]⟩]) rfl rfl ⟨lk, lk, lk, lk, lk, lk, lk, trivial⟩) ?_
        refine OD.nil ?_
        refine CD.block ?_
        refine CD.wk (Wk.asS (n := 112) (l' := [(0, .list 1 ((un k).flatMap cN) (un k).length), (1, .v (.slice none 0 0)), (4, .v (.pointer (some ⟨b4, 0, none⟩))), (6, .v (.pointer (some ⟨b29, 0, none⟩))), (30, .list 1 ((un k).flatMap cN) (un k).length), (31, .v (.int .i64 ((un k).length : Nat))), (32, .v (.int .i64 ((0) : Nat)))]) (S' := ((⟨b29, 52, 8, [.v (.slice none 0 0), .v (.slice none 0 0), .v (.slice none 0 0), .v (.slice none (un (0)).length (0)), .v (.int .i64 0), .v (.slice none 0 0), .v (.slice none 0 0), .v (.slice none 0 0)]⟩ : Blk) :: (⟨b4, 30, 3, [.v (.slice none 0 0), .v (.slice none 0 0), .v (.slice none 0 0)]⟩ : Blk) :: ([]))) rfl (by repeat (first | exact List.Sublist.refl _ | apply List.Sublist.cons_cons | apply List.Sublist.cons)) ⟨(by (repeat (first | exact look_hit | (apply look_at; focus (first | rfl | (simp; done) | (congr 2; omega))) | (apply look_miss; focus rfl))); done), (by (repeat (first | exact look_hit | (apply look_at; focus (first | rfl | (simp; done) | (congr 2; omega))) | (apply look_miss; focus rfl))); done), (by (repeat (first | exact look_hit | (apply look_at; focus (first | rfl | (simp; done) | (congr 2; omega))) | (apply look_miss; focus rfl))); done), (by (repeat (first | exact look_hit | (apply look_at; focus (first | rfl | (simp; done) | (congr 2; omega))) | (apply look_miss; focus rfl))); done), (by (repeat (first | exact look_hit | (apply look_at; focus (first | rfl | (simp; done) | (congr 2; omega))) | (apply look_miss; focus rfl))); done), (by (repeat (first | exact look_hit | (apply look_at; focus (first | rfl | (simp; done) | (congr 2; omega))) | (apply look_miss; focus rfl))); done), (by (repeat (first | exact look_hit | (apply look_at; focus (first | rfl | (simp; done) | (congr 2; omega))) | (apply look_miss; focus rfl))); done), trivial⟩) (CD.loop (fun (gh__ : Nat × Option Addr × Nat × List Blk) y__ => match gh__ with | (i, ad, cp, Sr) => (i ≤ k) ∧ (OwnL 55 6 ((un i).flatMap cE) (un i).length ad cp Sr) ∧ y__ = (⟨112, [(0, .list 1 ((un k).flatMap cN) (un k).length), (1, .v (.slice none 0 0)), (4, .v (.pointer (some ⟨b4, 0, none⟩))), (6, .v (.pointer (some ⟨b29, 0, none⟩))), (30, .list 1 ((un k).flatMap cN) (un k).length), (31, .v (.int .i64 ((un k).length : Nat))), (32, .v (.int .i64 (i : Nat)))], ((⟨b29, 52, 8, [.v (.slice none 0 0), .v (.slice none 0 0), .v (.slice none 0 0), .v (.slice ad (un i).length cp), .v (.int .i64 0), .v (.slice none 0 0), .v (.slice none 0 0), .v (.slice none 0 0)]⟩ : Blk) :: (⟨b4, 30, 3, [.v (.slice none 0 0), .v (.slice none 0 0), .v (.slice none 0 0)]⟩ : Blk) :: Sr)⟩ : St)) (fun (gh__ : Nat × Option Addr × Nat × List Blk) => match gh__ with | (i, ad, cp, Sr) => k - i) (0, none, 0, []) ⟨(Nat.zero_le _), (.inl ⟨rfl, rfl, rfl, rfl, rfl⟩), rfl⟩ ?_)
        rintro ⟨i, ad, cp, Sr⟩ _ ⟨hi, ho, rfl⟩
        refine CD.seq ?_
        refine CD.region ?_
        refine OD.still (wants_plain rfl) rfl (still_bin rfl ot ot bin_lss) ?_
        refine OD.wk (Wk.as_ (n := 112) (l' := [(0, _), (1, _), (4, _), (6, _), (30, _), (31, _), (32, _), (33, _)]) (S' := (⟨b29, 52, 8, [_, _, _, _, _, _, _, _]⟩ :: ⟨b4, 30, 3, [_, _, _]⟩ :: Sr)) rfl rfl ⟨lk, lk, lk, lk, lk, lk, lk, lk, trivial⟩) ?_
        refine OD.nil ?_
        refine CD.seq ?_
        refine CD.cond ot (fun hc1 => ?_) (fun hc1 => ?_)
        · have hc1' := hc1
          (try simp only [decide_eq_true_eq, decide_eq_false_iff_not, beq_iff_eq, bne_iff_ne, Bool.not_eq_true', Bool.not_eq_false', Bool.not_eq_true, Bool.not_eq_false, beq_eq_false_iff_ne, ne_eq, bne_eq_false_iff_eq, Bool.and_eq_true, Bool.or_eq_true, Bool.not_not, Bool.and_eq_false_iff, Bool.or_eq_false_iff, Int.not_lt, Int.not_le] at hc1')
          have hlt : i < (un k).length := by omega
          have hil := un_len i
          refine CD.skip ?_
          refine CD.seq ?_
          refine CD.block ?_
          refine CD.seq ?_
          refine CD.region ?_
          refine OD.still (wants_plain rfl) rfl (still_r2 (mk := Op.indexAddr 23) rfl ot ot (by first | exact ix_list Tryz.runUnderlying23 Tryz.sizeOf34 rfl (by first | assumption | omega) | exact ix_list (j := Int.toNat _) Tryz.runUnderlying23 Tryz.sizeOf34 (Int.toNat_of_nonneg (by omega)).symm (by omega) | exact ix_row Tryz.runUnderlying23 Tryz.sizeOf34 rfl (by first | assumption | omega) | exact ix_row (j := Int.toNat _) Tryz.runUnderlying23 Tryz.sizeOf34 (Int.toNat_of_nonneg (by omega)).symm (by omega))) ?_
          refine OD.still (wants_plain rfl) rfl (still_r1 (mk := Op.load 34) rfl ot (by first | exact ld_blk (k := 0) rfl rfl Tryz.isAgg34 rfl | exact ld_blk (k := 1) rfl rfl Tryz.isAgg34 rfl | exact ld_fm cN_len Tryz.isAgg34 (by first | assumption | omega) rfl | exact ld_fm0 cN_len Tryz.isAgg34 (by first | assumption | omega) rfl | exact ld_row (k := 0) cN_len rfl rfl rfl Tryz.isAgg34 (by first | assumption | omega) rfl | exact ld_row0 (k := 0) cN_len rfl rfl rfl Tryz.isAgg34 (by first | assumption | omega) rfl | exact ld_row (k := 1) cN_len rfl rfl rfl Tryz.isAgg34 (by first | assumption | omega) rfl | exact ld_row0 (k := 1) cN_len rfl rfl rfl Tryz.isAgg34 (by first | assumption | omega) rfl | exact ld_i Tryz.isAgg34 rfl)) ?_
          refine OD.still (wants_plain rfl) rfl (still_as rfl ot) ?_
          refine OD.wk (Wk.as_ (n := 112) (l' := [(0, _), (1, _), (4, _), (6, _), (8, _), (30, _), (31, _), (32, _)]) (S' := (⟨b29, 52, 8, [_, _, _, _, _, _, _, _]⟩ :: ⟨b4, 30, 3, [_, _, _]⟩ :: Sr)) rfl rfl ⟨lk, lk, lk, lk, lk, lk, lk, lk, trivial⟩) ?_
          refine OD.nil ?_
          refine CD.seq ?_
          refine CD.seq ?_
          refine CD.region ?_
          refine OD.still (wants_plain rfl) rfl (still_mv rfl ot) ?_
          refine OD.still (wants_plain rfl) rfl (still_r1 (mk := fun y => .call { callee := .builtin .len, args := #[y], argTypes := #[34] }) rfl ot (by first | exact len_list rfl Tryz.runUnderlying34 | exact len_row rfl Tryz.runUnderlying34)) ?_
          refine OD.still (wants_plain rfl) rfl (still_bin rfl ot opd_const bin_gtr) ?_
          refine OD.wk (Wk.as_ (n := 112) (l' := [(0, _), (1, _), (4, _), (6, _), (8, _), (30, _), (31, _), (32, _), (38, _)]) (S' := (⟨b29, 52, 8, [_, _, _, _, _, _, _, _]⟩ :: ⟨b4, 30, 3, [_, _, _]⟩ :: Sr)) rfl rfl ⟨lk, lk, lk, lk, lk, lk, lk, lk, lk, trivial⟩) ?_
          refine OD.nil ?_
          refine CD.cond ot (fun hc2 => ?_) (fun hc2 => ?_)
          · exact absurd hc2 (by simp)
          · have hc2' := hc2
            (try simp only [decide_eq_true_eq, decide_eq_false_iff_not, beq_iff_eq, bne_iff_ne, Bool.not_eq_true', Bool.not_eq_false', Bool.not_eq_true, Bool.not_eq_false, beq_eq_false_iff_ne, ne_eq, bne_eq_false_iff_eq, Bool.and_eq_true, Bool.or_eq_true, Bool.not_not, Bool.and_eq_false_iff, Bool.or_eq_false_iff, Int.not_lt, Int.not_le] at hc2')
            refine CD.skip ?_
            refine CD.region ?_
            refine OD.still (wants_plain rfl) rfl (still_mv rfl ot) ?_
            refine OD.still (wants_plain rfl) rfl (still_mv rfl ot) ?_
            refine OD.still (wants_plain rfl) rfl (still_r1 (mk := Op.nilCheck) rfl ot (by first | exact nc_ptr | exact nc_iptr)) ?_
            refine OD.still (wants_plain rfl) rfl (still_r1 (mk := fun y => Op.fieldAddr 52 y 2) rfl ot (by first | exact fa_ptr (off := 3) Tryz.runUnderlying52 rfl Tryz.sizeOf50 rfl | exact fa_iptr (off := 3) Tryz.runUnderlying52 rfl Tryz.sizeOf50 rfl)) ?_
            refine OD.still (wants_plain rfl) rfl (still_r1 (mk := Op.load 50) rfl ot (by first | exact ld_blk (k := 0) rfl rfl Tryz.isAgg50 rfl | exact ld_fm cN_len Tryz.isAgg50 (by first | assumption | omega) rfl | exact ld_fm0 cN_len Tryz.isAgg50 (by first | assumption | omega) rfl | exact ld_row (k := 0) cN_len rfl rfl rfl Tryz.isAgg50 (by first | assumption | omega) rfl | exact ld_row0 (k := 0) cN_len rfl rfl rfl Tryz.isAgg50 (by first | assumption | omega) rfl | exact ld_row (k := 1) cN_len rfl rfl rfl Tryz.isAgg50 (by first | assumption | omega) rfl | exact ld_row0 (k := 1) cN_len rfl rfl rfl Tryz.isAgg50 (by first | assumption | omega) rfl | exact ld_i Tryz.isAgg50 rfl)) ?_
            refine OD.still (wants_plain rfl) rfl (still_mv rfl ot) ?_
            refine OD.still (wants_plain rfl) rfl (still_bld (pl := [(0, _)]) (ds := [_, _, _, _, _, _]) rfl Tryz.zeroValue55 Tryz.runUnderlying55 places55_Tp1 ⟨rfl, ot, trivial⟩ rfl rfl) ?_
            refine OD.bldS (pl := [(0, _)]) (zvs := [.slice none 0 0, .int .i64 0, .int .i64 0, .bool false, .bool false, .slice none 0 0]) (ds := [_, _, _, _, _, _]) (wants_plain rfl) rfl rfl Tryz.zeroValue55 Tryz.runUnderlying50 Tryz.sizeOf55 rfl rfl (by kernel_rfl) ⟨rfl, ot, trivial⟩ rfl rfl (fun b47 => ?_)
            refine OD.give (k := 0) (t := 47) (sz := 6) (m := 1) (cs := [()].flatMap cE) rfl lk rfl rfl rfl (Nat.le_refl _) (by decide) ?_
            refine OD.appendG (g := cE) (ls := un i) (new := [()]) (Sq := Sr) (R := [_, _]) cE_len cE_one (wants_plain rfl) rfl rfl Tryz.underlying50 infoS rfl (by decide) ot ho (perm_r11 (A := [_, _])) ot (by simp) (by simp [maxLen]; omega) (by simp; omega) (fun b2 cp2 h1 h2 => ?_)
            refine OD.perm (perm_q11 (S1 := [_]) (A := [_, _])) ?_
            rw [un_snoc i] at h1 ⊢
            refine OD.still (wants_plain rfl) rfl (still_r1 (mk := Op.nilCheck) rfl ot (by first | exact nc_ptr | exact nc_iptr)) ?_
            refine OD.still (wants_plain rfl) rfl (still_r1 (mk := fun y => Op.fieldAddr 52 y 2) rfl ot (by first | exact fa_ptr (off := 3) Tryz.runUnderlying52 rfl Tryz.sizeOf50 rfl | exact fa_iptr (off := 3) Tryz.runUnderlying52 rfl Tryz.sizeOf50 rfl)) ?_
            refine OD.store (k := 0) (cs' := [_, _, _, _, _, _, _, _]) (wants_plain rfl) rfl rfl ot rfl rfl ot rfl rfl Tryz.sizeOf50 rfl rfl rfl ?_
            refine OD.wk (Wk.as_ (n := 112) (l' := [(0, _), (1, _), (4, _), (6, _), (30, _), (31, _), (32, _)]) (S' := (⟨b29, 52, 8, [_, _, _, _, _, _, _, _]⟩ :: ⟨b4, 30, 3, [_, _, _]⟩ :: [⟨b2, 55, cp2 * 6, (un (i + 1)).flatMap cE⟩])) rfl rfl ⟨lk, lk, lk, lk, lk, lk, lk, trivial⟩) ?_
            refine OD.nil ?_
            refine CD.region ?_
            refine OD.still (wants_plain rfl) rfl (still_bin rfl ot opd_const (bin_add (wrap_i64 (by omega) (by omega)))) ?_
            refine OD.still (wants_plain rfl) rfl (still_mv rfl ot) ?_
            refine OD.wk (Wk.as_ (n := 112) (l' := [(0, _), (1, _), (4, _), (6, _), (30, _), (31, _), (32, _)]) (S' := (⟨b29, 52, 8, [_, _, _, _, _, _, _, _]⟩ :: ⟨b4, 30, 3, [_, _, _]⟩ :: [⟨b2, 55, cp2 * 6, (un (i + 1)).flatMap cE⟩])) rfl rfl ⟨lk, lk, lk, lk, lk, lk, lk, trivial⟩) ?_
            refine OD.nil ?_
            refine ⟨((i + 1), (some ⟨b2, 0, none⟩), cp2, [⟨b2, 55, cp2 * 6, (un (i + 1)).flatMap cE⟩]), ⟨112, [(0, .list 1 ((un k).flatMap cN) (un k).length), (1, .v (.slice none 0 0)), (4, .v (.pointer (some ⟨b4, 0, none⟩))), (6, .v (.pointer (some ⟨b29, 0, none⟩))), (30, .list 1 ((un k).flatMap cN) (un k).length), (31, .v (.int .i64 ((un k).length : Nat))), (32, .v (.int .i64 (((i + 1)) : Nat)))], ((⟨b29, 52, 8, [.v (.slice none 0 0), .v (.slice none 0 0), .v (.slice none 0 0), .v (.slice ((some ⟨b2, 0, none⟩)) (un ((i + 1))).length cp2), .v (.int .i64 0), .v (.slice none 0 0), .v (.slice none 0 0), .v (.slice none 0 0)]⟩ : Blk) :: (⟨b4, 30, 3, [.v (.slice none 0 0), .v (.slice none 0 0), .v (.slice none 0 0)]⟩ : Blk) :: ([⟨b2, 55, cp2 * 6, (un (i + 1)).flatMap cE⟩]))⟩, ?_, Wk.asS (n := 112) rfl (by repeat (first | exact List.Sublist.refl _ | apply List.Sublist.cons_cons | apply List.Sublist.cons)) ⟨(by (repeat (first | exact look_hit | (apply look_at; focus (first | rfl | (simp; done) | (congr 2; omega))) | (apply look_miss; focus rfl))); done), (by (repeat (first | exact look_hit | (apply look_at; focus (first | rfl | (simp; done) | (congr 2; omega))) | (apply look_miss; focus rfl))); done), (by (repeat (first | exact look_hit | (apply look_at; focus (first | rfl | (simp; done) | (congr 2; omega))) | (apply look_miss; focus rfl))); done), (by (repeat (first | exact look_hit | (apply look_at; focus (first | rfl | (simp; done) | (congr 2; omega))) | (apply look_miss; focus rfl))); done), (by (repeat (first | exact look_hit | (apply look_at; focus (first | rfl | (simp; done) | (congr 2; omega))) | (apply look_miss; focus rfl))); done), (by (repeat (first | exact look_hit | (apply look_at; focus (first | rfl | (simp; done) | (congr 2; omega))) | (apply look_miss; focus rfl))); done), (by (repeat (first | exact look_hit | (apply look_at; focus (first | rfl | (simp; done) | (congr 2; omega))) | (apply look_miss; focus rfl))); done), trivial⟩, (by omega), (ownL_row h1 h2), rfl⟩
            first | omega | (simp only []; omega)
        · have hc1' := hc1
          (try simp only [decide_eq_true_eq, decide_eq_false_iff_not, beq_iff_eq, bne_iff_ne, Bool.not_eq_true', Bool.not_eq_false', Bool.not_eq_true, Bool.not_eq_false, beq_eq_false_iff_ne, ne_eq, bne_eq_false_iff_eq, Bool.and_eq_true, Bool.or_eq_true, Bool.not_not, Bool.and_eq_false_iff, Bool.or_eq_false_iff, Int.not_lt, Int.not_le] at hc1')
          have hik : i = k := by omega
          subst hik
          refine CD.exit ?_
          refine CD.seq ?_
          refine CD.seq ?_
          refine CD.region ?_
          refine OD.still (wants_plain rfl) rfl (still_mv rfl ot) ?_
          refine OD.still (wants_plain rfl) rfl (still_r1 (mk := fun y => .call { callee := .builtin .len, args := #[y], argTypes := #[25] }) rfl ot (by first | exact len_list rfl Tryz.runUnderlying25 | exact len_row rfl Tryz.runUnderlying25)) ?_
          refine OD.still (wants_plain rfl) rfl (still_mv rfl opd_const) ?_
          refine OD.wk (Wk.as_ (n := 112) (l' := [(0, _), (1, _), (4, _), (6, _), (52, _), (53, _), (54, _)]) (S' := (⟨b29, 52, 8, [_, _, _, _, _, _, _, _]⟩ :: ⟨b4, 30, 3, [_, _, _]⟩ :: Sr)) rfl rfl ⟨lk, lk, lk, lk, lk, lk, lk, trivial⟩) ?_
          refine OD.nil ?_
          refine CD.block ?_
          refine CD.wk (Wk.asS (n := 112) (l' := [(0, .list 1 ((un i).flatMap cN) (un i).length), (1, .v (.slice none 0 0)), (4, .v (.pointer (some ⟨b4, 0, none⟩))), (6, .v (.pointer (some ⟨b29, 0, none⟩))), (52, .v (.slice none 0 0)), (53, .v (.int .i64 (0 : Nat))), (54, .v (.int .i64 ((0) : Nat)))]) (S' := ((⟨b29, 52, 8, [.v (.slice none 0 0), .v (.slice none 0 0), .v (.slice none 0 0), .v (.slice ad (un i).length cp), .v (.int .i64 0), .v (.slice none 0 0), .v (.slice none 0 0), .v (.slice none 0 0)]⟩ : Blk) :: (⟨b4, 30, 3, [.v (.slice none 0 0), .v (.slice none 0 0), .v (.slice none 0 0)]⟩ : Blk) :: Sr)) rfl (by repeat (first | exact List.Sublist.refl _ | apply List.Sublist.cons_cons | apply List.Sublist.cons)) ⟨(by (repeat (first | exact look_hit | (apply look_at; focus (first | rfl | (simp; done) | (congr 2; omega))) | (apply look_miss; focus rfl))); done), (by (repeat (first | exact look_hit | (apply look_at; focus (first | rfl | (simp; done) | (congr 2; omega))) | (apply look_miss; focus rfl))); done), (by (repeat (first | exact look_hit | (apply look_at; focus (first | rfl | (simp; done) | (congr 2; omega))) | (apply look_miss; focus rfl))); done), (by (repeat (first | exact look_hit | (apply look_at; focus (first | rfl | (simp; done) | (congr 2; omega))) | (apply look_miss; focus rfl))); done), (by (repeat (first | exact look_hit | (apply look_at; focus (first | rfl | (simp; done) | (congr 2; omega))) | (apply look_miss; focus rfl))); done), (by (repeat (first | exact look_hit | (apply look_at; focus (first | rfl | (simp; done) | (congr 2; omega))) | (apply look_miss; focus rfl))); done), (by (repeat (first | exact look_hit | (apply look_at; focus (first | rfl | (simp; done) | (congr 2; omega))) | (apply look_miss; focus rfl))); done), trivial⟩) (CD.loop (fun (j : Nat) y__ => (j = 0) ∧ y__ = (⟨112, [(0, .list 1 ((un i).flatMap cN) (un i).length), (1, .v (.slice none 0 0)), (4, .v (.pointer (some ⟨b4, 0, none⟩))), (6, .v (.pointer (some ⟨b29, 0, none⟩))), (52, .v (.slice none 0 0)), (53, .v (.int .i64 (0 : Nat))), (54, .v (.int .i64 (j : Nat)))], ((⟨b29, 52, 8, [.v (.slice none 0 0), .v (.slice none 0 0), .v (.slice none 0 0), .v (.slice ad (un i).length cp), .v (.int .i64 0), .v (.slice none 0 0), .v (.slice none 0 0), .v (.slice none 0 0)]⟩ : Blk) :: (⟨b4, 30, 3, [.v (.slice none 0 0), .v (.slice none 0 0), .v (.slice none 0 0)]⟩ : Blk) :: Sr)⟩ : St)) (fun (j : Nat) => 0) 0 ⟨rfl, rfl⟩ ?_)
          rintro j _ ⟨hj, rfl⟩
          refine CD.seq ?_
          refine CD.region ?_
          refine OD.still (wants_plain rfl) rfl (still_bin rfl ot ot bin_lss) ?_
          refine OD.wk (Wk.as_ (n := 112) (l' := [(0, _), (1, _), (4, _), (6, _), (52, _), (53, _), (54, _), (55, _)]) (S' := (⟨b29, 52, 8, [_, _, _, _, _, _, _, _]⟩ :: ⟨b4, 30, 3, [_, _, _]⟩ :: Sr)) rfl rfl ⟨lk, lk, lk, lk, lk, lk, lk, lk, trivial⟩) ?_
          refine OD.nil ?_
          refine CD.seq ?_
          refine CD.cond ot (fun hc3 => ?_) (fun hc3 => ?_)
          · exact absurd hc3 (by subst hj; simp)
          · have hc3' := hc3
            (try simp only [decide_eq_true_eq, decide_eq_false_iff_not, beq_iff_eq, bne_iff_ne, Bool.not_eq_true', Bool.not_eq_false', Bool.not_eq_true, Bool.not_eq_false, beq_eq_false_iff_ne, ne_eq, bne_eq_false_iff_eq, Bool.and_eq_true, Bool.or_eq_true, Bool.not_not, Bool.and_eq_false_iff, Bool.or_eq_false_iff, Int.not_lt, Int.not_le] at hc3')
            refine CD.exit ?_
            refine CD.seq ?_
            refine CD.region ?_
            refine OD.still (wants_plain rfl) rfl (still_mv rfl ot) ?_
            refine OD.still (wants_plain rfl) rfl (still_mv rfl ot) ?_
            refine OD.still (wants_plain rfl) rfl (still_r1 (mk := fun y => .call { callee := .builtin .len, args := #[y], argTypes := #[23] }) rfl ot (by first | exact len_list rfl Tryz.runUnderlying23 | exact len_row rfl Tryz.runUnderlying23)) ?_
            refine OD.make (g := cN) (a := ()) (n := (un i).length) rfl cN_len (wants_plain rfl) rfl rfl Tryz.underlying24 info44_Tp1 rfl (by decide) ot ot (by omega) (by (simp [maxLen]; omega)) (fun b71 => ?_)
            refine OD.still (wants_plain rfl) rfl (still_r1 (mk := Op.nilCheck) rfl ot (by first | exact nc_ptr | exact nc_iptr)) ?_
            refine OD.still (wants_plain rfl) rfl (still_r1 (mk := fun y => Op.fieldAddr 52 y 4) rfl ot (by first | exact fa_ptr (off := 5) Tryz.runUnderlying52 rfl Tryz.sizeOf30 rfl | exact fa_iptr (off := 5) Tryz.runUnderlying52 rfl Tryz.sizeOf30 rfl)) ?_
            refine OD.still (wants_plain rfl) rfl (still_r1 (mk := fun y => Op.fieldAddr 30 y 0) rfl ot (by first | exact fa_ptr (off := 0) Tryz.runUnderlying30 rfl Tryz.sizeOf24 rfl | exact fa_iptr (off := 0) Tryz.runUnderlying30 rfl Tryz.sizeOf24 rfl)) ?_
            refine OD.store (k := 1) (cs' := [_, _, _, _, _, _, _, _]) (wants_plain rfl) rfl rfl ot rfl rfl ot rfl rfl Tryz.sizeOf24 rfl rfl rfl ?_
            refine OD.wk (Wk.as_ (n := 112) (l' := [(1, _), (4, _), (6, _)]) (S' := (_ :: ⟨b29, 52, 8, [_, _, _, _, _, _, _, _]⟩ :: ⟨b4, 30, 3, [_, _, _]⟩ :: Sr)) rfl rfl ⟨lk, lk, lk, trivial⟩) ?_
            refine OD.nil ?_
            refine CD.seq ?_
            refine CD.seq ?_
            refine CD.region ?_
            refine OD.still (wants_plain rfl) rfl (still_mv rfl ot) ?_
            refine OD.still (wants_plain rfl) rfl (still_r1 (mk := fun y => .call { callee := .builtin .len, args := #[y], argTypes := #[25] }) rfl ot (by first | exact len_list rfl Tryz.runUnderlying25 | exact len_row rfl Tryz.runUnderlying25)) ?_
            refine OD.still (wants_plain rfl) rfl (still_mv rfl opd_const) ?_
            refine OD.wk (Wk.as_ (n := 112) (l' := [(4, _), (6, _), (75, _), (76, _), (77, _)]) (S' := (_ :: ⟨b29, 52, 8, [_, _, _, _, _, _, _, _]⟩ :: ⟨b4, 30, 3, [_, _, _]⟩ :: Sr)) rfl rfl ⟨lk, lk, lk, lk, lk, trivial⟩) ?_
            refine OD.nil ?_
            refine CD.block ?_
            refine CD.wk (Wk.asS (n := 112) (l' := [(4, .v (.pointer (some ⟨b4, 0, none⟩))), (6, .v (.pointer (some ⟨b29, 0, none⟩))), (75, .v (.slice none 0 0)), (76, .v (.int .i64 (0 : Nat))), (77, .v (.int .i64 ((0) : Nat)))]) (S' := ((⟨b29, 52, 8, [.v (.slice none 0 0), .v (.slice none 0 0), .v (.slice none 0 0), .v (.slice ad (un i).length cp), .v (.int .i64 0), .v (.slice (some ⟨b71, 0, none⟩) (List.replicate (un i).length ()).length (un i).length), .v (.slice none 0 0), .v (.slice none 0 0)]⟩ : Blk) :: (⟨b4, 30, 3, [.v (.slice none 0 0), .v (.slice none 0 0), .v (.slice none 0 0)]⟩ : Blk) :: Sr)) rfl (by repeat (first | exact List.Sublist.refl _ | apply List.Sublist.cons_cons | apply List.Sublist.cons)) ⟨(by (repeat (first | exact look_hit | (apply look_at; focus (first | rfl | (simp; done) | (congr 2; omega))) | (apply look_miss; focus rfl))); done), (by (repeat (first | exact look_hit | (apply look_at; focus (first | rfl | (simp; done) | (congr 2; omega))) | (apply look_miss; focus rfl))); done), (by (repeat (first | exact look_hit | (apply look_at; focus (first | rfl | (simp; done) | (congr 2; omega))) | (apply look_miss; focus rfl))); done), (by (repeat (first | exact look_hit | (apply look_at; focus (first | rfl | (simp; done) | (congr 2; omega))) | (apply look_miss; focus rfl))); done), (by (repeat (first | exact look_hit | (apply look_at; focus (first | rfl | (simp; done) | (congr 2; omega))) | (apply look_miss; focus rfl))); done), trivial⟩) (CD.loop (fun (q : Nat) y__ => (q = 0) ∧ y__ = (⟨112, [(4, .v (.pointer (some ⟨b4, 0, none⟩))), (6, .v (.pointer (some ⟨b29, 0, none⟩))), (75, .v (.slice none 0 0)), (76, .v (.int .i64 (0 : Nat))), (77, .v (.int .i64 (q : Nat)))], ((⟨b29, 52, 8, [.v (.slice none 0 0), .v (.slice none 0 0), .v (.slice none 0 0), .v (.slice ad (un i).length cp), .v (.int .i64 0), .v (.slice (some ⟨b71, 0, none⟩) (List.replicate (un i).length ()).length (un i).length), .v (.slice none 0 0), .v (.slice none 0 0)]⟩ : Blk) :: (⟨b4, 30, 3, [.v (.slice none 0 0), .v (.slice none 0 0), .v (.slice none 0 0)]⟩ : Blk) :: Sr)⟩ : St)) (fun (q : Nat) => 0) 0 ⟨rfl, rfl⟩ ?_)
            rintro q _ ⟨hq, rfl⟩
            refine CD.seq ?_
            refine CD.region ?_
            refine OD.still (wants_plain rfl) rfl (still_bin rfl ot ot bin_lss) ?_
            refine OD.wk (Wk.as_ (n := 112) (l' := [(4, _), (6, _), (75, _), (76, _), (77, _), (78, _)]) (S' := (⟨b29, 52, 8, [_, _, _, _, _, _, _, _]⟩ :: ⟨b4, 30, 3, [_, _, _]⟩ :: Sr)) rfl rfl ⟨lk, lk, lk, lk, lk, lk, trivial⟩) ?_
            refine OD.nil ?_
            refine CD.seq ?_
            refine CD.cond ot (fun hc5 => ?_) (fun hc5 => ?_)
            · exact absurd hc5 (by subst hq; simp)
            · have hc5' := hc5
              (try simp only [decide_eq_true_eq, decide_eq_false_iff_not, beq_iff_eq, bne_iff_ne, Bool.not_eq_true', Bool.not_eq_false', Bool.not_eq_true, Bool.not_eq_false, beq_eq_false_iff_ne, ne_eq, bne_eq_false_iff_eq, Bool.and_eq_true, Bool.or_eq_true, Bool.not_not, Bool.and_eq_false_iff, Bool.or_eq_false_iff, Int.not_lt, Int.not_le] at hc5')
              refine CD.exit ?_
              refine CD.seq ?_
              refine CD.block ?_
              refine CD.wk (Wk.asS (n := 112) (l' := [(4, .v (.pointer (some ⟨b4, 0, none⟩))), (6, .v (.pointer (some ⟨b29, 0, none⟩)))]) (S' := ((⟨b29, 52, 8, [.v (.slice none 0 0), .v (.slice none 0 0), .v (.slice none 0 0), .v (.slice ad (un i).length cp), .v (.int .i64 0), .v (.slice (some ⟨b71, 0, none⟩) (List.replicate (un i).length ()).length (un i).length), .v (.slice none 0 0), .v (.slice none 0 0)]⟩ : Blk) :: (⟨b4, 30, 3, [.v (.slice none 0 0), .v (.slice none 0 0), .v (.slice none 0 0)]⟩ : Blk) :: Sr)) rfl (by repeat (first | exact List.Sublist.refl _ | apply List.Sublist.cons_cons | apply List.Sublist.cons)) ⟨(by (repeat (first | exact look_hit | (apply look_at; focus (first | rfl | (simp; done) | (congr 2; omega))) | (apply look_miss; focus rfl))); done), (by (repeat (first | exact look_hit | (apply look_at; focus (first | rfl | (simp; done) | (congr 2; omega))) | (apply look_miss; focus rfl))); done), trivial⟩) (CD.loop (fun (z : Nat) y__ => (z = 0) ∧ y__ = (⟨112, [(4, .v (.pointer (some ⟨b4, 0, none⟩))), (6, .v (.pointer (some ⟨b29, 0, none⟩)))], ((⟨b29, 52, 8, [.v (.slice none 0 0), .v (.slice none 0 0), .v (.slice none 0 0), .v (.slice ad (un i).length cp), .v (.int .i64 0), .v (.slice (some ⟨b71, 0, none⟩) (List.replicate (un i).length ()).length (un i).length), .v (.slice none 0 0), .v (.slice none 0 0)]⟩ : Blk) :: (⟨b4, 30, 3, [.v (.slice none 0 0), .v (.slice none 0 0), .v (.slice none 0 0)]⟩ : Blk) :: Sr)⟩ : St)) (fun (z : Nat) => 0) 0 ⟨rfl, rfl⟩ ?_)
              rintro z _ ⟨hz, rfl⟩
              refine CD.seq ?_
              refine CD.seq ?_
              refine CD.region ?_
              refine OD.still (wants_plain rfl) rfl (still_mv rfl ot) ?_
              refine OD.call (wants_plain rfl) rfl rfl rfl Tryz.call11 (over_vc b29 i cp ad _ _ _ Sr (by omega) ho) ⟨ot, trivial⟩ perm_out ?_
              rintro _ S86 ⟨rfl, rfl⟩
              refine OD.perm perm_in ?_
              refine OD.still (wants_plain rfl) rfl (still_un rfl ot un_not) ?_
              refine OD.wk (Wk.as_ (n := 112) (l' := [(4, _), (6, _), (87, _)]) (S' := (⟨b29, 52, 8, [_, _, _, _, _, _, _, _]⟩ :: ⟨b4, 30, 3, [_, _, _]⟩ :: Sr)) rfl rfl ⟨lk, lk, lk, trivial⟩) ?_
              refine OD.nil ?_
              refine CD.cond ot (fun hc6 => ?_) (fun hc6 => ?_)
              · exact absurd hc6 (by simp)
              · have hc6' := hc6
                (try simp only [decide_eq_true_eq, decide_eq_false_iff_not, beq_iff_eq, bne_iff_ne, Bool.not_eq_true', Bool.not_eq_false', Bool.not_eq_true, Bool.not_eq_false, beq_eq_false_iff_ne, ne_eq, bne_eq_false_iff_eq, Bool.and_eq_true, Bool.or_eq_true, Bool.not_not, Bool.and_eq_false_iff, Bool.or_eq_false_iff, Int.not_lt, Int.not_le] at hc6')
                refine CD.exit ?_
                refine CD.seq ?_
                refine CD.region ?_
                refine OD.still (wants_plain rfl) rfl (still_mv rfl ot) ?_
                refine OD.still (wants_plain rfl) rfl (still_mv rfl ot) ?_
                refine OD.still (wants_plain rfl) rfl (still_r1 (mk := Op.nilCheck) rfl ot (by first | exact nc_ptr | exact nc_iptr)) ?_
                refine OD.still (wants_plain rfl) rfl (still_r1 (mk := fun y => Op.fieldAddr 52 y 0) rfl ot (by first | exact fa_ptr (off := 0) Tryz.runUnderlying52 rfl Tryz.sizeOf28 rfl | exact fa_iptr (off := 0) Tryz.runUnderlying52 rfl Tryz.sizeOf28 rfl)) ?_
                refine OD.still (wants_plain rfl) rfl (still_r1 (mk := Op.load 28) rfl ot (by first | exact ld_blks (k := 0) (ds := [_]) rfl rfl Tryz.isAgg28 Tryz.sizeOf28 rfl rfl | exact ld_fms cN_len Tryz.isAgg28 Tryz.sizeOf28 (by first | assumption | omega) | exact ld_rows (k := 0) cN_len rfl rfl rfl Tryz.isAgg28 Tryz.sizeOf28 (by first | assumption | omega) | exact ld_rows (k := 1) cN_len rfl rfl rfl Tryz.isAgg28 Tryz.sizeOf28 (by first | assumption | omega) | exact ld_is (ds := [_]) Tryz.isAgg28 Tryz.sizeOf28 rfl rfl)) ?_
                refine OD.still (wants_plain rfl) rfl (still_r1 (mk := Op.nilCheck) rfl ot (by first | exact nc_ptr | exact nc_iptr)) ?_
                refine OD.still (wants_plain rfl) rfl (still_r1 (mk := fun y => Op.fieldAddr 52 y 4) rfl ot (by first | exact fa_ptr (off := 5) Tryz.runUnderlying52 rfl Tryz.sizeOf30 rfl | exact fa_iptr (off := 5) Tryz.runUnderlying52 rfl Tryz.sizeOf30 rfl)) ?_
                refine OD.still (wants_plain rfl) rfl (still_r1 (mk := fun y => Op.fieldAddr 30 y 2) rfl ot (by first | exact fa_ptr (off := 2) Tryz.runUnderlying30 rfl Tryz.sizeOf28 rfl | exact fa_iptr (off := 2) Tryz.runUnderlying30 rfl Tryz.sizeOf28 rfl)) ?_
                refine OD.store (k := 0) (cs' := [_, _, _, _, _, _, _, _]) (wants_plain rfl) rfl rfl ot rfl rfl ot rfl rfl Tryz.sizeOf28 rfl rfl rfl ?_
                refine OD.wk (Wk.as_ (n := 112) (l' := [(4, _), (6, _)]) (S' := (⟨b29, 52, 8, [_, _, _, _, _, _, _, _]⟩ :: ⟨b4, 30, 3, [_, _, _]⟩ :: Sr)) rfl rfl ⟨lk, lk, trivial⟩) ?_
                refine OD.nil ?_
                refine CD.seq ?_
                refine CD.region ?_
                refine OD.still (wants_plain rfl) rfl (still_mv rfl ot) ?_
                refine OD.still (wants_plain rfl) rfl (still_r1 (mk := Op.nilCheck) rfl ot (by first | exact nc_ptr | exact nc_iptr)) ?_
                refine OD.still (wants_plain rfl) rfl (still_r1 (mk := fun y => Op.fieldAddr 52 y 4) rfl ot (by first | exact fa_ptr (off := 5) Tryz.runUnderlying52 rfl Tryz.sizeOf30 rfl | exact fa_iptr (off := 5) Tryz.runUnderlying52 rfl Tryz.sizeOf30 rfl)) ?_
                refine OD.still (wants_plain rfl) rfl (still_r1 (mk := Op.load 30) rfl ot (by first | exact ld_blks (k := 0) (ds := [_, _, _]) rfl rfl Tryz.isAgg30 Tryz.sizeOf30 rfl rfl | exact ld_fms cN_len Tryz.isAgg30 Tryz.sizeOf30 (by first | assumption | omega) | exact ld_rows (k := 0) cN_len rfl rfl rfl Tryz.isAgg30 Tryz.sizeOf30 (by first | assumption | omega) | exact ld_rows (k := 1) cN_len rfl rfl rfl Tryz.isAgg30 Tryz.sizeOf30 (by first | assumption | omega) | exact ld_is (ds := [_, _, _]) Tryz.isAgg30 Tryz.sizeOf30 rfl rfl)) ?_
                refine OD.store (k := 1) (cs' := [_, _, _]) (wants_plain rfl) rfl rfl ot rfl rfl ot rfl rfl Tryz.sizeOf30 rfl rfl rfl ?_
                refine OD.still (wants_plain rfl) rfl (still_as rfl opd_const) ?_
                refine OD.wk (Wk.as_ (n := 112) (l' := [(4, _), (5, _)]) (S' := (⟨b29, 52, 8, [_, _, _, _, _, _, _, _]⟩ :: ⟨b4, 30, 3, [_, _, _]⟩ :: Sr)) rfl rfl ⟨lk, lk, trivial⟩) ?_
                refine OD.nil ?_
                refine CD.ret ?_
                refine ⟨.inr rfl, _, [], List.nil_sublist _, ret_two Tryz.results6 (res_cells (k := 1) (ds := [_, _, _]) (Nat.le_of_ble_eq_true rfl) lk rfl rfl Tryz.isAgg30 Tryz.sizeOf30 rfl rfl) (res_tmp (Nat.le_of_ble_eq_true rfl) lk), ?_⟩
                exact ⟨_, _, rfl, rfl⟩

def cI (n : Int) : List D := [.v (.int .i64 n)]
theorem cI_len (n : Int) : (cI n).length = 1 := rfl
/-- A script. -/
def cSS (l : List ByteArray) : List D := [.list 1 (l.flatMap cS) l.length]
theorem cSS_len (l : List ByteArray) : (cSS l).length = 1 := rfl
def cF (l : List ByteArray) : List D := [.list 1 (l.flatMap cS) l.length, .v (.int .i64 0), .v (.int .i64 0), .v (.bool false), .v (.bool false), .v (.slice none 0 0)]
theorem cF_len (l : List ByteArray) : (cF l).length = 6 := rfl
theorem cF_one (l : List ByteArray) : (cF l).all V.one = true := rfl

set_option maxHeartbeats 4000000 in
set_option maxRecDepth 100000 in
theorem runLong_vp (l : List ByteArray) (hl : 20 < l.length) : VP Tryz.prog G 6 [.list 1 ([l].flatMap cSS) [l].length, .v (.slice none 0 0)] (.tup [.agg [.v (.slice none 0 0), .v (.slice none 0 0), .v (.slice none 0 0)], .v (.int .i64 1)]) := by
  refine VC.body Tryz.func6 rfl Tryz.ntmps6 (Nat.le_of_ble_eq_true rfl) fun X0 w0 S00 => ?_
  have hl1 : [l].length = 1 := rfl
  refine CD.seq ?_
  refine CD.region ?_
  refine OD.alloc (ds := [_, _, _]) (wants_plain rfl) rfl rfl Tryz.zeroValue30 rfl (fun b4 => ?_)
  refine OD.still (wants_plain rfl) rfl (still_as rfl opd_const) ?_
  refine OD.wk (Wk.as_ (n := 112) (l' := [(0, _), (1, _), (4, _)]) (S' := [⟨b4, 30, 3, [_, _, _]⟩]) rfl rfl ⟨lk, lk, lk, trivial⟩) ?_
  refine OD.nil ?_
  refine CD.seq ?_
  refine CD.seq ?_
  refine CD.region ?_
  refine OD.still (wants_plain rfl) rfl (still_mv rfl ot) ?_
  refine OD.still (wants_plain rfl) rfl (still_r1 (mk := fun y => .call { callee := .builtin .len, args := #[y], argTypes := #[23] }) rfl ot (by first | exact len_list rfl Tryz.runUnderlying23 | exact len_row rfl Tryz.runUnderlying23)) ?_
  refine OD.still (wants_plain rfl) rfl (still_bin rfl ot opd_const bin_lss) ?_
  refine OD.still (wants_plain rfl) rfl (still_mv rfl ot) ?_
  refine OD.split (t := 17) lk (fun hg17 => ?_) (fun hg17 => ?_)
  · exact absurd hg17 (by simp)
  · have hg17' := hg17; (try simp only [decide_eq_true_eq, decide_eq_false_iff_not, beq_iff_eq, bne_iff_ne, Bool.not_eq_true', Bool.not_eq_false', Bool.not_eq_true, Bool.not_eq_false, beq_eq_false_iff_ne, ne_eq, bne_eq_false_iff_eq, Bool.and_eq_true, Bool.or_eq_true, Bool.not_not] at hg17')
    refine OD.still (wants_T rfl rfl rfl lk (by first | rfl | assumption)) rfl (still_mv rfl ot) ?_
    refine OD.still (wants_T rfl rfl rfl lk (by first | rfl | assumption)) rfl (still_r1 (mk := fun y => .call { callee := .builtin .len, args := #[y], argTypes := #[23] }) rfl ot (by first | exact len_list rfl Tryz.runUnderlying23 | exact len_row rfl Tryz.runUnderlying23)) ?_
    refine OD.still (wants_T rfl rfl rfl lk (by first | rfl | assumption)) rfl (still_bin rfl ot opd_const bin_gtr) ?_
    refine OD.still (wants_plain rfl) rfl (still_pickF rfl ot (by first | rfl | assumption) ot) ?_
    refine OD.still (wants_plain rfl) rfl (still_mv rfl ot) ?_
    refine OD.split (t := 22) lk (fun hg22 => ?_) (fun hg22 => ?_)
    · exact absurd hg22 (by simp)
    · have hg22' := hg22; (try simp only [decide_eq_true_eq, decide_eq_false_iff_not, beq_iff_eq, bne_iff_ne, Bool.not_eq_true', Bool.not_eq_false', Bool.not_eq_true, Bool.not_eq_false, beq_eq_false_iff_ne, ne_eq, bne_eq_false_iff_eq, Bool.and_eq_true, Bool.or_eq_true, Bool.not_not] at hg22')
      refine OD.still (wants_T rfl rfl rfl lk (by first | rfl | assumption)) rfl (still_mv rfl ot) ?_
      refine OD.still (wants_T rfl rfl rfl lk (by first | rfl | assumption)) rfl (still_r1 (mk := fun y => .call { callee := .builtin .len, args := #[y], argTypes := #[25] }) rfl ot (by first | exact len_list rfl Tryz.runUnderlying25 | exact len_row rfl Tryz.runUnderlying25)) ?_
      refine OD.still (wants_T rfl rfl rfl lk (by first | rfl | assumption)) rfl (still_bin rfl ot opd_const bin_gtr) ?_
      refine OD.still (wants_plain rfl) rfl (still_pickF rfl ot (by first | rfl | assumption) ot) ?_
      refine OD.wk (Wk.as_ (n := 112) (l' := [(0, _), (1, _), (4, _), (26, _)]) (S' := [⟨b4, 30, 3, [_, _, _]⟩]) rfl rfl ⟨lk, lk, lk, lk, trivial⟩) ?_
      refine OD.nil ?_
      refine CD.cond ot (fun hc0 => ?_) (fun hc0 => ?_)
      · exact absurd hc0 (by simp)
      · have hc0' := hc0
        (try simp only [decide_eq_true_eq, decide_eq_false_iff_not, beq_iff_eq, bne_iff_ne, Bool.not_eq_true', Bool.not_eq_false', Bool.not_eq_true, Bool.not_eq_false, beq_eq_false_iff_ne, ne_eq, bne_eq_false_iff_eq, Bool.and_eq_true, Bool.or_eq_true, Bool.not_not, Bool.and_eq_false_iff, Bool.or_eq_false_iff, Int.not_lt, Int.not_le] at hc0')
        refine CD.skip ?_
        refine CD.seq ?_
        refine CD.region ?_
        refine OD.still (wants_plain rfl) rfl (still_bld (pl := []) (ds := [_, _, _, _, _, _, _, _]) rfl Tryz.zeroValue52 Tryz.runUnderlying52 places52_Tp1 trivial rfl rfl) ?_
        refine OD.box (ds := [_, _, _, _, _, _, _, _]) (wants_plain rfl) rfl rfl ot rfl rfl (fun b29 => ?_)
        refine OD.still (wants_plain rfl) rfl (still_as rfl ot) ?_
        refine OD.wk (Wk.as_ (n := 112) (l' := [(0, _), (1, _), (4, _), (6, _)]) (S' := [⟨b29, 52, 8, [_, _, _, _, _, _, _, _]⟩, ⟨b4, 30, 3, [_, _, _]⟩]) rfl rfl ⟨lk, lk, lk, lk, trivial⟩) ?_
        refine OD.nil ?_
        refine CD.seq ?_
        refine CD.seq ?_
        refine CD.region ?_
        refine OD.still (wants_plain rfl) rfl (still_mv rfl ot) ?_
        refine OD.still (wants_plain rfl) rfl (still_r1 (mk := fun y => .call { callee := .builtin .len, args := #[y], argTypes := #[23] }) rfl ot (by first | exact len_list rfl Tryz.runUnderlying23 | exact len_row rfl Tryz.runUnderlying23)) ?_
        refine OD.still (wants_plain rfl) rfl (still_mv rfl opd_const) ?_
        refine OD.wk (Wk.as_ (n := 112) (l' := [(0, _), (1, _), (4, _), (6, _), (30, _), (31, _), (32, _)]) (S' := [⟨b29, 52, 8, [_, _, _, _, _, _, _, _]⟩, ⟨b4, 30, 3, [_, _, _]⟩]) rfl rfl ⟨lk, lk, lk, lk, lk, lk, lk, trivial⟩) ?_
        refine OD.nil ?_
        refine CD.block ?_
        refine CD.wk (Wk.asS (n := 112) (l' := [(0, .list 1 ([l].flatMap cSS) [l].length), (1, .v (.slice none 0 0)), (4, .v (.pointer (some ⟨b4, 0, none⟩))), (6, .v (.pointer (some ⟨b29, 0, none⟩))), (30, .list 1 ([l].flatMap cSS) [l].length), (31, .v (.int .i64 ([l].length : Nat))), (32, .v (.int .i64 ((0) : Nat)))]) (S' := ((⟨b29, 52, 8, [.v (.slice none 0 0), .v (.slice none 0 0), .v (.slice none 0 0), .v (.slice none (List.replicate (0) l).length (0)), .v (.int .i64 0), .v (.slice none 0 0), .v (.slice none 0 0), .v (.slice none 0 0)]⟩ : Blk) :: (⟨b4, 30, 3, [.v (.slice none 0 0), .v (.slice none 0 0), .v (.slice none 0 0)]⟩ : Blk) :: ([]))) rfl (by repeat (first | exact List.Sublist.refl _ | apply List.Sublist.cons_cons | apply List.Sublist.cons)) ⟨(by (repeat (first | exact look_hit | (apply look_at; focus (first | rfl | (simp; done) | (congr 2; omega))) | (apply look_miss; focus rfl))); done), (by (repeat (first | exact look_hit | (apply look_at; focus (first | rfl | (simp; done) | (congr 2; omega))) | (apply look_miss; focus rfl))); done), (by (repeat (first | exact look_hit | (apply look_at; focus (first | rfl | (simp; done) | (congr 2; omega))) | (apply look_miss; focus rfl))); done), (by (repeat (first | exact look_hit | (apply look_at; focus (first | rfl | (simp; done) | (congr 2; omega))) | (apply look_miss; focus rfl))); done), (by (repeat (first | exact look_hit | (apply look_at; focus (first | rfl | (simp; done) | (congr 2; omega))) | (apply look_miss; focus rfl))); done), (by (repeat (first | exact look_hit | (apply look_at; focus (first | rfl | (simp; done) | (congr 2; omega))) | (apply look_miss; focus rfl))); done), (by (repeat (first | exact look_hit | (apply look_at; focus (first | rfl | (simp; done) | (congr 2; omega))) | (apply look_miss; focus rfl))); done), trivial⟩) (CD.loop (fun (gh__ : Nat × Option Addr × Nat × List Blk) y__ => match gh__ with | (i, ad, cp, Sr) => (i = 0) ∧ (OwnL 55 6 ((List.replicate i l).flatMap cF) (List.replicate i l).length ad cp Sr) ∧ y__ = (⟨112, [(0, .list 1 ([l].flatMap cSS) [l].length), (1, .v (.slice none 0 0)), (4, .v (.pointer (some ⟨b4, 0, none⟩))), (6, .v (.pointer (some ⟨b29, 0, none⟩))), (30, .list 1 ([l].flatMap cSS) [l].length), (31, .v (.int .i64 ([l].length : Nat))), (32, .v (.int .i64 (i : Nat)))], ((⟨b29, 52, 8, [.v (.slice none 0 0), .v (.slice none 0 0), .v (.slice none 0 0), .v (.slice ad (List.replicate i l).length cp), .v (.int .i64 0), .v (.slice none 0 0), .v (.slice none 0 0), .v (.slice none 0 0)]⟩ : Blk) :: (⟨b4, 30, 3, [.v (.slice none 0 0), .v (.slice none 0 0), .v (.slice none 0 0)]⟩ : Blk) :: Sr)⟩ : St)) (fun (gh__ : Nat × Option Addr × Nat × List Blk) => match gh__ with | (i, ad, cp, Sr) => 1 - i) (0, none, 0, []) ⟨rfl, (.inl ⟨rfl, rfl, rfl, rfl, rfl⟩), rfl⟩ ?_)
        rintro ⟨i, ad, cp, Sr⟩ _ ⟨hi, ho, rfl⟩
        refine CD.seq ?_
        refine CD.region ?_
        refine OD.still (wants_plain rfl) rfl (still_bin rfl ot ot bin_lss) ?_
        refine OD.wk (Wk.as_ (n := 112) (l' := [(0, _), (1, _), (4, _), (6, _), (30, _), (31, _), (32, _), (33, _)]) (S' := (⟨b29, 52, 8, [_, _, _, _, _, _, _, _]⟩ :: ⟨b4, 30, 3, [_, _, _]⟩ :: Sr)) rfl rfl ⟨lk, lk, lk, lk, lk, lk, lk, lk, trivial⟩) ?_
        refine OD.nil ?_
        refine CD.seq ?_
        refine CD.cond ot (fun hc1 => ?_) (fun hc1 => ?_)
        · have hc1' := hc1
          (try simp only [decide_eq_true_eq, decide_eq_false_iff_not, beq_iff_eq, bne_iff_ne, Bool.not_eq_true', Bool.not_eq_false', Bool.not_eq_true, Bool.not_eq_false, beq_eq_false_iff_ne, ne_eq, bne_eq_false_iff_eq, Bool.and_eq_true, Bool.or_eq_true, Bool.not_not, Bool.and_eq_false_iff, Bool.or_eq_false_iff, Int.not_lt, Int.not_le] at hc1')
          have hi0 : i = 0 := by omega
          subst hi0
          have hlt : 0 < [l].length := Nat.zero_lt_one
          refine CD.skip ?_
          refine CD.seq ?_
          refine CD.block ?_
          refine CD.seq ?_
          refine CD.region ?_
          refine OD.still (wants_plain rfl) rfl (still_r2 (mk := Op.indexAddr 23) rfl ot ot (by first | exact ix_list Tryz.runUnderlying23 Tryz.sizeOf34 rfl (by first | assumption | omega) | exact ix_list (j := Int.toNat _) Tryz.runUnderlying23 Tryz.sizeOf34 (Int.toNat_of_nonneg (by omega)).symm (by omega) | exact ix_row Tryz.runUnderlying23 Tryz.sizeOf34 rfl (by first | assumption | omega) | exact ix_row (j := Int.toNat _) Tryz.runUnderlying23 Tryz.sizeOf34 (Int.toNat_of_nonneg (by omega)).symm (by omega))) ?_
          refine OD.still (wants_plain rfl) rfl (still_r1 (mk := Op.load 34) rfl ot (by first | exact ld_blk (k := 0) rfl rfl Tryz.isAgg34 rfl | exact ld_blk (k := 1) rfl rfl Tryz.isAgg34 rfl | exact ld_fm cSS_len Tryz.isAgg34 (by first | assumption | omega) rfl | exact ld_fm0 cSS_len Tryz.isAgg34 (by first | assumption | omega) rfl | exact ld_fm cI_len Tryz.isAgg34 (by first | assumption | omega) rfl | exact ld_fm0 cI_len Tryz.isAgg34 (by first | assumption | omega) rfl | exact ld_row (k := 0) cSS_len rfl rfl rfl Tryz.isAgg34 (by first | assumption | omega) rfl | exact ld_row0 (k := 0) cSS_len rfl rfl rfl Tryz.isAgg34 (by first | assumption | omega) rfl | exact ld_row (k := 1) cSS_len rfl rfl rfl Tryz.isAgg34 (by first | assumption | omega) rfl | exact ld_row0 (k := 1) cSS_len rfl rfl rfl Tryz.isAgg34 (by first | assumption | omega) rfl | exact ld_row (k := 0) cI_len rfl rfl rfl Tryz.isAgg34 (by first | assumption | omega) rfl | exact ld_row0 (k := 0) cI_len rfl rfl rfl Tryz.isAgg34 (by first | assumption | omega) rfl | exact ld_row (k := 1) cI_len rfl rfl rfl Tryz.isAgg34 (by first | assumption | omega) rfl | exact ld_row0 (k := 1) cI_len rfl rfl rfl Tryz.isAgg34 (by first | assumption | omega) rfl | exact ld_i Tryz.isAgg34 rfl)) ?_
          refine OD.still (wants_plain rfl) rfl (still_as rfl ot) ?_
          refine OD.wk (Wk.as_ (n := 112) (l' := [(0, _), (1, _), (4, _), (6, _), (8, _), (30, _), (31, _), (32, _)]) (S' := (⟨b29, 52, 8, [_, _, _, _, _, _, _, _]⟩ :: ⟨b4, 30, 3, [_, _, _]⟩ :: Sr)) rfl rfl ⟨lk, lk, lk, lk, lk, lk, lk, lk, trivial⟩) ?_
          refine OD.nil ?_
          refine CD.seq ?_
          refine CD.seq ?_
          refine CD.region ?_
          refine OD.still (wants_plain rfl) rfl (still_mv rfl ot) ?_
          refine OD.still (wants_plain rfl) rfl (still_r1 (mk := fun y => .call { callee := .builtin .len, args := #[y], argTypes := #[34] }) rfl ot (by first | exact len_list rfl Tryz.runUnderlying34 | exact len_row rfl Tryz.runUnderlying34)) ?_
          refine OD.still (wants_plain rfl) rfl (still_bin rfl ot opd_const bin_gtr) ?_
          refine OD.wk (Wk.as_ (n := 112) (l' := [(0, _), (1, _), (4, _), (6, _), (8, _), (30, _), (31, _), (32, _), (38, _)]) (S' := (⟨b29, 52, 8, [_, _, _, _, _, _, _, _]⟩ :: ⟨b4, 30, 3, [_, _, _]⟩ :: Sr)) rfl rfl ⟨lk, lk, lk, lk, lk, lk, lk, lk, lk, trivial⟩) ?_
          refine OD.nil ?_
          refine CD.cond ot (fun hc2 => ?_) (fun hc2 => ?_)
          · have hc2' := hc2
            (try simp only [decide_eq_true_eq, decide_eq_false_iff_not, beq_iff_eq, bne_iff_ne, Bool.not_eq_true', Bool.not_eq_false', Bool.not_eq_true, Bool.not_eq_false, beq_eq_false_iff_ne, ne_eq, bne_eq_false_iff_eq, Bool.and_eq_true, Bool.or_eq_true, Bool.not_not, Bool.and_eq_false_iff, Bool.or_eq_false_iff, Int.not_lt, Int.not_le] at hc2')
            refine CD.seq ?_
            refine CD.region ?_
            refine OD.still (wants_plain rfl) rfl (still_bld (pl := []) (ds := [_, _, _]) rfl Tryz.zeroValue30 Tryz.runUnderlying30 places30_Tp1 trivial rfl rfl) ?_
            refine OD.store (k := 1) (cs' := [_, _, _]) (wants_plain rfl) rfl rfl ot rfl rfl ot rfl rfl Tryz.sizeOf30 rfl rfl rfl ?_
            refine OD.still (wants_plain rfl) rfl (still_as rfl opd_const) ?_
            refine OD.wk (Wk.as_ (n := 112) (l' := [(4, _), (5, _)]) (S' := (⟨b29, 52, 8, [_, _, _, _, _, _, _, _]⟩ :: ⟨b4, 30, 3, [_, _, _]⟩ :: Sr)) rfl rfl ⟨lk, lk, trivial⟩) ?_
            refine OD.nil ?_
            refine CD.ret ?_
            refine ⟨.inr rfl, _, [], List.nil_sublist _, ret_two Tryz.results6 (res_cells (k := 1) (ds := [_, _, _]) (Nat.le_of_ble_eq_true rfl) lk rfl rfl Tryz.isAgg30 Tryz.sizeOf30 rfl rfl) (res_tmp (Nat.le_of_ble_eq_true rfl) lk), ?_⟩
            exact ⟨rfl, rfl⟩
          · exact absurd hc2 (by simp; omega)
        · exact absurd hc1 (by subst hi; simp)

set_option maxHeartbeats 4000000 in
set_option maxRecDepth 100000 in
theorem runPick_vp (l : List ByteArray) (hl : l.length ≤ 20) (p : Int) (hp : 1 ≤ p) : VP Tryz.prog G 6 [.list 1 ([l].flatMap cSS) [l].length, .list 1 ([p].flatMap cI) [p].length] (.tup [.agg [.v (.slice none 0 0), .v (.slice none 0 0), .v (.slice none 0 0)], .v (.int .i64 3)]) := by
  refine VC.body Tryz.func6 rfl Tryz.ntmps6 (Nat.le_of_ble_eq_true rfl) fun X0 w0 S00 => ?_
  have hl1 : [l].length = 1 := rfl
  have hp1 : [p].length = 1 := rfl
  refine CD.seq ?_
  refine CD.region ?_
  refine OD.alloc (ds := [_, _, _]) (wants_plain rfl) rfl rfl Tryz.zeroValue30 rfl (fun b4 => ?_)
  refine OD.still (wants_plain rfl) rfl (still_as rfl opd_const) ?_
  refine OD.wk (Wk.as_ (n := 112) (l' := [(0, _), (1, _), (4, _)]) (S' := [⟨b4, 30, 3, [_, _, _]⟩]) rfl rfl ⟨lk, lk, lk, trivial⟩) ?_
  refine OD.nil ?_
  refine CD.seq ?_
  refine CD.seq ?_
  refine CD.region ?_
  refine OD.still (wants_plain rfl) rfl (still_mv rfl ot) ?_
  refine OD.still (wants_plain rfl) rfl (still_r1 (mk := fun y => .call { callee := .builtin .len, args := #[y], argTypes := #[23] }) rfl ot (by first | exact len_list rfl Tryz.runUnderlying23 | exact len_row rfl Tryz.runUnderlying23)) ?_
  refine OD.still (wants_plain rfl) rfl (still_bin rfl ot opd_const bin_lss) ?_
  refine OD.still (wants_plain rfl) rfl (still_mv rfl ot) ?_
  refine OD.split (t := 17) lk (fun hg17 => ?_) (fun hg17 => ?_)
  · exact absurd hg17 (by simp)
  · have hg17' := hg17; (try simp only [decide_eq_true_eq, decide_eq_false_iff_not, beq_iff_eq, bne_iff_ne, Bool.not_eq_true', Bool.not_eq_false', Bool.not_eq_true, Bool.not_eq_false, beq_eq_false_iff_ne, ne_eq, bne_eq_false_iff_eq, Bool.and_eq_true, Bool.or_eq_true, Bool.not_not] at hg17')
    refine OD.still (wants_T rfl rfl rfl lk (by first | rfl | assumption)) rfl (still_mv rfl ot) ?_
    refine OD.still (wants_T rfl rfl rfl lk (by first | rfl | assumption)) rfl (still_r1 (mk := fun y => .call { callee := .builtin .len, args := #[y], argTypes := #[23] }) rfl ot (by first | exact len_list rfl Tryz.runUnderlying23 | exact len_row rfl Tryz.runUnderlying23)) ?_
    refine OD.still (wants_T rfl rfl rfl lk (by first | rfl | assumption)) rfl (still_bin rfl ot opd_const bin_gtr) ?_
    refine OD.still (wants_plain rfl) rfl (still_pickF rfl ot (by first | rfl | assumption) ot) ?_
    refine OD.still (wants_plain rfl) rfl (still_mv rfl ot) ?_
    refine OD.split (t := 22) lk (fun hg22 => ?_) (fun hg22 => ?_)
    · exact absurd hg22 (by simp)
    · have hg22' := hg22; (try simp only [decide_eq_true_eq, decide_eq_false_iff_not, beq_iff_eq, bne_iff_ne, Bool.not_eq_true', Bool.not_eq_false', Bool.not_eq_true, Bool.not_eq_false, beq_eq_false_iff_ne, ne_eq, bne_eq_false_iff_eq, Bool.and_eq_true, Bool.or_eq_true, Bool.not_not] at hg22')
      refine OD.still (wants_T rfl rfl rfl lk (by first | rfl | assumption)) rfl (still_mv rfl ot) ?_
      refine OD.still (wants_T rfl rfl rfl lk (by first | rfl | assumption)) rfl (still_r1 (mk := fun y => .call { callee := .builtin .len, args := #[y], argTypes := #[25] }) rfl ot (by first | exact len_list rfl Tryz.runUnderlying25 | exact len_row rfl Tryz.runUnderlying25)) ?_
      refine OD.still (wants_T rfl rfl rfl lk (by first | rfl | assumption)) rfl (still_bin rfl ot opd_const bin_gtr) ?_
      refine OD.still (wants_plain rfl) rfl (still_pickF rfl ot (by first | rfl | assumption) ot) ?_
      refine OD.wk (Wk.as_ (n := 112) (l' := [(0, _), (1, _), (4, _), (26, _)]) (S' := [⟨b4, 30, 3, [_, _, _]⟩]) rfl rfl ⟨lk, lk, lk, lk, trivial⟩) ?_
      refine OD.nil ?_
      refine CD.cond ot (fun hc0 => ?_) (fun hc0 => ?_)
      · exact absurd hc0 (by simp)
      · have hc0' := hc0
        (try simp only [decide_eq_true_eq, decide_eq_false_iff_not, beq_iff_eq, bne_iff_ne, Bool.not_eq_true', Bool.not_eq_false', Bool.not_eq_true, Bool.not_eq_false, beq_eq_false_iff_ne, ne_eq, bne_eq_false_iff_eq, Bool.and_eq_true, Bool.or_eq_true, Bool.not_not, Bool.and_eq_false_iff, Bool.or_eq_false_iff, Int.not_lt, Int.not_le] at hc0')
        refine CD.skip ?_
        refine CD.seq ?_
        refine CD.region ?_
        refine OD.still (wants_plain rfl) rfl (still_bld (pl := []) (ds := [_, _, _, _, _, _, _, _]) rfl Tryz.zeroValue52 Tryz.runUnderlying52 places52_Tp1 trivial rfl rfl) ?_
        refine OD.box (ds := [_, _, _, _, _, _, _, _]) (wants_plain rfl) rfl rfl ot rfl rfl (fun b29 => ?_)
        refine OD.still (wants_plain rfl) rfl (still_as rfl ot) ?_
        refine OD.wk (Wk.as_ (n := 112) (l' := [(0, _), (1, _), (4, _), (6, _)]) (S' := [⟨b29, 52, 8, [_, _, _, _, _, _, _, _]⟩, ⟨b4, 30, 3, [_, _, _]⟩]) rfl rfl ⟨lk, lk, lk, lk, trivial⟩) ?_
        refine OD.nil ?_
        refine CD.seq ?_
        refine CD.seq ?_
        refine CD.region ?_
        refine OD.still (wants_plain rfl) rfl (still_mv rfl ot) ?_
        refine OD.still (wants_plain rfl) rfl (still_r1 (mk := fun y => .call { callee := .builtin .len, args := #[y], argTypes := #[23] }) rfl ot (by first | exact len_list rfl Tryz.runUnderlying23 | exact len_row rfl Tryz.runUnderlying23)) ?_
        refine OD.still (wants_plain rfl) rfl (still_mv rfl opd_const) ?_
        refine OD.wk (Wk.as_ (n := 112) (l' := [(0, _), (1, _), (4, _), (6, _), (30, _), (31, _), (32, _)]) (S' := [⟨b29, 52, 8, [_, _, _, _, _, _, _, _]⟩, ⟨b4, 30, 3, [_, _, _]⟩]) rfl rfl ⟨lk, lk, lk, lk, lk, lk, lk, trivial⟩) ?_
        refine OD.nil ?_
        refine CD.block ?_
        refine CD.wk (Wk.asS (n := 112) (l' := [(0, .list 1 ([l].flatMap cSS) [l].length), (1, .list 1 ([p].flatMap cI) [p].length), (4, .v (.pointer (some ⟨b4, 0, none⟩))), (6, .v (.pointer (some ⟨b29, 0, none⟩))), (30, .list 1 ([l].flatMap cSS) [l].length), (31, .v (.int .i64 ([l].length : Nat))), (32, .v (.int .i64 ((0) : Nat)))]) (S' := ((⟨b29, 52, 8, [.v (.slice none 0 0), .v (.slice none 0 0), .v (.slice none 0 0), .v (.slice none (List.replicate (0) l).length (0)), .v (.int .i64 0), .v (.slice none 0 0), .v (.slice none 0 0), .v (.slice none 0 0)]⟩ : Blk) :: (⟨b4, 30, 3, [.v (.slice none 0 0), .v (.slice none 0 0), .v (.slice none 0 0)]⟩ : Blk) :: ([]))) rfl (by repeat (first | exact List.Sublist.refl _ | apply List.Sublist.cons_cons | apply List.Sublist.cons)) ⟨(by (repeat (first | exact look_hit | (apply look_at; focus (first | rfl | (simp; done) | (congr 2; omega))) | (apply look_miss; focus rfl))); done), (by (repeat (first | exact look_hit | (apply look_at; focus (first | rfl | (simp; done) | (congr 2; omega))) | (apply look_miss; focus rfl))); done), (by (repeat (first | exact look_hit | (apply look_at; focus (first | rfl | (simp; done) | (congr 2; omega))) | (apply look_miss; focus rfl))); done), (by (repeat (first | exact look_hit | (apply look_at; focus (first | rfl | (simp; done) | (congr 2; omega))) | (apply look_miss; focus rfl))); done), (by (repeat (first | exact look_hit | (apply look_at; focus (first | rfl | (simp; done) | (congr 2; omega))) | (apply look_miss; focus rfl))); done), (by (repeat (first | exact look_hit | (apply look_at; focus (first | rfl | (simp; done) | (congr 2; omega))) | (apply look_miss; focus rfl))); done), (by (repeat (first | exact look_hit | (apply look_at; focus (first | rfl | (simp; done) | (congr 2; omega))) | (apply look_miss; focus rfl))); done), trivial⟩) (CD.loop (fun (gh__ : Nat × Option Addr × Nat × List Blk) y__ => match gh__ with | (i, ad, cp, Sr) => (i ≤ 1) ∧ (OwnL 55 6 ((List.replicate i l).flatMap cF) (List.replicate i l).length ad cp Sr) ∧ y__ = (⟨112, [(0, .list 1 ([l].flatMap cSS) [l].length), (1, .list 1 ([p].flatMap cI) [p].length), (4, .v (.pointer (some ⟨b4, 0, none⟩))), (6, .v (.pointer (some ⟨b29, 0, none⟩))), (30, .list 1 ([l].flatMap cSS) [l].length), (31, .v (.int .i64 ([l].length : Nat))), (32, .v (.int .i64 (i : Nat)))], ((⟨b29, 52, 8, [.v (.slice none 0 0), .v (.slice none 0 0), .v (.slice none 0 0), .v (.slice ad (List.replicate i l).length cp), .v (.int .i64 0), .v (.slice none 0 0), .v (.slice none 0 0), .v (.slice none 0 0)]⟩ : Blk) :: (⟨b4, 30, 3, [.v (.slice none 0 0), .v (.slice none 0 0), .v (.slice none 0 0)]⟩ : Blk) :: Sr)⟩ : St)) (fun (gh__ : Nat × Option Addr × Nat × List Blk) => match gh__ with | (i, ad, cp, Sr) => 1 - i) (0, none, 0, []) ⟨(Nat.zero_le _), (.inl ⟨rfl, rfl, rfl, rfl, rfl⟩), rfl⟩ ?_)
        rintro ⟨i, ad, cp, Sr⟩ _ ⟨hi, ho, rfl⟩
        refine CD.seq ?_
        refine CD.region ?_
        refine OD.still (wants_plain rfl) rfl (still_bin rfl ot ot bin_lss) ?_
        refine OD.wk (Wk.as_ (n := 112) (l' := [(0, _), (1, _), (4, _), (6, _), (30, _), (31, _), (32, _), (33, _)]) (S' := (⟨b29, 52, 8, [_, _, _, _, _, _, _, _]⟩ :: ⟨b4, 30, 3, [_, _, _]⟩ :: Sr)) rfl rfl ⟨lk, lk, lk, lk, lk, lk, lk, lk, trivial⟩) ?_
        refine OD.nil ?_
        refine CD.seq ?_
        refine CD.cond ot (fun hc1 => ?_) (fun hc1 => ?_)
        · have hc1' := hc1
          (try simp only [decide_eq_true_eq, decide_eq_false_iff_not, beq_iff_eq, bne_iff_ne, Bool.not_eq_true', Bool.not_eq_false', Bool.not_eq_true, Bool.not_eq_false, beq_eq_false_iff_ne, ne_eq, bne_eq_false_iff_eq, Bool.and_eq_true, Bool.or_eq_true, Bool.not_not, Bool.and_eq_false_iff, Bool.or_eq_false_iff, Int.not_lt, Int.not_le] at hc1')
          have hi0 : i = 0 := by omega
          subst hi0
          have hlt : 0 < [l].length := Nat.zero_lt_one
          refine CD.skip ?_
          refine CD.seq ?_
          refine CD.block ?_
          refine CD.seq ?_
          refine CD.region ?_
          refine OD.still (wants_plain rfl) rfl (still_r2 (mk := Op.indexAddr 23) rfl ot ot (by first | exact ix_list Tryz.runUnderlying23 Tryz.sizeOf34 rfl (by first | assumption | omega) | exact ix_list (j := Int.toNat _) Tryz.runUnderlying23 Tryz.sizeOf34 (Int.toNat_of_nonneg (by omega)).symm (by omega) | exact ix_row Tryz.runUnderlying23 Tryz.sizeOf34 rfl (by first | assumption | omega) | exact ix_row (j := Int.toNat _) Tryz.runUnderlying23 Tryz.sizeOf34 (Int.toNat_of_nonneg (by omega)).symm (by omega))) ?_
          refine OD.still (wants_plain rfl) rfl (still_r1 (mk := Op.load 34) rfl ot (by first | exact ld_blk (k := 0) rfl rfl Tryz.isAgg34 rfl | exact ld_blk (k := 1) rfl rfl Tryz.isAgg34 rfl | exact ld_fm cSS_len Tryz.isAgg34 (by first | assumption | omega) rfl | exact ld_fm0 cSS_len Tryz.isAgg34 (by first | assumption | omega) rfl | exact ld_fm cI_len Tryz.isAgg34 (by first | assumption | omega) rfl | exact ld_fm0 cI_len Tryz.isAgg34 (by first | assumption | omega) rfl | exact ld_row (k := 0) cSS_len rfl rfl rfl Tryz.isAgg34 (by first | assumption | omega) rfl | exact ld_row0 (k := 0) cSS_len rfl rfl rfl Tryz.isAgg34 (by first | assumption | omega) rfl | exact ld_row (k := 1) cSS_len rfl rfl rfl Tryz.isAgg34 (by first | assumption | omega) rfl | exact ld_row0 (k := 1) cSS_len rfl rfl rfl Tryz.isAgg34 (by first | assumption | omega) rfl | exact ld_row (k := 0) cI_len rfl rfl rfl Tryz.isAgg34 (by first | assumption | omega) rfl | exact ld_row0 (k := 0) cI_len rfl rfl rfl Tryz.isAgg34 (by first | assumption | omega) rfl | exact ld_row (k := 1) cI_len rfl rfl rfl Tryz.isAgg34 (by first | assumption | omega) rfl | exact ld_row0 (k := 1) cI_len rfl rfl rfl Tryz.isAgg34 (by first | assumption | omega) rfl | exact ld_i Tryz.isAgg34 rfl)) ?_
          refine OD.still (wants_plain rfl) rfl (still_as rfl ot) ?_
          refine OD.wk (Wk.as_ (n := 112) (l' := [(0, _), (1, _), (4, _), (6, _), (8, _), (30, _), (31, _), (32, _)]) (S' := (⟨b29, 52, 8, [_, _, _, _, _, _, _, _]⟩ :: ⟨b4, 30, 3, [_, _, _]⟩ :: Sr)) rfl rfl ⟨lk, lk, lk, lk, lk, lk, lk, lk, trivial⟩) ?_
          refine OD.nil ?_
          refine CD.seq ?_
          refine CD.seq ?_
          refine CD.region ?_
          refine OD.still (wants_plain rfl) rfl (still_mv rfl ot) ?_
          refine OD.still (wants_plain rfl) rfl (still_r1 (mk := fun y => .call { callee := .builtin .len, args := #[y], argTypes := #[34] }) rfl ot (by first | exact len_list rfl Tryz.runUnderlying34 | exact len_row rfl Tryz.runUnderlying34)) ?_
          refine OD.still (wants_plain rfl) rfl (still_bin rfl ot opd_const bin_gtr) ?_
          refine OD.wk (Wk.as_ (n := 112) (l' := [(0, _), (1, _), (4, _), (6, _), (8, _), (30, _), (31, _), (32, _), (38, _)]) (S' := (⟨b29, 52, 8, [_, _, _, _, _, _, _, _]⟩ :: ⟨b4, 30, 3, [_, _, _]⟩ :: Sr)) rfl rfl ⟨lk, lk, lk, lk, lk, lk, lk, lk, lk, trivial⟩) ?_
          refine OD.nil ?_
          refine CD.cond ot (fun hc2 => ?_) (fun hc2 => ?_)
          · exact absurd hc2 (by simp; omega)
          · have hc2' := hc2
            (try simp only [decide_eq_true_eq, decide_eq_false_iff_not, beq_iff_eq, bne_iff_ne, Bool.not_eq_true', Bool.not_eq_false', Bool.not_eq_true, Bool.not_eq_false, beq_eq_false_iff_ne, ne_eq, bne_eq_false_iff_eq, Bool.and_eq_true, Bool.or_eq_true, Bool.not_not, Bool.and_eq_false_iff, Bool.or_eq_false_iff, Int.not_lt, Int.not_le] at hc2')
            refine CD.skip ?_
            refine CD.region ?_
            refine OD.still (wants_plain rfl) rfl (still_mv rfl ot) ?_
            refine OD.still (wants_plain rfl) rfl (still_mv rfl ot) ?_
            refine OD.still (wants_plain rfl) rfl (still_r1 (mk := Op.nilCheck) rfl ot (by first | exact nc_ptr | exact nc_iptr)) ?_
            refine OD.still (wants_plain rfl) rfl (still_r1 (mk := fun y => Op.fieldAddr 52 y 2) rfl ot (by first | exact fa_ptr (off := 3) Tryz.runUnderlying52 rfl Tryz.sizeOf50 rfl | exact fa_iptr (off := 3) Tryz.runUnderlying52 rfl Tryz.sizeOf50 rfl)) ?_
            refine OD.still (wants_plain rfl) rfl (still_r1 (mk := Op.load 50) rfl ot (by first | exact ld_blk (k := 0) rfl rfl Tryz.isAgg50 rfl | exact ld_fm cSS_len Tryz.isAgg50 (by first | assumption | omega) rfl | exact ld_fm0 cSS_len Tryz.isAgg50 (by first | assumption | omega) rfl | exact ld_fm cI_len Tryz.isAgg50 (by first | assumption | omega) rfl | exact ld_fm0 cI_len Tryz.isAgg50 (by first | assumption | omega) rfl | exact ld_row (k := 0) cSS_len rfl rfl rfl Tryz.isAgg50 (by first | assumption | omega) rfl | exact ld_row0 (k := 0) cSS_len rfl rfl rfl Tryz.isAgg50 (by first | assumption | omega) rfl | exact ld_row (k := 1) cSS_len rfl rfl rfl Tryz.isAgg50 (by first | assumption | omega) rfl | exact ld_row0 (k := 1) cSS_len rfl rfl rfl Tryz.isAgg50 (by first | assumption | omega) rfl | exact ld_row (k := 0) cI_len rfl rfl rfl Tryz.isAgg50 (by first | assumption | omega) rfl | exact ld_row0 (k := 0) cI_len rfl rfl rfl Tryz.isAgg50 (by first | assumption | omega) rfl | exact ld_row (k := 1) cI_len rfl rfl rfl Tryz.isAgg50 (by first | assumption | omega) rfl | exact ld_row0 (k := 1) cI_len rfl rfl rfl Tryz.isAgg50 (by first | assumption | omega) rfl | exact ld_i Tryz.isAgg50 rfl)) ?_
            refine OD.still (wants_plain rfl) rfl (still_mv rfl ot) ?_
            refine OD.still (wants_plain rfl) rfl (still_bld (pl := [(0, _)]) (ds := [_, _, _, _, _, _]) rfl Tryz.zeroValue55 Tryz.runUnderlying55 places55_Tp1 ⟨rfl, ot, trivial⟩ rfl rfl) ?_
            refine OD.bldS (pl := [(0, _)]) (zvs := [.slice none 0 0, .int .i64 0, .int .i64 0, .bool false, .bool false, .slice none 0 0]) (ds := [_, _, _, _, _, _]) (wants_plain rfl) rfl rfl Tryz.zeroValue55 Tryz.runUnderlying50 Tryz.sizeOf55 rfl rfl (by kernel_rfl) ⟨rfl, ot, trivial⟩ rfl rfl (fun b47 => ?_)
            refine OD.give (k := 0) (t := 47) (sz := 6) (m := 1) (cs := [l].flatMap cF) rfl lk rfl rfl rfl (Nat.le_refl _) (by decide) ?_
            refine OD.appendG (g := cF) (ls := List.replicate 0 l) (new := [l]) (Sq := Sr) (R := [_, _]) cF_len cF_one (wants_plain rfl) rfl rfl Tryz.underlying50 infoS rfl (by decide) ot ho (perm_r11 (A := [_, _])) ot (by simp) (by simp [maxLen]) (by simp) (fun b2 cp2 h1 h2 => ?_)
            refine OD.perm (perm_q11 (S1 := [_]) (A := [_, _])) ?_
            refine OD.still (wants_plain rfl) rfl (still_r1 (mk := Op.nilCheck) rfl ot (by first | exact nc_ptr | exact nc_iptr)) ?_
            refine OD.still (wants_plain rfl) rfl (still_r1 (mk := fun y => Op.fieldAddr 52 y 2) rfl ot (by first | exact fa_ptr (off := 3) Tryz.runUnderlying52 rfl Tryz.sizeOf50 rfl | exact fa_iptr (off := 3) Tryz.runUnderlying52 rfl Tryz.sizeOf50 rfl)) ?_
            refine OD.store (k := 0) (cs' := [_, _, _, _, _, _, _, _]) (wants_plain rfl) rfl rfl ot rfl rfl ot rfl rfl Tryz.sizeOf50 rfl rfl rfl ?_
            refine OD.wk (Wk.as_ (n := 112) (l' := [(0, _), (1, _), (4, _), (6, _), (30, _), (31, _), (32, _)]) (S' := (⟨b29, 52, 8, [_, _, _, _, _, _, _, _]⟩ :: ⟨b4, 30, 3, [_, _, _]⟩ :: [⟨b2, 55, cp2 * 6, (List.replicate 1 l).flatMap cF⟩])) rfl rfl ⟨lk, lk, lk, lk, lk, lk, lk, trivial⟩) ?_
            refine OD.nil ?_
            refine CD.region ?_
            refine OD.still (wants_plain rfl) rfl (still_bin rfl ot opd_const (bin_add (wrap_i64 (by omega) (by omega)))) ?_
            refine OD.still (wants_plain rfl) rfl (still_mv rfl ot) ?_
            refine OD.wk (Wk.as_ (n := 112) (l' := [(0, _), (1, _), (4, _), (6, _), (30, _), (31, _), (32, _)]) (S' := (⟨b29, 52, 8, [_, _, _, _, _, _, _, _]⟩ :: ⟨b4, 30, 3, [_, _, _]⟩ :: [⟨b2, 55, cp2 * 6, (List.replicate 1 l).flatMap cF⟩])) rfl rfl ⟨lk, lk, lk, lk, lk, lk, lk, trivial⟩) ?_
            refine OD.nil ?_
            refine ⟨(1, (some ⟨b2, 0, none⟩), cp2, [⟨b2, 55, cp2 * 6, (List.replicate 1 l).flatMap cF⟩]), ⟨112, [(0, .list 1 ([l].flatMap cSS) [l].length), (1, .list 1 ([p].flatMap cI) [p].length), (4, .v (.pointer (some ⟨b4, 0, none⟩))), (6, .v (.pointer (some ⟨b29, 0, none⟩))), (30, .list 1 ([l].flatMap cSS) [l].length), (31, .v (.int .i64 ([l].length : Nat))), (32, .v (.int .i64 ((1) : Nat)))], ((⟨b29, 52, 8, [.v (.slice none 0 0), .v (.slice none 0 0), .v (.slice none 0 0), .v (.slice ((some ⟨b2, 0, none⟩)) (List.replicate (1) l).length cp2), .v (.int .i64 0), .v (.slice none 0 0), .v (.slice none 0 0), .v (.slice none 0 0)]⟩ : Blk) :: (⟨b4, 30, 3, [.v (.slice none 0 0), .v (.slice none 0 0), .v (.slice none 0 0)]⟩ : Blk) :: ([⟨b2, 55, cp2 * 6, (List.replicate 1 l).flatMap cF⟩]))⟩, ?_, Wk.asS (n := 112) rfl (by repeat (first | exact List.Sublist.refl _ | apply List.Sublist.cons_cons | apply List.Sublist.cons)) ⟨(by (repeat (first | exact look_hit | (apply look_at; focus (first | rfl | (simp; done) | (congr 2; omega))) | (apply look_miss; focus rfl))); done), (by (repeat (first | exact look_hit | (apply look_at; focus (first | rfl | (simp; done) | (congr 2; omega))) | (apply look_miss; focus rfl))); done), (by (repeat (first | exact look_hit | (apply look_at; focus (first | rfl | (simp; done) | (congr 2; omega))) | (apply look_miss; focus rfl))); done), (by (repeat (first | exact look_hit | (apply look_at; focus (first | rfl | (simp; done) | (congr 2; omega))) | (apply look_miss; focus rfl))); done), (by (repeat (first | exact look_hit | (apply look_at; focus (first | rfl | (simp; done) | (congr 2; omega))) | (apply look_miss; focus rfl))); done), (by (repeat (first | exact look_hit | (apply look_at; focus (first | rfl | (simp; done) | (congr 2; omega))) | (apply look_miss; focus rfl))); done), (by (repeat (first | exact look_hit | (apply look_at; focus (first | rfl | (simp; done) | (congr 2; omega))) | (apply look_miss; focus rfl))); done), trivial⟩, (by omega), (ownL_row h1 h2), rfl⟩
            first | omega | (simp only []; omega)
        · have hc1' := hc1
          (try simp only [decide_eq_true_eq, decide_eq_false_iff_not, beq_iff_eq, bne_iff_ne, Bool.not_eq_true', Bool.not_eq_false', Bool.not_eq_true, Bool.not_eq_false, beq_eq_false_iff_ne, ne_eq, bne_eq_false_iff_eq, Bool.and_eq_true, Bool.or_eq_true, Bool.not_not, Bool.and_eq_false_iff, Bool.or_eq_false_iff, Int.not_lt, Int.not_le] at hc1')
          have hik : i = 1 := by omega
          subst hik
          refine CD.exit ?_
          refine CD.seq ?_
          refine CD.seq ?_
          refine CD.region ?_
          refine OD.still (wants_plain rfl) rfl (still_mv rfl ot) ?_
          refine OD.still (wants_plain rfl) rfl (still_r1 (mk := fun y => .call { callee := .builtin .len, args := #[y], argTypes := #[25] }) rfl ot (by first | exact len_list rfl Tryz.runUnderlying25 | exact len_row rfl Tryz.runUnderlying25)) ?_
          refine OD.still (wants_plain rfl) rfl (still_mv rfl opd_const) ?_
          refine OD.wk (Wk.as_ (n := 112) (l' := [(0, _), (1, _), (4, _), (6, _), (52, _), (53, _), (54, _)]) (S' := (⟨b29, 52, 8, [_, _, _, _, _, _, _, _]⟩ :: ⟨b4, 30, 3, [_, _, _]⟩ :: Sr)) rfl rfl ⟨lk, lk, lk, lk, lk, lk, lk, trivial⟩) ?_
          refine OD.nil ?_
          refine CD.block ?_
          refine CD.wk (Wk.asS (n := 112) (l' := [(0, .list 1 ([l].flatMap cSS) [l].length), (1, .list 1 ([p].flatMap cI) [p].length), (4, .v (.pointer (some ⟨b4, 0, none⟩))), (6, .v (.pointer (some ⟨b29, 0, none⟩))), (52, .list 1 ([p].flatMap cI) [p].length), (53, .v (.int .i64 ([p].length : Nat))), (54, .v (.int .i64 ((0) : Nat)))]) (S' := ((⟨b29, 52, 8, [.v (.slice none 0 0), .v (.slice none 0 0), .v (.slice none 0 0), .v (.slice ad (List.replicate 1 l).length cp), .v (.int .i64 0), .v (.slice none 0 0), .v (.slice none 0 0), .v (.slice none 0 0)]⟩ : Blk) :: (⟨b4, 30, 3, [.v (.slice none 0 0), .v (.slice none 0 0), .v (.slice none 0 0)]⟩ : Blk) :: Sr)) rfl (by repeat (first | exact List.Sublist.refl _ | apply List.Sublist.cons_cons | apply List.Sublist.cons)) ⟨(by (repeat (first | exact look_hit | (apply look_at; focus (first | rfl | (simp; done) | (congr 2; omega))) | (apply look_miss; focus rfl))); done), (by (repeat (first | exact look_hit | (apply look_at; focus (first | rfl | (simp; done) | (congr 2; omega))) | (apply look_miss; focus rfl))); done), (by (repeat (first | exact look_hit | (apply look_at; focus (first | rfl | (simp; done) | (congr 2; omega))) | (apply look_miss; focus rfl))); done), (by (repeat (first | exact look_hit | (apply look_at; focus (first | rfl | (simp; done) | (congr 2; omega))) | (apply look_miss; focus rfl))); done), (by (repeat (first | exact look_hit | (apply look_at; focus (first | rfl | (simp; done) | (congr 2; omega))) | (apply look_miss; focus rfl))); done), (by (repeat (first | exact look_hit | (apply look_at; focus (first | rfl | (simp; done) | (congr 2; omega))) | (apply look_miss; focus rfl))); done), (by (repeat (first | exact look_hit | (apply look_at; focus (first | rfl | (simp; done) | (congr 2; omega))) | (apply look_miss; focus rfl))); done), trivial⟩) (CD.loop (fun (j : Nat) y__ => (j = 0) ∧ y__ = (⟨112, [(0, .list 1 ([l].flatMap cSS) [l].length), (1, .list 1 ([p].flatMap cI) [p].length), (4, .v (.pointer (some ⟨b4, 0, none⟩))), (6, .v (.pointer (some ⟨b29, 0, none⟩))), (52, .list 1 ([p].flatMap cI) [p].length), (53, .v (.int .i64 ([p].length : Nat))), (54, .v (.int .i64 (j : Nat)))], ((⟨b29, 52, 8, [.v (.slice none 0 0), .v (.slice none 0 0), .v (.slice none 0 0), .v (.slice ad (List.replicate 1 l).length cp), .v (.int .i64 0), .v (.slice none 0 0), .v (.slice none 0 0), .v (.slice none 0 0)]⟩ : Blk) :: (⟨b4, 30, 3, [.v (.slice none 0 0), .v (.slice none 0 0), .v (.slice none 0 0)]⟩ : Blk) :: Sr)⟩ : St)) (fun (j : Nat) => 0) 0 ⟨rfl, rfl⟩ ?_)
          rintro j _ ⟨hj, rfl⟩
          refine CD.seq ?_
          refine CD.region ?_
          refine OD.still (wants_plain rfl) rfl (still_bin rfl ot ot bin_lss) ?_
          refine OD.wk (Wk.as_ (n := 112) (l' := [(0, _), (1, _), (4, _), (6, _), (52, _), (53, _), (54, _), (55, _)]) (S' := (⟨b29, 52, 8, [_, _, _, _, _, _, _, _]⟩ :: ⟨b4, 30, 3, [_, _, _]⟩ :: Sr)) rfl rfl ⟨lk, lk, lk, lk, lk, lk, lk, lk, trivial⟩) ?_
          refine OD.nil ?_
          refine CD.seq ?_
          refine CD.cond ot (fun hc3 => ?_) (fun hc3 => ?_)
          · have hc3' := hc3
            (try simp only [decide_eq_true_eq, decide_eq_false_iff_not, beq_iff_eq, bne_iff_ne, Bool.not_eq_true', Bool.not_eq_false', Bool.not_eq_true, Bool.not_eq_false, beq_eq_false_iff_ne, ne_eq, bne_eq_false_iff_eq, Bool.and_eq_true, Bool.or_eq_true, Bool.not_not, Bool.and_eq_false_iff, Bool.or_eq_false_iff, Int.not_lt, Int.not_le] at hc3')
            subst hj
            have hj0 : 0 < [p].length := Nat.zero_lt_one
            refine CD.skip ?_
            refine CD.seq ?_
            refine CD.block ?_
            refine CD.seq ?_
            refine CD.region ?_
            refine OD.still (wants_plain rfl) rfl (still_r2 (mk := Op.indexAddr 25) rfl ot ot (by first | exact ix_list Tryz.runUnderlying25 Tryz.sizeOf3 rfl (by first | assumption | omega) | exact ix_list (j := Int.toNat _) Tryz.runUnderlying25 Tryz.sizeOf3 (Int.toNat_of_nonneg (by omega)).symm (by omega) | exact ix_row Tryz.runUnderlying25 Tryz.sizeOf3 rfl (by first | assumption | omega) | exact ix_row (j := Int.toNat _) Tryz.runUnderlying25 Tryz.sizeOf3 (Int.toNat_of_nonneg (by omega)).symm (by omega))) ?_
            refine OD.still (wants_plain rfl) rfl (still_r1 (mk := Op.load 3) rfl ot (by first | exact ld_blk (k := 0) rfl rfl Tryz.isAgg3 rfl | exact ld_blk (k := 1) rfl rfl Tryz.isAgg3 rfl | exact ld_fm cSS_len Tryz.isAgg3 (by first | assumption | omega) rfl | exact ld_fm0 cSS_len Tryz.isAgg3 (by first | assumption | omega) rfl | exact ld_fm cI_len Tryz.isAgg3 (by first | assumption | omega) rfl | exact ld_fm0 cI_len Tryz.isAgg3 (by first | assumption | omega) rfl | exact ld_row (k := 0) cSS_len rfl rfl rfl Tryz.isAgg3 (by first | assumption | omega) rfl | exact ld_row0 (k := 0) cSS_len rfl rfl rfl Tryz.isAgg3 (by first | assumption | omega) rfl | exact ld_row (k := 1) cSS_len rfl rfl rfl Tryz.isAgg3 (by first | assumption | omega) rfl | exact ld_row0 (k := 1) cSS_len rfl rfl rfl Tryz.isAgg3 (by first | assumption | omega) rfl | exact ld_row (k := 0) cI_len rfl rfl rfl Tryz.isAgg3 (by first | assumption | omega) rfl | exact ld_row0 (k := 0) cI_len rfl rfl rfl Tryz.isAgg3 (by first | assumption | omega) rfl | exact ld_row (k := 1) cI_len rfl rfl rfl Tryz.isAgg3 (by first | assumption | omega) rfl | exact ld_row0 (k := 1) cI_len rfl rfl rfl Tryz.isAgg3 (by first | assumption | omega) rfl | exact ld_i Tryz.isAgg3 rfl)) ?_
            refine OD.still (wants_plain rfl) rfl (still_as rfl ot) ?_
            refine OD.wk (Wk.as_ (n := 112) (l' := [(0, _), (1, _), (4, _), (6, _), (10, _), (52, _), (53, _), (54, _)]) (S' := (⟨b29, 52, 8, [_, _, _, _, _, _, _, _]⟩ :: ⟨b4, 30, 3, [_, _, _]⟩ :: Sr)) rfl rfl ⟨lk, lk, lk, lk, lk, lk, lk, lk, trivial⟩) ?_
            refine OD.nil ?_
            refine CD.seq ?_
            refine CD.region ?_
            refine OD.still (wants_plain rfl) rfl (still_mv rfl ot) ?_
            refine OD.still (wants_plain rfl) rfl (still_bin rfl ot opd_const bin_lss) ?_
            refine OD.still (wants_plain rfl) rfl (still_mv rfl ot) ?_
            refine OD.split (t := 60) lk (fun hg60 => ?_) (fun hg60 => ?_)
            · exact absurd hg60 (by simp; omega)
            · have hg60' := hg60; (try simp only [decide_eq_true_eq, decide_eq_false_iff_not, beq_iff_eq, bne_iff_ne, Bool.not_eq_true', Bool.not_eq_false', Bool.not_eq_true, Bool.not_eq_false, beq_eq_false_iff_ne, ne_eq, bne_eq_false_iff_eq, Bool.and_eq_true, Bool.or_eq_true, Bool.not_not] at hg60')
              refine OD.still (wants_T rfl rfl rfl lk (by first | rfl | assumption)) rfl (still_mv rfl ot) ?_
              refine OD.still (wants_T rfl rfl rfl lk (by first | rfl | assumption)) rfl (still_mv rfl ot) ?_
              refine OD.still (wants_T rfl rfl rfl lk (by first | rfl | assumption)) rfl (still_r1 (mk := fun y => .call { callee := .builtin .len, args := #[y], argTypes := #[23] }) rfl ot (by first | exact len_list rfl Tryz.runUnderlying23 | exact len_row rfl Tryz.runUnderlying23)) ?_
              refine OD.still (wants_T rfl rfl rfl lk (by first | rfl | assumption)) rfl (still_bin rfl ot ot bin_geq) ?_
              refine OD.still (wants_plain rfl) rfl (still_pickF rfl ot (by first | rfl | assumption) ot) ?_
              refine OD.wk (Wk.as_ (n := 112) (l' := [(0, _), (1, _), (4, _), (6, _), (52, _), (53, _), (54, _), (65, _)]) (S' := (⟨b29, 52, 8, [_, _, _, _, _, _, _, _]⟩ :: ⟨b4, 30, 3, [_, _, _]⟩ :: Sr)) rfl rfl ⟨lk, lk, lk, lk, lk, lk, lk, lk, trivial⟩) ?_
              refine OD.nil ?_
              refine CD.cond ot (fun hc4 => ?_) (fun hc4 => ?_)
              · have hc4' := hc4
                (try simp only [decide_eq_true_eq, decide_eq_false_iff_not, beq_iff_eq, bne_iff_ne, Bool.not_eq_true', Bool.not_eq_false', Bool.not_eq_true, Bool.not_eq_false, beq_eq_false_iff_ne, ne_eq, bne_eq_false_iff_eq, Bool.and_eq_true, Bool.or_eq_true, Bool.not_not, Bool.and_eq_false_iff, Bool.or_eq_false_iff, Int.not_lt, Int.not_le] at hc4')
                refine CD.seq ?_
                refine CD.region ?_
                refine OD.still (wants_plain rfl) rfl (still_bld (pl := []) (ds := [_, _, _]) rfl Tryz.zeroValue30 Tryz.runUnderlying30 places30_Tp1 trivial rfl rfl) ?_
                refine OD.store (k := 1) (cs' := [_, _, _]) (wants_plain rfl) rfl rfl ot rfl rfl ot rfl rfl Tryz.sizeOf30 rfl rfl rfl ?_
                refine OD.still (wants_plain rfl) rfl (still_as rfl opd_const) ?_
                refine OD.wk (Wk.as_ (n := 112) (l' := [(4, _), (5, _)]) (S' := (⟨b29, 52, 8, [_, _, _, _, _, _, _, _]⟩ :: ⟨b4, 30, 3, [_, _, _]⟩ :: Sr)) rfl rfl ⟨lk, lk, trivial⟩) ?_
                refine OD.nil ?_
                refine CD.ret ?_
                refine ⟨.inr rfl, _, [], List.nil_sublist _, ret_two Tryz.results6 (res_cells (k := 1) (ds := [_, _, _]) (Nat.le_of_ble_eq_true rfl) lk rfl rfl Tryz.isAgg30 Tryz.sizeOf30 rfl rfl) (res_tmp (Nat.le_of_ble_eq_true rfl) lk), ?_⟩
                exact ⟨rfl, rfl⟩
              · exact absurd hc4 (by simp; omega)
          · exact absurd hc3 (by subst hj; simp)

end Go.Proofs.YtdbgneghoiakfaaGreatDoor.Tp

namespace Go.Proofs.YtdbgneghoiakfaaGreatDoor.Tp
open Go.RowKit V Go.Proofs.YtdbgneghoiakfaaGreatDoor.Pk
set_option linter.unusedVariables false
set_option linter.unusedSimpArgs false

theorem nine (p : Int) : 1 ≤ 1 + pickedF p 9 := by have := pickedF_bd p (by decide : (1 : Int) ≤ 9); omega
variable {G : List (Nat × List Value)}

theorem info9_Tp2 : (Tryz.prog.info? 9).map (fun i => (i.zero, i.size, i.bytes)) = some (some (.string ⟨#[]⟩), 1, 16) := by kernel_rfl

theorem info34_Tp2 : (Tryz.prog.info? 34).map (fun i => (i.zero, i.size, i.bytes)) = some (some (.slice none 0 0), 1, 24) := by kernel_rfl

set_option maxHeartbeats 4000000 in
set_option maxRecDepth 100000 in
theorem refused_vp (n p : Int) (h1 : -9223372036854775808 ≤ n) (h2 : n ≤ 9223372036854775807) (h3 : -9223372036854775808 ≤ p) (h4 : p ≤ 9223372036854775807) : VP Tryz.prog G 3 [.v (.int .i64 n), .v (.int .i64 p)] (.v (.bool true)) := by
  refine VC.body Tryz.func3 rfl Tryz.ntmps3 (Nat.le_of_ble_eq_true rfl) fun X0 w0 S00 => ?_
  have hpb := pickedF_bd n (by decide : (1 : Int) ≤ 8)
  have hpb9 := pickedF_bd p (by decide : (1 : Int) ≤ 9)
  obtain ⟨k, hk⟩ := Int.eq_ofNat_of_zero_le hpb.1
  have hk8 : k < 8 := by omega
  have hpv := Picked_vp (G := G) n 8 h1 h2 (by decide)
  rw [hk] at hpv
  have hul := un_len k
  have hp9 := nine p
  refine CD.seq ?_
  refine CD.region ?_
  refine OD.still (wants_plain rfl) rfl (still_as rfl opd_const) ?_
  refine OD.wk (Wk.as_ (n := 77) (l' := [(0, _), (1, _)]) (S' := []) rfl rfl ⟨lk, lk, trivial⟩) ?_
  refine OD.nil ?_
  refine CD.seq ?_
  refine CD.region ?_
  refine OD.still (wants_plain rfl) rfl (still_mv rfl ot) ?_
  refine OD.callP (wants_plain rfl) rfl rfl rfl Tryz.call5 (hpv) ⟨ot, opd_const, trivial⟩ ?_
  refine OD.still (wants_plain rfl) rfl (still_as rfl ot) ?_
  refine OD.wk (Wk.as_ (n := 77) (l' := [(1, _), (5, _)]) (S' := []) rfl rfl ⟨lk, lk, trivial⟩) ?_
  refine OD.nil ?_
  refine CD.seq ?_
  refine CD.region ?_
  refine OD.still (wants_plain rfl) rfl (still_mv rfl ot) ?_
  refine OD.make (g := cN) (a := ()) (n := k) rfl cN_len (wants_plain rfl) rfl rfl Tryz.underlying23 info34_Tp2 rfl (by decide) ot ot (by omega) (by (simp [maxLen]; omega)) (fun b16 => ?_)
  refine OD.perm (perm_q11 (S1 := [⟨b16, 34, k * 1, List.flatMap cN (un k)⟩]) (A := [])) ?_
  refine OD.still (wants_plain rfl) rfl (still_as rfl ot) ?_
  refine OD.wk (Wk.as_ (n := 77) (l' := [(1, _), (5, _), (6, _)]) (S' := ([⟨b16, 34, k * 1, List.flatMap cN (un k)⟩])) rfl rfl ⟨lk, lk, lk, trivial⟩) ?_
  refine OD.nil ?_
  refine CD.seq ?_
  refine CD.region ?_
  refine OD.still (wants_plain rfl) rfl (still_mv rfl ot) ?_
  refine OD.giveL (t := 18) (Sq := [⟨b16, 34, k * 1, List.flatMap cN (un k)⟩]) lk (ownL_row (g := cN) (sz := 1) (e := 34) (ls := un k) (by simp) (show k ≤ maxLen by (simp [maxLen]; omega))) (fm_len cN_len _) (perm_r11 (A := [])) ?_
  by_cases hb : k < 1 ∨ 4 < k
  · skip
    refine OD.callP (wants_plain rfl) rfl rfl rfl Tryz.call6 (runBad_vp k hb (by omega)) ⟨ot, opd_const, trivial⟩ ?_
    refine OD.still (wants_plain rfl) rfl (still_mv rfl ot) ?_
    refine OD.still (wants_plain rfl) rfl (still_extract rfl ot rfl) ?_
    refine OD.still (wants_plain rfl) rfl (still_extract rfl ot rfl) ?_
    refine OD.alloc (ds := [_, _, _]) (wants_plain rfl) rfl rfl Tryz.zeroValue30 rfl (fun b7 => ?_)
    refine OD.store (k := 0) (cs' := [_, _, _]) (wants_plain rfl) rfl rfl ot rfl rfl ot rfl rfl Tryz.sizeOf30 rfl rfl rfl ?_
    refine OD.still (wants_plain rfl) rfl (still_as rfl ot) ?_
    refine OD.wk (Wk.as_ (n := 77) (l' := [(1, _), (5, _), (7, _), (8, _)]) (S' := [⟨b7, 30, 3, [_, _, _]⟩]) rfl rfl ⟨lk, lk, lk, lk, trivial⟩) ?_
    refine OD.nil ?_
    refine CD.seq ?_
    refine CD.region ?_
    refine OD.bldS (pl := [(0, _)]) (zvs := [.string ⟨#[]⟩]) (ds := [_]) (wants_plain rfl) rfl rfl Tryz.zeroValue9 Tryz.runUnderlying34 Tryz.sizeOf9 rfl rfl (by kernel_rfl) ⟨rfl, opd_const, trivial⟩ rfl rfl (fun b23 => ?_)
    refine OD.perm (perm_q11 (S1 := [⟨b23, 9, 1 * 1, List.flatMap cS ([(⟨#[66, 69, 71, 73, 78]⟩ : ByteArray)])⟩]) (A := [_])) ?_
    refine OD.giveL (t := 23) (Sq := [⟨b23, 9, 1 * 1, List.flatMap cS ([(⟨#[66, 69, 71, 73, 78]⟩ : ByteArray)])⟩]) lk (ownL_row (g := cS) (sz := 1) (e := 9) (ls := [(⟨#[66, 69, 71, 73, 78]⟩ : ByteArray)]) (Nat.le_refl _) (show 1 ≤ maxLen by decide)) (fm_len cS_len _) (perm_r11 (A := [_])) ?_
    refine OD.bldS (pl := [(0, _)]) (zvs := [.slice none 0 0]) (ds := [_]) (wants_plain rfl) rfl rfl Tryz.zeroValue34 Tryz.runUnderlying23 Tryz.sizeOf34 rfl rfl (by kernel_rfl) ⟨rfl, ot, trivial⟩ rfl rfl (fun b24 => ?_)
    refine OD.perm (perm_q11 (S1 := [⟨b24, 34, 1 * 1, List.flatMap cSS ([[(⟨#[66, 69, 71, 73, 78]⟩ : ByteArray)]])⟩]) (A := [_])) ?_
    refine OD.giveL (t := 24) (Sq := [⟨b24, 34, 1 * 1, List.flatMap cSS ([[(⟨#[66, 69, 71, 73, 78]⟩ : ByteArray)]])⟩]) lk (ownL_row (g := cSS) (sz := 1) (e := 34) (ls := [[(⟨#[66, 69, 71, 73, 78]⟩ : ByteArray)]]) (Nat.le_refl _) (show 1 ≤ maxLen by decide)) (fm_len cSS_len _) (perm_r11 (A := [_])) ?_
    refine OD.still (wants_plain rfl) rfl (still_mv rfl ot) ?_
    refine OD.callP (wants_plain rfl) rfl rfl rfl Tryz.call5 (Picked_vp p 9 h3 h4 (by decide)) ⟨ot, opd_const, trivial⟩ ?_
    refine OD.still (wants_plain rfl) rfl (still_bin rfl opd_const ot (bin_add (wrap_i64 (by omega) (by omega)))) ?_
    refine OD.bldS (pl := [(0, _)]) (zvs := [.int .i64 0]) (ds := [_]) (wants_plain rfl) rfl rfl Tryz.zeroValue3 Tryz.runUnderlying25 Tryz.sizeOf3 rfl rfl (by kernel_rfl) ⟨rfl, ot, trivial⟩ rfl rfl (fun b28 => ?_)
    refine OD.perm (perm_q11 (S1 := [⟨b28, 3, 1 * 1, List.flatMap cI ([1 + pickedF p 9])⟩]) (A := [_])) ?_
    refine OD.giveL (t := 28) (Sq := [⟨b28, 3, 1 * 1, List.flatMap cI ([1 + pickedF p 9])⟩]) lk (ownL_row (g := cI) (sz := 1) (e := 3) (ls := [1 + pickedF p 9]) (Nat.le_refl _) (show 1 ≤ maxLen by decide)) (fm_len cI_len _) (perm_r11 (A := [_])) ?_
    refine OD.callP (wants_plain rfl) rfl rfl rfl Tryz.call6 (runPick_vp [(⟨#[66, 69, 71, 73, 78]⟩ : ByteArray)] (by decide) (1 + pickedF p 9) hp9) ⟨ot, ot, trivial⟩ ?_
    refine OD.still (wants_plain rfl) rfl (still_mv rfl ot) ?_
    refine OD.still (wants_plain rfl) rfl (still_extract rfl ot rfl) ?_
    refine OD.still (wants_plain rfl) rfl (still_extract rfl ot rfl) ?_
    refine OD.alloc (ds := [_, _, _]) (wants_plain rfl) rfl rfl Tryz.zeroValue30 rfl (fun b9 => ?_)
    refine OD.store (k := 0) (cs' := [_, _, _]) (wants_plain rfl) rfl rfl ot rfl rfl ot rfl rfl Tryz.sizeOf30 rfl rfl rfl ?_
    refine OD.still (wants_plain rfl) rfl (still_as rfl ot) ?_
    refine OD.wk (Wk.as_ (n := 77) (l' := [(5, _), (7, _), (8, _), (10, _)]) (S' := [⟨b9, 30, 3, [_, _, _]⟩, ⟨b7, 30, 3, [_, _, _]⟩]) rfl rfl ⟨lk, lk, lk, lk, trivial⟩) ?_
    refine OD.nil ?_
    refine CD.seq ?_
    refine CD.region ?_
    refine OD.make (g := cS) (a := (⟨#[]⟩ : ByteArray)) (n := 21) rfl cS_len (wants_plain rfl) rfl rfl Tryz.underlying34 info9_Tp2 rfl (by decide) opd_const opd_const (by omega) (by decide) (fun b33 => ?_)
    refine OD.perm (perm_q11 (S1 := [⟨b33, 9, 21 * 1, List.flatMap cS ((List.replicate 21 (⟨#[]⟩ : ByteArray)))⟩]) (A := [_, _])) ?_
    refine OD.giveL (t := 33) (Sq := [⟨b33, 9, 21 * 1, List.flatMap cS ((List.replicate 21 (⟨#[]⟩ : ByteArray)))⟩]) lk (ownL_row (g := cS) (sz := 1) (e := 9) (ls := (List.replicate 21 (⟨#[]⟩ : ByteArray))) (by simp) (show 21 ≤ maxLen by decide)) (fm_len cS_len _) (perm_r11 (A := [_, _])) ?_
    refine OD.bldS (pl := [(0, _)]) (zvs := [.slice none 0 0]) (ds := [_]) (wants_plain rfl) rfl rfl Tryz.zeroValue34 Tryz.runUnderlying23 Tryz.sizeOf34 rfl rfl (by kernel_rfl) ⟨rfl, ot, trivial⟩ rfl rfl (fun b34 => ?_)
    refine OD.perm (perm_q11 (S1 := [⟨b34, 34, 1 * 1, List.flatMap cSS ([(List.replicate 21 (⟨#[]⟩ : ByteArray))])⟩]) (A := [_, _])) ?_
    refine OD.giveL (t := 34) (Sq := [⟨b34, 34, 1 * 1, List.flatMap cSS ([(List.replicate 21 (⟨#[]⟩ : ByteArray))])⟩]) lk (ownL_row (g := cSS) (sz := 1) (e := 34) (ls := [(List.replicate 21 (⟨#[]⟩ : ByteArray))]) (Nat.le_refl _) (show 1 ≤ maxLen by decide)) (fm_len cSS_len _) (perm_r11 (A := [_, _])) ?_
    refine OD.callP (wants_plain rfl) rfl rfl rfl Tryz.call6 (runLong_vp (List.replicate 21 (⟨#[]⟩ : ByteArray)) (by decide)) ⟨ot, opd_const, trivial⟩ ?_
    refine OD.still (wants_plain rfl) rfl (still_mv rfl ot) ?_
    refine OD.still (wants_plain rfl) rfl (still_extract rfl ot rfl) ?_
    refine OD.still (wants_plain rfl) rfl (still_extract rfl ot rfl) ?_
    refine OD.alloc (ds := [_, _, _]) (wants_plain rfl) rfl rfl Tryz.zeroValue30 rfl (fun b11 => ?_)
    refine OD.store (k := 0) (cs' := [_, _, _]) (wants_plain rfl) rfl rfl ot rfl rfl ot rfl rfl Tryz.sizeOf30 rfl rfl rfl ?_
    refine OD.still (wants_plain rfl) rfl (still_as rfl ot) ?_
    refine OD.wk (Wk.as_ (n := 77) (l' := [(5, _), (7, _), (8, _), (10, _), (12, _)]) (S' := [⟨b11, 30, 3, [_, _, _]⟩, ⟨b9, 30, 3, [_, _, _]⟩, ⟨b7, 30, 3, [_, _, _]⟩]) rfl rfl ⟨lk, lk, lk, lk, lk, trivial⟩) ?_
    refine OD.nil ?_
    refine CD.seq ?_
    refine CD.seq ?_
    refine CD.region ?_
    refine OD.still (wants_plain rfl) rfl (still_mv rfl ot) ?_
    refine OD.still (wants_plain rfl) rfl (still_bin rfl ot opd_const bin_lss) ?_
    refine OD.still (wants_plain rfl) rfl (still_mv rfl ot) ?_
    refine OD.split (t := 40) lk (fun hg40 => ?_) (fun hg40 => ?_)
    · have hg40' := hg40; (try simp only [decide_eq_true_eq, decide_eq_false_iff_not, beq_iff_eq, bne_iff_ne, Bool.not_eq_true', Bool.not_eq_false', Bool.not_eq_true, Bool.not_eq_false, beq_eq_false_iff_ne, ne_eq, bne_eq_false_iff_eq, Bool.and_eq_true, Bool.or_eq_true, Bool.not_not] at hg40')
      refine OD.skip (wants_F rfl rfl rfl lk (by first | rfl | assumption)) rfl ?_
      refine OD.skip (wants_F rfl rfl rfl lk (by first | rfl | assumption)) rfl ?_
      refine OD.still (wants_plain rfl) rfl (still_pickT rfl ot (by first | rfl | assumption) opd_const) ?_
      refine OD.wk (Wk.as_ (n := 77) (l' := [(5, _), (7, _), (8, _), (10, _), (12, _), (43, _)]) (S' := [⟨b11, 30, 3, [_, _, _]⟩, ⟨b9, 30, 3, [_, _, _]⟩, ⟨b7, 30, 3, [_, _, _]⟩]) rfl rfl ⟨lk, lk, lk, lk, lk, lk, trivial⟩) ?_
      refine OD.nil ?_
      refine CD.condT ot (by first | rfl | assumption) ?_
      refine CD.seq ?_
      refine CD.region ?_
      refine OD.still (wants_plain rfl) rfl (still_mv rfl ot) ?_
      refine OD.still (wants_plain rfl) rfl (still_bin rfl ot opd_const bin_eql) ?_
      refine OD.still (wants_plain rfl) rfl (still_mv rfl ot) ?_
      refine OD.split (t := 46) lk (fun hg46 => ?_) (fun hg46 => ?_)
      · have hg46' := hg46; (try simp only [decide_eq_true_eq, decide_eq_false_iff_not, beq_iff_eq, bne_iff_ne, Bool.not_eq_true', Bool.not_eq_false', Bool.not_eq_true, Bool.not_eq_false, beq_eq_false_iff_ne, ne_eq, bne_eq_false_iff_eq, Bool.and_eq_true, Bool.or_eq_true, Bool.not_not] at hg46')
        refine OD.still (wants_T rfl rfl rfl lk (by first | rfl | assumption)) rfl (still_mv rfl ot) ?_
        refine OD.still (wants_T rfl rfl rfl lk (by first | rfl | assumption)) rfl (still_bin rfl ot opd_const bin_eql) ?_
        refine OD.still (wants_plain rfl) rfl (still_pickT rfl ot (by first | rfl | assumption) ot) ?_
        refine OD.still (wants_plain rfl) rfl (still_mv rfl ot) ?_
        refine OD.split (t := 50) lk (fun hg50 => ?_) (fun hg50 => ?_)
        · have hg50' := hg50; (try simp only [decide_eq_true_eq, decide_eq_false_iff_not, beq_iff_eq, bne_iff_ne, Bool.not_eq_true', Bool.not_eq_false', Bool.not_eq_true, Bool.not_eq_false, beq_eq_false_iff_ne, ne_eq, bne_eq_false_iff_eq, Bool.and_eq_true, Bool.or_eq_true, Bool.not_not] at hg50')
          refine OD.still (wants_T rfl rfl rfl lk (by first | rfl | assumption)) rfl (still_mv rfl ot) ?_
          refine OD.still (wants_T rfl rfl rfl lk (by first | rfl | assumption)) rfl (still_bin rfl ot opd_const bin_eql) ?_
          refine OD.still (wants_plain rfl) rfl (still_pickT rfl ot (by first | rfl | assumption) ot) ?_
          refine OD.still (wants_plain rfl) rfl (still_mv rfl ot) ?_
          refine OD.split (t := 54) lk (fun hg54 => ?_) (fun hg54 => ?_)
          · have hg54' := hg54; (try simp only [decide_eq_true_eq, decide_eq_false_iff_not, beq_iff_eq, bne_iff_ne, Bool.not_eq_true', Bool.not_eq_false', Bool.not_eq_true, Bool.not_eq_false, beq_eq_false_iff_ne, ne_eq, bne_eq_false_iff_eq, Bool.and_eq_true, Bool.or_eq_true, Bool.not_not] at hg54')
            refine OD.still (wants_T rfl rfl rfl lk (by first | rfl | assumption)) rfl (still_r1 (mk := fun y => Op.fieldAddr 30 y 0) rfl ot (by first | exact fa_ptr (off := 0) Tryz.runUnderlying30 rfl Tryz.sizeOf24 rfl | exact fa_iptr (off := 0) Tryz.runUnderlying30 rfl Tryz.sizeOf24 rfl)) ?_
            refine OD.still (wants_T rfl rfl rfl lk (by first | rfl | assumption)) rfl (still_r1 (mk := Op.load 24) rfl ot (by first | exact ld_blk (k := 2) rfl rfl Tryz.isAgg24 rfl | exact ld_i Tryz.isAgg24 rfl)) ?_
            refine OD.still (wants_T rfl rfl rfl lk (by first | rfl | assumption)) rfl (still_r1 (mk := fun y => .call { callee := .builtin .len, args := #[y], argTypes := #[24] }) rfl ot (by first | exact len_list rfl Tryz.runUnderlying24 | exact len_row rfl Tryz.runUnderlying24)) ?_
            refine OD.still (wants_T rfl rfl rfl lk (by first | rfl | assumption)) rfl (still_bin rfl ot opd_const bin_eql) ?_
            refine OD.still (wants_plain rfl) rfl (still_pickT rfl ot (by first | rfl | assumption) ot) ?_
            refine OD.still (wants_plain rfl) rfl (still_as rfl ot) ?_
            refine OD.wk (Wk.as_ (n := 77) (l' := [(4, _)]) (S' := [⟨b11, 30, 3, [_, _, _]⟩, ⟨b9, 30, 3, [_, _, _]⟩, ⟨b7, 30, 3, [_, _, _]⟩]) rfl rfl ⟨lk, trivial⟩) ?_
            refine OD.nil ?_
            refine CD.ret ?_
            refine ⟨.inr rfl, _, [], List.nil_sublist _, ret_one Tryz.results3 (res_tmp (Nat.le_of_ble_eq_true rfl) lk), ?_⟩
            exact ⟨by first | rfl | (simp; done) | (simp [hul]; done), rfl⟩
          · exact absurd hg54 (by simp)
        · exact absurd hg50 (by simp)
      · exact absurd hg46 (by simp)
    · have hg40' := hg40; (try simp only [decide_eq_true_eq, decide_eq_false_iff_not, beq_iff_eq, bne_iff_ne, Bool.not_eq_true', Bool.not_eq_false', Bool.not_eq_true, Bool.not_eq_false, beq_eq_false_iff_ne, ne_eq, bne_eq_false_iff_eq, Bool.and_eq_true, Bool.or_eq_true, Bool.not_not] at hg40')
      refine OD.still (wants_T rfl rfl rfl lk (by first | rfl | assumption)) rfl (still_mv rfl ot) ?_
      refine OD.still (wants_T rfl rfl rfl lk (by first | rfl | assumption)) rfl (still_bin rfl ot opd_const bin_gtr) ?_
      refine OD.still (wants_plain rfl) rfl (still_pickF rfl ot (by first | rfl | assumption) ot) ?_
      refine OD.wk (Wk.as_ (n := 77) (l' := [(5, _), (7, _), (8, _), (10, _), (12, _), (43, _)]) (S' := [⟨b11, 30, 3, [_, _, _]⟩, ⟨b9, 30, 3, [_, _, _]⟩, ⟨b7, 30, 3, [_, _, _]⟩]) rfl rfl ⟨lk, lk, lk, lk, lk, lk, trivial⟩) ?_
      refine OD.nil ?_
      refine CD.cond ot (fun hc0 => ?_) (fun hc0 => ?_)
      · have hc0' := hc0
        (try simp only [decide_eq_true_eq, decide_eq_false_iff_not, beq_iff_eq, bne_iff_ne, Bool.not_eq_true', Bool.not_eq_false', Bool.not_eq_true, Bool.not_eq_false, beq_eq_false_iff_ne, ne_eq, bne_eq_false_iff_eq, Bool.and_eq_true, Bool.or_eq_true, Bool.not_not, Bool.and_eq_false_iff, Bool.or_eq_false_iff, Int.not_lt, Int.not_le] at hc0')
        refine CD.seq ?_
        refine CD.region ?_
        refine OD.still (wants_plain rfl) rfl (still_mv rfl ot) ?_
        refine OD.still (wants_plain rfl) rfl (still_bin rfl ot opd_const bin_eql) ?_
        refine OD.still (wants_plain rfl) rfl (still_mv rfl ot) ?_
        refine OD.split (t := 46) lk (fun hg46 => ?_) (fun hg46 => ?_)
        · have hg46' := hg46; (try simp only [decide_eq_true_eq, decide_eq_false_iff_not, beq_iff_eq, bne_iff_ne, Bool.not_eq_true', Bool.not_eq_false', Bool.not_eq_true, Bool.not_eq_false, beq_eq_false_iff_ne, ne_eq, bne_eq_false_iff_eq, Bool.and_eq_true, Bool.or_eq_true, Bool.not_not] at hg46')
          refine OD.still (wants_T rfl rfl rfl lk (by first | rfl | assumption)) rfl (still_mv rfl ot) ?_
          refine OD.still (wants_T rfl rfl rfl lk (by first | rfl | assumption)) rfl (still_bin rfl ot opd_const bin_eql) ?_
          refine OD.still (wants_plain rfl) rfl (still_pickT rfl ot (by first | rfl | assumption) ot) ?_
          refine OD.still (wants_plain rfl) rfl (still_mv rfl ot) ?_
          refine OD.split (t := 50) lk (fun hg50 => ?_) (fun hg50 => ?_)
          · have hg50' := hg50; (try simp only [decide_eq_true_eq, decide_eq_false_iff_not, beq_iff_eq, bne_iff_ne, Bool.not_eq_true', Bool.not_eq_false', Bool.not_eq_true, Bool.not_eq_false, beq_eq_false_iff_ne, ne_eq, bne_eq_false_iff_eq, Bool.and_eq_true, Bool.or_eq_true, Bool.not_not] at hg50')
            refine OD.still (wants_T rfl rfl rfl lk (by first | rfl | assumption)) rfl (still_mv rfl ot) ?_
            refine OD.still (wants_T rfl rfl rfl lk (by first | rfl | assumption)) rfl (still_bin rfl ot opd_const bin_eql) ?_
            refine OD.still (wants_plain rfl) rfl (still_pickT rfl ot (by first | rfl | assumption) ot) ?_
            refine OD.still (wants_plain rfl) rfl (still_mv rfl ot) ?_
            refine OD.split (t := 54) lk (fun hg54 => ?_) (fun hg54 => ?_)
            · have hg54' := hg54; (try simp only [decide_eq_true_eq, decide_eq_false_iff_not, beq_iff_eq, bne_iff_ne, Bool.not_eq_true', Bool.not_eq_false', Bool.not_eq_true, Bool.not_eq_false, beq_eq_false_iff_ne, ne_eq, bne_eq_false_iff_eq, Bool.and_eq_true, Bool.or_eq_true, Bool.not_not] at hg54')
              refine OD.still (wants_T rfl rfl rfl lk (by first | rfl | assumption)) rfl (still_r1 (mk := fun y => Op.fieldAddr 30 y 0) rfl ot (by first | exact fa_ptr (off := 0) Tryz.runUnderlying30 rfl Tryz.sizeOf24 rfl | exact fa_iptr (off := 0) Tryz.runUnderlying30 rfl Tryz.sizeOf24 rfl)) ?_
              refine OD.still (wants_T rfl rfl rfl lk (by first | rfl | assumption)) rfl (still_r1 (mk := Op.load 24) rfl ot (by first | exact ld_blk (k := 2) rfl rfl Tryz.isAgg24 rfl | exact ld_i Tryz.isAgg24 rfl)) ?_
              refine OD.still (wants_T rfl rfl rfl lk (by first | rfl | assumption)) rfl (still_r1 (mk := fun y => .call { callee := .builtin .len, args := #[y], argTypes := #[24] }) rfl ot (by first | exact len_list rfl Tryz.runUnderlying24 | exact len_row rfl Tryz.runUnderlying24)) ?_
              refine OD.still (wants_T rfl rfl rfl lk (by first | rfl | assumption)) rfl (still_bin rfl ot opd_const bin_eql) ?_
              refine OD.still (wants_plain rfl) rfl (still_pickT rfl ot (by first | rfl | assumption) ot) ?_
              refine OD.still (wants_plain rfl) rfl (still_as rfl ot) ?_
              refine OD.wk (Wk.as_ (n := 77) (l' := [(4, _)]) (S' := [⟨b11, 30, 3, [_, _, _]⟩, ⟨b9, 30, 3, [_, _, _]⟩, ⟨b7, 30, 3, [_, _, _]⟩]) rfl rfl ⟨lk, trivial⟩) ?_
              refine OD.nil ?_
              refine CD.ret ?_
              refine ⟨.inr rfl, _, [], List.nil_sublist _, ret_one Tryz.results3 (res_tmp (Nat.le_of_ble_eq_true rfl) lk), ?_⟩
              exact ⟨by first | rfl | (simp; done) | (simp [hul]; done), rfl⟩
            · exact absurd hg54 (by simp)
          · exact absurd hg50 (by simp)
        · exact absurd hg46 (by simp)
      · exact absurd hc0 (by simp at *; omega)
  · skip
    refine OD.call (wants_plain rfl) rfl rfl rfl Tryz.call6 (runNone_vc k (by omega) (by omega)) ⟨ot, opd_const, trivial⟩ (perm_none _) ?_
    rintro _ S19 ⟨ad, cap, rfl, rfl⟩
    refine OD.still (wants_plain rfl) rfl (still_mv rfl ot) ?_
    refine OD.still (wants_plain rfl) rfl (still_extract rfl ot rfl) ?_
    refine OD.still (wants_plain rfl) rfl (still_extract rfl ot rfl) ?_
    refine OD.alloc (ds := [_, _, _]) (wants_plain rfl) rfl rfl Tryz.zeroValue30 rfl (fun b7 => ?_)
    refine OD.store (k := 0) (cs' := [_, _, _]) (wants_plain rfl) rfl rfl ot rfl rfl ot rfl rfl Tryz.sizeOf30 rfl rfl rfl ?_
    refine OD.still (wants_plain rfl) rfl (still_as rfl ot) ?_
    refine OD.wk (Wk.as_ (n := 77) (l' := [(1, _), (5, _), (7, _), (8, _)]) (S' := [⟨b7, 30, 3, [_, _, _]⟩]) rfl rfl ⟨lk, lk, lk, lk, trivial⟩) ?_
    refine OD.nil ?_
    refine CD.seq ?_
    refine CD.region ?_
    refine OD.bldS (pl := [(0, _)]) (zvs := [.string ⟨#[]⟩]) (ds := [_]) (wants_plain rfl) rfl rfl Tryz.zeroValue9 Tryz.runUnderlying34 Tryz.sizeOf9 rfl rfl (by kernel_rfl) ⟨rfl, opd_const, trivial⟩ rfl rfl (fun b23 => ?_)
    refine OD.perm (perm_q11 (S1 := [⟨b23, 9, 1 * 1, List.flatMap cS ([(⟨#[66, 69, 71, 73, 78]⟩ : ByteArray)])⟩]) (A := [_])) ?_
    refine OD.giveL (t := 23) (Sq := [⟨b23, 9, 1 * 1, List.flatMap cS ([(⟨#[66, 69, 71, 73, 78]⟩ : ByteArray)])⟩]) lk (ownL_row (g := cS) (sz := 1) (e := 9) (ls := [(⟨#[66, 69, 71, 73, 78]⟩ : ByteArray)]) (Nat.le_refl _) (show 1 ≤ maxLen by decide)) (fm_len cS_len _) (perm_r11 (A := [_])) ?_
    refine OD.bldS (pl := [(0, _)]) (zvs := [.slice none 0 0]) (ds := [_]) (wants_plain rfl) rfl rfl Tryz.zeroValue34 Tryz.runUnderlying23 Tryz.sizeOf34 rfl rfl (by kernel_rfl) ⟨rfl, ot, trivial⟩ rfl rfl (fun b24 => ?_)
    refine OD.perm (perm_q11 (S1 := [⟨b24, 34, 1 * 1, List.flatMap cSS ([[(⟨#[66, 69, 71, 73, 78]⟩ : ByteArray)]])⟩]) (A := [_])) ?_
    refine OD.giveL (t := 24) (Sq := [⟨b24, 34, 1 * 1, List.flatMap cSS ([[(⟨#[66, 69, 71, 73, 78]⟩ : ByteArray)]])⟩]) lk (ownL_row (g := cSS) (sz := 1) (e := 34) (ls := [[(⟨#[66, 69, 71, 73, 78]⟩ : ByteArray)]]) (Nat.le_refl _) (show 1 ≤ maxLen by decide)) (fm_len cSS_len _) (perm_r11 (A := [_])) ?_
    refine OD.still (wants_plain rfl) rfl (still_mv rfl ot) ?_
    refine OD.callP (wants_plain rfl) rfl rfl rfl Tryz.call5 (Picked_vp p 9 h3 h4 (by decide)) ⟨ot, opd_const, trivial⟩ ?_
    refine OD.still (wants_plain rfl) rfl (still_bin rfl opd_const ot (bin_add (wrap_i64 (by omega) (by omega)))) ?_
    refine OD.bldS (pl := [(0, _)]) (zvs := [.int .i64 0]) (ds := [_]) (wants_plain rfl) rfl rfl Tryz.zeroValue3 Tryz.runUnderlying25 Tryz.sizeOf3 rfl rfl (by kernel_rfl) ⟨rfl, ot, trivial⟩ rfl rfl (fun b28 => ?_)
    refine OD.perm (perm_q11 (S1 := [⟨b28, 3, 1 * 1, List.flatMap cI ([1 + pickedF p 9])⟩]) (A := [_])) ?_
    refine OD.giveL (t := 28) (Sq := [⟨b28, 3, 1 * 1, List.flatMap cI ([1 + pickedF p 9])⟩]) lk (ownL_row (g := cI) (sz := 1) (e := 3) (ls := [1 + pickedF p 9]) (Nat.le_refl _) (show 1 ≤ maxLen by decide)) (fm_len cI_len _) (perm_r11 (A := [_])) ?_
    refine OD.callP (wants_plain rfl) rfl rfl rfl Tryz.call6 (runPick_vp [(⟨#[66, 69, 71, 73, 78]⟩ : ByteArray)] (by decide) (1 + pickedF p 9) hp9) ⟨ot, ot, trivial⟩ ?_
    refine OD.still (wants_plain rfl) rfl (still_mv rfl ot) ?_
    refine OD.still (wants_plain rfl) rfl (still_extract rfl ot rfl) ?_
    refine OD.still (wants_plain rfl) rfl (still_extract rfl ot rfl) ?_
    refine OD.alloc (ds := [_, _, _]) (wants_plain rfl) rfl rfl Tryz.zeroValue30 rfl (fun b9 => ?_)
    refine OD.store (k := 0) (cs' := [_, _, _]) (wants_plain rfl) rfl rfl ot rfl rfl ot rfl rfl Tryz.sizeOf30 rfl rfl rfl ?_
    refine OD.still (wants_plain rfl) rfl (still_as rfl ot) ?_
    refine OD.wk (Wk.as_ (n := 77) (l' := [(5, _), (7, _), (8, _), (10, _)]) (S' := [⟨b9, 30, 3, [_, _, _]⟩, ⟨b7, 30, 3, [_, _, _]⟩]) rfl rfl ⟨lk, lk, lk, lk, trivial⟩) ?_
    refine OD.nil ?_
    refine CD.seq ?_
    refine CD.region ?_
    refine OD.make (g := cS) (a := (⟨#[]⟩ : ByteArray)) (n := 21) rfl cS_len (wants_plain rfl) rfl rfl Tryz.underlying34 info9_Tp2 rfl (by decide) opd_const opd_const (by omega) (by decide) (fun b33 => ?_)
    refine OD.perm (perm_q11 (S1 := [⟨b33, 9, 21 * 1, List.flatMap cS ((List.replicate 21 (⟨#[]⟩ : ByteArray)))⟩]) (A := [_, _])) ?_
    refine OD.giveL (t := 33) (Sq := [⟨b33, 9, 21 * 1, List.flatMap cS ((List.replicate 21 (⟨#[]⟩ : ByteArray)))⟩]) lk (ownL_row (g := cS) (sz := 1) (e := 9) (ls := (List.replicate 21 (⟨#[]⟩ : ByteArray))) (by simp) (show 21 ≤ maxLen by decide)) (fm_len cS_len _) (perm_r11 (A := [_, _])) ?_
    refine OD.bldS (pl := [(0, _)]) (zvs := [.slice none 0 0]) (ds := [_]) (wants_plain rfl) rfl rfl Tryz.zeroValue34 Tryz.runUnderlying23 Tryz.sizeOf34 rfl rfl (by kernel_rfl) ⟨rfl, ot, trivial⟩ rfl rfl (fun b34 => ?_)
    refine OD.perm (perm_q11 (S1 := [⟨b34, 34, 1 * 1, List.flatMap cSS ([(List.replicate 21 (⟨#[]⟩ : ByteArray))])⟩]) (A := [_, _])) ?_
    refine OD.giveL (t := 34) (Sq := [⟨b34, 34, 1 * 1, List.flatMap cSS ([(List.replicate 21 (⟨#[]⟩ : ByteArray))])⟩]) lk (ownL_row (g := cSS) (sz := 1) (e := 34) (ls := [(List.replicate 21 (⟨#[]⟩ : ByteArray))]) (Nat.le_refl _) (show 1 ≤ maxLen by decide)) (fm_len cSS_len _) (perm_r11 (A := [_, _])) ?_
    refine OD.callP (wants_plain rfl) rfl rfl rfl Tryz.call6 (runLong_vp (List.replicate 21 (⟨#[]⟩ : ByteArray)) (by decide)) ⟨ot, opd_const, trivial⟩ ?_
    refine OD.still (wants_plain rfl) rfl (still_mv rfl ot) ?_
    refine OD.still (wants_plain rfl) rfl (still_extract rfl ot rfl) ?_
    refine OD.still (wants_plain rfl) rfl (still_extract rfl ot rfl) ?_
    refine OD.alloc (ds := [_, _, _]) (wants_plain rfl) rfl rfl Tryz.zeroValue30 rfl (fun b11 => ?_)
    refine OD.store (k := 0) (cs' := [_, _, _]) (wants_plain rfl) rfl rfl ot rfl rfl ot rfl rfl Tryz.sizeOf30 rfl rfl rfl ?_
    refine OD.still (wants_plain rfl) rfl (still_as rfl ot) ?_
    refine OD.wk (Wk.as_ (n := 77) (l' := [(5, _), (7, _), (8, _), (10, _), (12, _)]) (S' := [⟨b11, 30, 3, [_, _, _]⟩, ⟨b9, 30, 3, [_, _, _]⟩, ⟨b7, 30, 3, [_, _, _]⟩]) rfl rfl ⟨lk, lk, lk, lk, lk, trivial⟩) ?_
    refine OD.nil ?_
    refine CD.seq ?_
    refine CD.seq ?_
    refine CD.region ?_
    refine OD.still (wants_plain rfl) rfl (still_mv rfl ot) ?_
    refine OD.still (wants_plain rfl) rfl (still_bin rfl ot opd_const bin_lss) ?_
    refine OD.still (wants_plain rfl) rfl (still_mv rfl ot) ?_
    refine OD.split (t := 40) lk (fun hg40 => ?_) (fun hg40 => ?_)
    · exact absurd hg40 (by simp; omega)
    · have hg40' := hg40; (try simp only [decide_eq_true_eq, decide_eq_false_iff_not, beq_iff_eq, bne_iff_ne, Bool.not_eq_true', Bool.not_eq_false', Bool.not_eq_true, Bool.not_eq_false, beq_eq_false_iff_ne, ne_eq, bne_eq_false_iff_eq, Bool.and_eq_true, Bool.or_eq_true, Bool.not_not] at hg40')
      refine OD.still (wants_T rfl rfl rfl lk (by first | rfl | assumption)) rfl (still_mv rfl ot) ?_
      refine OD.still (wants_T rfl rfl rfl lk (by first | rfl | assumption)) rfl (still_bin rfl ot opd_const bin_gtr) ?_
      refine OD.still (wants_plain rfl) rfl (still_pickF rfl ot (by first | rfl | assumption) ot) ?_
      refine OD.wk (Wk.as_ (n := 77) (l' := [(5, _), (7, _), (8, _), (10, _), (12, _), (43, _)]) (S' := [⟨b11, 30, 3, [_, _, _]⟩, ⟨b9, 30, 3, [_, _, _]⟩, ⟨b7, 30, 3, [_, _, _]⟩]) rfl rfl ⟨lk, lk, lk, lk, lk, lk, trivial⟩) ?_
      refine OD.nil ?_
      refine CD.cond ot (fun hc0 => ?_) (fun hc0 => ?_)
      · exact absurd hc0 (by simp at *; omega)
      · have hc0' := hc0
        (try simp only [decide_eq_true_eq, decide_eq_false_iff_not, beq_iff_eq, bne_iff_ne, Bool.not_eq_true', Bool.not_eq_false', Bool.not_eq_true, Bool.not_eq_false, beq_eq_false_iff_ne, ne_eq, bne_eq_false_iff_eq, Bool.and_eq_true, Bool.or_eq_true, Bool.not_not, Bool.and_eq_false_iff, Bool.or_eq_false_iff, Int.not_lt, Int.not_le] at hc0')
        refine CD.skip ?_
        refine CD.seq ?_
        refine CD.region ?_
        refine OD.still (wants_plain rfl) rfl (still_mv rfl ot) ?_
        refine OD.still (wants_plain rfl) rfl (still_bin rfl ot opd_const bin_eql) ?_
        refine OD.still (wants_plain rfl) rfl (still_mv rfl ot) ?_
        refine OD.split (t := 62) lk (fun hg62 => ?_) (fun hg62 => ?_)
        · have hg62' := hg62; (try simp only [decide_eq_true_eq, decide_eq_false_iff_not, beq_iff_eq, bne_iff_ne, Bool.not_eq_true', Bool.not_eq_false', Bool.not_eq_true, Bool.not_eq_false, beq_eq_false_iff_ne, ne_eq, bne_eq_false_iff_eq, Bool.and_eq_true, Bool.or_eq_true, Bool.not_not] at hg62')
          refine OD.still (wants_T rfl rfl rfl lk (by first | rfl | assumption)) rfl (still_mv rfl ot) ?_
          refine OD.still (wants_T rfl rfl rfl lk (by first | rfl | assumption)) rfl (still_bin rfl ot opd_const bin_eql) ?_
          refine OD.still (wants_plain rfl) rfl (still_pickT rfl ot (by first | rfl | assumption) ot) ?_
          refine OD.still (wants_plain rfl) rfl (still_mv rfl ot) ?_
          refine OD.split (t := 66) lk (fun hg66 => ?_) (fun hg66 => ?_)
          · have hg66' := hg66; (try simp only [decide_eq_true_eq, decide_eq_false_iff_not, beq_iff_eq, bne_iff_ne, Bool.not_eq_true', Bool.not_eq_false', Bool.not_eq_true, Bool.not_eq_false, beq_eq_false_iff_ne, ne_eq, bne_eq_false_iff_eq, Bool.and_eq_true, Bool.or_eq_true, Bool.not_not] at hg66')
            refine OD.still (wants_T rfl rfl rfl lk (by first | rfl | assumption)) rfl (still_mv rfl ot) ?_
            refine OD.still (wants_T rfl rfl rfl lk (by first | rfl | assumption)) rfl (still_bin rfl ot opd_const bin_eql) ?_
            refine OD.still (wants_plain rfl) rfl (still_pickT rfl ot (by first | rfl | assumption) ot) ?_
            refine OD.still (wants_plain rfl) rfl (still_mv rfl ot) ?_
            refine OD.split (t := 70) lk (fun hg70 => ?_) (fun hg70 => ?_)
            · have hg70' := hg70; (try simp only [decide_eq_true_eq, decide_eq_false_iff_not, beq_iff_eq, bne_iff_ne, Bool.not_eq_true', Bool.not_eq_false', Bool.not_eq_true, Bool.not_eq_false, beq_eq_false_iff_ne, ne_eq, bne_eq_false_iff_eq, Bool.and_eq_true, Bool.or_eq_true, Bool.not_not] at hg70')
              refine OD.still (wants_T rfl rfl rfl lk (by first | rfl | assumption)) rfl (still_r1 (mk := fun y => Op.fieldAddr 30 y 0) rfl ot (by first | exact fa_ptr (off := 0) Tryz.runUnderlying30 rfl Tryz.sizeOf24 rfl | exact fa_iptr (off := 0) Tryz.runUnderlying30 rfl Tryz.sizeOf24 rfl)) ?_
              refine OD.still (wants_T rfl rfl rfl lk (by first | rfl | assumption)) rfl (still_r1 (mk := Op.load 24) rfl ot (by first | exact ld_blk (k := 2) rfl rfl Tryz.isAgg24 rfl | exact ld_i Tryz.isAgg24 rfl)) ?_
              refine OD.still (wants_T rfl rfl rfl lk (by first | rfl | assumption)) rfl (still_r1 (mk := fun y => .call { callee := .builtin .len, args := #[y], argTypes := #[24] }) rfl ot (by first | exact len_list rfl Tryz.runUnderlying24 | exact len_row rfl Tryz.runUnderlying24)) ?_
              refine OD.still (wants_T rfl rfl rfl lk (by first | rfl | assumption)) rfl (still_mv rfl ot) ?_
              refine OD.still (wants_T rfl rfl rfl lk (by first | rfl | assumption)) rfl (still_bin rfl ot ot bin_eql) ?_
              refine OD.still (wants_plain rfl) rfl (still_pickT rfl ot (by first | rfl | assumption) ot) ?_
              refine OD.still (wants_plain rfl) rfl (still_as rfl ot) ?_
              refine OD.wk (Wk.as_ (n := 77) (l' := [(4, _)]) (S' := [⟨b11, 30, 3, [_, _, _]⟩, ⟨b9, 30, 3, [_, _, _]⟩, ⟨b7, 30, 3, [_, _, _]⟩]) rfl rfl ⟨lk, trivial⟩) ?_
              refine OD.nil ?_
              refine CD.ret ?_
              refine ⟨.inr rfl, _, [], List.nil_sublist _, ret_one Tryz.results3 (res_tmp (Nat.le_of_ble_eq_true rfl) lk), ?_⟩
              exact ⟨by first | rfl | (simp; done) | (simp [hul]; done), rfl⟩
            · exact absurd hg70 (by simp)
          · exact absurd hg66 (by simp)
        · exact absurd hg62 (by simp)

theorem walkTopRefused (a : Int) (wa : (Lit.int .i64 a).wf = true) (b : Int) (wb : (Lit.int .i64 b).wf = true) (w : World) : Calls Tryz.prog 3 #[.int .i64 a, .int .i64 b] w fun e w' => e = .returned (.bool true) ∧ Below w.heap.size w w' :=
  (refused_vp (G := []) a b (wf_bd wa).1 (wf_bd wa).2 (wf_bd wb).1 (wf_bd wb).2).run (fun g hg => by cases hg) (RepL.vs w _ [_, _])

end Go.Proofs.YtdbgneghoiakfaaGreatDoor.Tp
