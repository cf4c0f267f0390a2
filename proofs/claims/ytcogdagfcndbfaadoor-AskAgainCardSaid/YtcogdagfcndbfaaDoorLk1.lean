/-
  Locks: walks of the small functions.
-/
import Derived.Test.YtcogdagfcndbfaaDoorVd
import Derived.Test.YtcogdagfcndbfaaDoorLkP
import Derived.Test.YtcogdagfcndbfaaDoorProg
namespace Go.Proofs.YtcogdagfcndbfaaDoor.Lk
open Go.RowKit V
set_option linter.unusedVariables false
set_option linter.unusedSimpArgs false

def cL (x : L) : List D := [.v (.int .i64 x.t), .v (.string x.th), .v (.int .i64 x.m)]
theorem cL_len (x : L) : (cL x).length = 3 := rfl
theorem cL_one (x : L) : (cL x).all one = true := rfl
def lockD (x : L) : D := .agg (cL x)
def locksD (ls : List L) : D := .list 3 (ls.flatMap cL) ls.length

def fitsC : List Value := fitsL.flatMap fun r => r.flatMap fun b => [.bool b]
def joinsC : List Value := joinsL.flatMap fun r => r.flatMap fun b => [.int .i64 b]
theorem five {m : Nat} (h1 : 1 ≤ m) (h2 : m ≤ 5) : m = 1 ∨ m = 2 ∨ m = 3 ∨ m = 4 ∨ m = 5 := by omega
theorem fitsC_at (m n : Nat) (h1 : 1 ≤ m) (h2 : m ≤ 5) (h3 : 1 ≤ n) (h4 : n ≤ 5) : fitsC[m * 6 + n]? = some (.bool (fitsT m n)) := by
  rcases five h1 h2 with rfl | rfl | rfl | rfl | rfl <;> rcases five h3 h4 with rfl | rfl | rfl | rfl | rfl <;> rfl
theorem joinsC_at (m n : Nat) (h1 : 1 ≤ m) (h2 : m ≤ 5) (h3 : 1 ≤ n) (h4 : n ≤ 5) : joinsC[m * 6 + n]? = some (.int .i64 (joinsT m n)) := by
  rcases five h1 h2 with rfl | rfl | rfl | rfl | rfl <;> rcases five h3 h4 with rfl | rfl | rfl | rfl | rfl <;> rfl
theorem fitsC_off {a b : Int} (h1 : 1 ≤ a) (h2 : a ≤ 5) (h3 : 1 ≤ b) (h4 : b ≤ 5) : fitsC[0 + a.toNat * 6 + b.toNat * 1]? = some (.bool (fitsF a b)) := by
  rw [Nat.zero_add, Nat.mul_one]; exact fitsC_at _ _ (by omega) (by omega) (by omega) (by omega)
theorem joinsC_off {a b : Int} (h1 : 1 ≤ a) (h2 : a ≤ 5) (h3 : 1 ≤ b) (h4 : b ≤ 5) : joinsC[0 + a.toNat * 6 + b.toNat * 1]? = some (.int .i64 (joinsF a b)) := by
  rw [Nat.zero_add, Nat.mul_one]; exact joinsC_at _ _ (by omega) (by omega) (by omega) (by omega)
/-- The tables of package lock, by their numbers. -/
abbrev TG : List (Nat × List Value) := [(1, fitsC), (0, joinsC)]

def pickedF (n m : Int) : Int := if n < 0 then (-(n + 1)).tmod m else n.tmod m
theorem perm_all (S : List Blk) : S.Perm (S ++ []) := by simp

variable (G : List (Nat × List Value))

theorem picked_vp (n m : Int) (hn : -9223372036854775808 ≤ n) (hn2 : n ≤ 9223372036854775807) (hm : 1 ≤ m) : VP Tryd.prog G 14 [.v (.int .i64 n), .v (.int .i64 m)] (.v (.int .i64 (pickedF n m))) := by
  refine VC.body Tryd.func14 rfl Tryd.ntmps14 (Nat.le_of_ble_eq_true rfl) fun X0 w0 S00 => ?_
  refine CD.seq ?_
  refine CD.region ?_
  refine OD.still (wants_plain rfl) rfl (still_as rfl opd_const) ?_
  refine OD.wk (Wk.as_ (n := 13) (l' := [(0, _), (1, _)]) (S' := []) rfl rfl ⟨(by (repeat (first | exact look_hit | (apply look_miss; focus rfl) | exact look_nil)); done), (by (repeat (first | exact look_hit | (apply look_miss; focus rfl) | exact look_nil)); done), trivial⟩) ?_
  refine OD.nil ?_
  refine CD.seq ?_
  refine CD.seq ?_
  refine CD.region ?_
  refine OD.still (wants_plain rfl) rfl (still_mv rfl (opd_tmp rfl (by (repeat (first | exact look_hit | (apply look_miss; focus rfl) | exact look_nil)); done))) ?_
  refine OD.still (wants_plain rfl) rfl (still_bin rfl (opd_tmp rfl (by (repeat (first | exact look_hit | (apply look_miss; focus rfl) | exact look_nil)); done)) opd_const bin_lss) ?_
  refine OD.wk (Wk.as_ (n := 13) (l' := [(0, _), (1, _), (6, _)]) (S' := []) rfl rfl ⟨(by (repeat (first | exact look_hit | (apply look_miss; focus rfl) | exact look_nil)); done), (by (repeat (first | exact look_hit | (apply look_miss; focus rfl) | exact look_nil)); done), (by (repeat (first | exact look_hit | (apply look_miss; focus rfl) | exact look_nil)); done), trivial⟩) ?_
  refine OD.nil ?_
  refine CD.cond (opd_tmp rfl (by (repeat (first | exact look_hit | (apply look_miss; focus rfl) | exact look_nil)); done)) (fun hc0 => ?_) (fun hc0 => ?_)
  · have hc0' := hc0
    (try simp only [decide_eq_true_eq, decide_eq_false_iff_not, beq_iff_eq, bne_iff_ne, Bool.not_eq_true', Bool.not_eq_false', Bool.not_eq_true, Bool.not_eq_false, beq_eq_false_iff_ne, ne_eq, bne_eq_false_iff_eq, Bool.and_eq_true, Bool.or_eq_true, Bool.not_not, Bool.and_eq_false_iff, Bool.or_eq_false_iff, Int.not_lt, Int.not_le] at hc0')
    refine CD.region ?_
    refine OD.still (wants_plain rfl) rfl (still_mv rfl (opd_tmp rfl (by (repeat (first | exact look_hit | (apply look_miss; focus rfl) | exact look_nil)); done))) ?_
    refine OD.still (wants_plain rfl) rfl (still_bin rfl (opd_tmp rfl (by (repeat (first | exact look_hit | (apply look_miss; focus rfl) | exact look_nil)); done)) opd_const (bin_add (wrap_i64 (by omega) (by omega)))) ?_
    refine OD.still (wants_plain rfl) rfl (still_un rfl (opd_tmp rfl (by (repeat (first | exact look_hit | (apply look_miss; focus rfl) | exact look_nil)); done)) (un_neg (r := -(n+1)) (by rw [wrap_i64] <;> omega))) ?_
    refine OD.still (wants_plain rfl) rfl (still_as rfl (opd_tmp rfl (by (repeat (first | exact look_hit | (apply look_miss; focus rfl) | exact look_nil)); done))) ?_
    refine OD.wk (Wk.as_ (n := 13) (l' := [(0, _), (1, _)]) (S' := []) rfl rfl ⟨(by (repeat (first | exact look_hit | (apply look_miss; focus rfl) | exact look_nil)); done), (by (repeat (first | exact look_hit | (apply look_miss; focus rfl) | exact look_nil)); done), trivial⟩) ?_
    refine OD.nil ?_
    refine CD.seq ?_
    refine CD.region ?_
    refine OD.still (wants_plain rfl) rfl (still_mv rfl (opd_tmp rfl (by (repeat (first | exact look_hit | (apply look_miss; focus rfl) | exact look_nil)); done))) ?_
    refine OD.still (wants_plain rfl) rfl (still_mv rfl (opd_tmp rfl (by (repeat (first | exact look_hit | (apply look_miss; focus rfl) | exact look_nil)); done))) ?_
    refine OD.still (wants_plain rfl) rfl (still_bin rfl (opd_tmp rfl (by (repeat (first | exact look_hit | (apply look_miss; focus rfl) | exact look_nil)); done)) (opd_tmp rfl (by (repeat (first | exact look_hit | (apply look_miss; focus rfl) | exact look_nil)); done)) (bin_rem (by omega))) ?_
    refine OD.still (wants_plain rfl) rfl (still_as rfl (opd_tmp rfl (by (repeat (first | exact look_hit | (apply look_miss; focus rfl) | exact look_nil)); done))) ?_
    refine OD.wk (Wk.as_ (n := 13) (l' := [(4, _)]) (S' := []) rfl rfl ⟨(by (repeat (first | exact look_hit | (apply look_miss; focus rfl) | exact look_nil)); done), trivial⟩) ?_
    refine OD.nil ?_
    refine CD.ret ?_
    refine ⟨.inr rfl, _, [], List.nil_sublist _, ret_one Tryd.results14 (res_tmp (Nat.le_of_ble_eq_true rfl) (by (repeat (first | exact look_hit | (apply look_miss; focus rfl) | exact look_nil)); done)), ?_⟩
    exact ⟨by unfold pickedF; split <;> first | rfl | omega, rfl⟩
  · have hc0' := hc0
    (try simp only [decide_eq_true_eq, decide_eq_false_iff_not, beq_iff_eq, bne_iff_ne, Bool.not_eq_true', Bool.not_eq_false', Bool.not_eq_true, Bool.not_eq_false, beq_eq_false_iff_ne, ne_eq, bne_eq_false_iff_eq, Bool.and_eq_true, Bool.or_eq_true, Bool.not_not, Bool.and_eq_false_iff, Bool.or_eq_false_iff, Int.not_lt, Int.not_le] at hc0')
    refine CD.skip ?_
    refine CD.seq ?_
    refine CD.region ?_
    refine OD.still (wants_plain rfl) rfl (still_mv rfl (opd_tmp rfl (by (repeat (first | exact look_hit | (apply look_miss; focus rfl) | exact look_nil)); done))) ?_
    refine OD.still (wants_plain rfl) rfl (still_mv rfl (opd_tmp rfl (by (repeat (first | exact look_hit | (apply look_miss; focus rfl) | exact look_nil)); done))) ?_
    refine OD.still (wants_plain rfl) rfl (still_bin rfl (opd_tmp rfl (by (repeat (first | exact look_hit | (apply look_miss; focus rfl) | exact look_nil)); done)) (opd_tmp rfl (by (repeat (first | exact look_hit | (apply look_miss; focus rfl) | exact look_nil)); done)) (bin_rem (by omega))) ?_
    refine OD.still (wants_plain rfl) rfl (still_as rfl (opd_tmp rfl (by (repeat (first | exact look_hit | (apply look_miss; focus rfl) | exact look_nil)); done))) ?_
    refine OD.wk (Wk.as_ (n := 13) (l' := [(4, _)]) (S' := []) rfl rfl ⟨(by (repeat (first | exact look_hit | (apply look_miss; focus rfl) | exact look_nil)); done), trivial⟩) ?_
    refine OD.nil ?_
    refine CD.ret ?_
    refine ⟨.inr rfl, _, [], List.nil_sublist _, ret_one Tryd.results14 (res_tmp (Nat.le_of_ble_eq_true rfl) (by (repeat (first | exact look_hit | (apply look_miss; focus rfl) | exact look_nil)); done)), ?_⟩
    exact ⟨by unfold pickedF; split <;> first | rfl | omega, rfl⟩

theorem mode_vp (m : Int) : VP Tryd.prog G 38 [.v (.int .i64 m)] (.v (.bool (modeB m))) := by
  refine VC.body Tryd.func38 rfl Tryd.ntmps38 (Nat.le_of_ble_eq_true rfl) fun X0 w0 S00 => ?_
  refine CD.seq ?_
  refine CD.region ?_
  refine OD.still (wants_plain rfl) rfl (still_as rfl opd_const) ?_
  refine OD.wk (Wk.as_ (n := 9) (l' := [(0, _)]) (S' := []) rfl rfl ⟨(by (repeat (first | exact look_hit | (apply look_miss; focus rfl) | exact look_nil)); done), trivial⟩) ?_
  refine OD.nil ?_
  refine CD.seq ?_
  refine CD.region ?_
  refine OD.still (wants_plain rfl) rfl (still_mv rfl (opd_tmp rfl (by (repeat (first | exact look_hit | (apply look_miss; focus rfl) | exact look_nil)); done))) ?_
  refine OD.still (wants_plain rfl) rfl (still_bin rfl (opd_tmp rfl (by (repeat (first | exact look_hit | (apply look_miss; focus rfl) | exact look_nil)); done)) opd_const bin_geq) ?_
  refine OD.still (wants_plain rfl) rfl (still_mv rfl (opd_tmp rfl (by (repeat (first | exact look_hit | (apply look_miss; focus rfl) | exact look_nil)); done))) ?_
  refine OD.split (t := 5) (by (repeat (first | exact look_hit | (apply look_miss; focus rfl) | exact look_nil)); done) (fun hg5 => ?_) (fun hg5 => ?_)
  · have hg5' := hg5; simp only [decide_eq_true_eq, decide_eq_false_iff_not, beq_iff_eq, bne_iff_ne, Bool.not_eq_true', Bool.not_eq_false', Bool.not_eq_true, Bool.not_eq_false, beq_eq_false_iff_ne, ne_eq, bne_eq_false_iff_eq, Bool.and_eq_true, Bool.or_eq_true, Bool.not_not] at hg5'
    refine OD.still (wants_T rfl rfl rfl (by (repeat (first | exact look_hit | (apply look_miss; focus rfl) | exact look_nil)); done) (by first | rfl | assumption)) rfl (still_mv rfl (opd_tmp rfl (by (repeat (first | exact look_hit | (apply look_miss; focus rfl) | exact look_nil)); done))) ?_
    refine OD.still (wants_T rfl rfl rfl (by (repeat (first | exact look_hit | (apply look_miss; focus rfl) | exact look_nil)); done) (by first | rfl | assumption)) rfl (still_bin rfl (opd_tmp rfl (by (repeat (first | exact look_hit | (apply look_miss; focus rfl) | exact look_nil)); done)) opd_const bin_leq) ?_
    refine OD.still (wants_plain rfl) rfl (still_pickT rfl (opd_tmp rfl (by (repeat (first | exact look_hit | (apply look_miss; focus rfl) | exact look_nil)); done)) (by first | rfl | assumption) (opd_tmp rfl (by (repeat (first | exact look_hit | (apply look_miss; focus rfl) | exact look_nil)); done))) ?_
    refine OD.still (wants_plain rfl) rfl (still_as rfl (opd_tmp rfl (by (repeat (first | exact look_hit | (apply look_miss; focus rfl) | exact look_nil)); done))) ?_
    refine OD.wk (Wk.as_ (n := 9) (l' := [(2, _)]) (S' := []) rfl rfl ⟨(by (repeat (first | exact look_hit | (apply look_miss; focus rfl) | exact look_nil)); done), trivial⟩) ?_
    refine OD.nil ?_
    refine CD.ret ?_
    refine ⟨.inr rfl, _, [], List.nil_sublist _, ret_one Tryd.results38 (res_tmp (Nat.le_of_ble_eq_true rfl) (by (repeat (first | exact look_hit | (apply look_miss; focus rfl) | exact look_nil)); done)), ?_⟩
    refine ⟨?_, rfl⟩; unfold modeB; simp [*]
  · have hg5' := hg5; simp only [decide_eq_true_eq, decide_eq_false_iff_not, beq_iff_eq, bne_iff_ne, Bool.not_eq_true', Bool.not_eq_false', Bool.not_eq_true, Bool.not_eq_false, beq_eq_false_iff_ne, ne_eq, bne_eq_false_iff_eq, Bool.and_eq_true, Bool.or_eq_true, Bool.not_not] at hg5'
    refine OD.skip (wants_F rfl rfl rfl (by (repeat (first | exact look_hit | (apply look_miss; focus rfl) | exact look_nil)); done) (by first | rfl | assumption)) rfl ?_
    refine OD.skip (wants_F rfl rfl rfl (by (repeat (first | exact look_hit | (apply look_miss; focus rfl) | exact look_nil)); done) (by first | rfl | assumption)) rfl ?_
    refine OD.still (wants_plain rfl) rfl (still_pickF rfl (opd_tmp rfl (by (repeat (first | exact look_hit | (apply look_miss; focus rfl) | exact look_nil)); done)) (by first | rfl | assumption) opd_const) ?_
    refine OD.still (wants_plain rfl) rfl (still_as rfl (opd_tmp rfl (by (repeat (first | exact look_hit | (apply look_miss; focus rfl) | exact look_nil)); done))) ?_
    refine OD.wk (Wk.as_ (n := 9) (l' := [(2, _)]) (S' := []) rfl rfl ⟨(by (repeat (first | exact look_hit | (apply look_miss; focus rfl) | exact look_nil)); done), trivial⟩) ?_
    refine OD.nil ?_
    refine CD.ret ?_
    refine ⟨.inr rfl, _, [], List.nil_sublist _, ret_one Tryd.results38 (res_tmp (Nat.le_of_ble_eq_true rfl) (by (repeat (first | exact look_hit | (apply look_miss; focus rfl) | exact look_nil)); done)), ?_⟩
    refine ⟨?_, rfl⟩; unfold modeB; simp [*]

theorem shape_vp (x : L) : VP Tryd.prog G 25 [lockD x] (.v (.int .i64 (shapeF x))) := by
  refine VC.body Tryd.func25 rfl Tryd.ntmps25 (Nat.le_of_ble_eq_true rfl) fun X0 w0 S00 => ?_
  unfold lockD cL
  refine CD.seq ?_
  refine CD.region ?_
  refine OD.box (ds := [_, _, _]) (wants_plain rfl) rfl rfl (opd_tmp rfl (by (repeat (first | exact look_hit | (apply look_miss; focus rfl) | exact look_nil)); done)) rfl rfl (fun b1 => ?_)
  refine OD.still (wants_plain rfl) rfl (still_as rfl opd_const) ?_
  refine OD.wk (Wk.as_ (n := 22) (l' := [(1, _)]) (S' := [⟨b1, 27, 3, [_, _, _]⟩]) rfl rfl ⟨(by (repeat (first | exact look_hit | (apply look_miss; focus rfl) | exact look_nil)); done), trivial⟩) ?_
  refine OD.nil ?_
  refine CD.seq ?_
  refine CD.block ?_
  refine CD.seq ?_
  refine CD.region ?_
  refine OD.still (wants_plain rfl) rfl (still_r1 (mk := fun y => Op.fieldAddr 27 y 0) rfl (opd_tmp rfl (by (repeat (first | exact look_hit | (apply look_miss; focus rfl) | exact look_nil)); done)) (by first | exact fa_ptr (off := 0) Tryd.runUnderlying27 rfl Tryd.sizeOf3 rfl | exact fa_iptr (off := 0) Tryd.runUnderlying27 rfl Tryd.sizeOf3 rfl)) ?_
  refine OD.still (wants_plain rfl) rfl (still_r1 (mk := Op.load 3) rfl (opd_tmp rfl (by (repeat (first | exact look_hit | (apply look_miss; focus rfl) | exact look_nil)); done)) (by first | exact ld_blk (k := 0) rfl rfl Tryd.isAgg3 rfl | exact ld_i Tryd.isAgg3 rfl)) ?_
  refine OD.still (wants_plain rfl) rfl (still_bin rfl (opd_tmp rfl (by (repeat (first | exact look_hit | (apply look_miss; focus rfl) | exact look_nil)); done)) opd_const bin_lss) ?_
  refine OD.still (wants_plain rfl) rfl (still_mv rfl (opd_tmp rfl (by (repeat (first | exact look_hit | (apply look_miss; focus rfl) | exact look_nil)); done))) ?_
  refine OD.split (t := 7) (by (repeat (first | exact look_hit | (apply look_miss; focus rfl) | exact look_nil)); done) (fun hg7 => ?_) (fun hg7 => ?_)
  · have hg7' := hg7; simp only [decide_eq_true_eq, decide_eq_false_iff_not, beq_iff_eq, bne_iff_ne, Bool.not_eq_true', Bool.not_eq_false', Bool.not_eq_true, Bool.not_eq_false, beq_eq_false_iff_ne, ne_eq, bne_eq_false_iff_eq, Bool.and_eq_true, Bool.or_eq_true, Bool.not_not] at hg7'
    refine OD.skip (wants_F rfl rfl rfl (by (repeat (first | exact look_hit | (apply look_miss; focus rfl) | exact look_nil)); done) (by first | rfl | assumption)) rfl ?_
    refine OD.skip (wants_F rfl rfl rfl (by (repeat (first | exact look_hit | (apply look_miss; focus rfl) | exact look_nil)); done) (by first | rfl | assumption)) rfl ?_
    refine OD.skip (wants_F rfl rfl rfl (by (repeat (first | exact look_hit | (apply look_miss; focus rfl) | exact look_nil)); done) (by first | rfl | assumption)) rfl ?_
    refine OD.still (wants_plain rfl) rfl (still_pickT rfl (opd_tmp rfl (by (repeat (first | exact look_hit | (apply look_miss; focus rfl) | exact look_nil)); done)) (by first | rfl | assumption) opd_const) ?_
    refine OD.still (wants_plain rfl) rfl (still_as rfl (opd_tmp rfl (by (repeat (first | exact look_hit | (apply look_miss; focus rfl) | exact look_nil)); done))) ?_
    refine OD.wk (Wk.as_ (n := 22) (l' := [(1, _), (3, _)]) (S' := [⟨b1, 27, 3, [_, _, _]⟩]) rfl rfl ⟨(by (repeat (first | exact look_hit | (apply look_miss; focus rfl) | exact look_nil)); done), (by (repeat (first | exact look_hit | (apply look_miss; focus rfl) | exact look_nil)); done), trivial⟩) ?_
    refine OD.nil ?_
    refine CD.cond (opd_tmp rfl (by (repeat (first | exact look_hit | (apply look_miss; focus rfl) | exact look_nil)); done)) (fun hc0 => ?_) (fun hc0 => ?_)
    · have hc0' := hc0
      (try simp only [decide_eq_true_eq, decide_eq_false_iff_not, beq_iff_eq, bne_iff_ne, Bool.not_eq_true', Bool.not_eq_false', Bool.not_eq_true, Bool.not_eq_false, beq_eq_false_iff_ne, ne_eq, bne_eq_false_iff_eq, Bool.and_eq_true, Bool.or_eq_true, Bool.not_not, Bool.and_eq_false_iff, Bool.or_eq_false_iff, Int.not_lt, Int.not_le] at hc0')
      refine CD.seq ?_
      refine CD.region ?_
      refine OD.still (wants_plain rfl) rfl (still_as rfl opd_const) ?_
      refine OD.wk (Wk.as_ (n := 22) (l' := [(2, _)]) (S' := [⟨b1, 27, 3, [_, _, _]⟩]) rfl rfl ⟨(by (repeat (first | exact look_hit | (apply look_miss; focus rfl) | exact look_nil)); done), trivial⟩) ?_
      refine OD.nil ?_
      refine CD.ret ?_
      refine ⟨.inr rfl, _, [], List.nil_sublist _, ret_one Tryd.results25 (res_tmp (Nat.le_of_ble_eq_true rfl) (by (repeat (first | exact look_hit | (apply look_miss; focus rfl) | exact look_nil)); done)), ?_⟩
      refine ⟨?_, rfl⟩; unfold shapeF; simp_all; try ((repeat' split) <;> omega)
    · have hc0' := hc0
      (try simp only [decide_eq_true_eq, decide_eq_false_iff_not, beq_iff_eq, bne_iff_ne, Bool.not_eq_true', Bool.not_eq_false', Bool.not_eq_true, Bool.not_eq_false, beq_eq_false_iff_ne, ne_eq, bne_eq_false_iff_eq, Bool.and_eq_true, Bool.or_eq_true, Bool.not_not, Bool.and_eq_false_iff, Bool.or_eq_false_iff, Int.not_lt, Int.not_le] at hc0')
      refine CD.seq ?_
      refine CD.region ?_
      refine OD.still (wants_plain rfl) rfl (still_r1 (mk := fun y => Op.fieldAddr 27 y 1) rfl (opd_tmp rfl (by (repeat (first | exact look_hit | (apply look_miss; focus rfl) | exact look_nil)); done)) (by first | exact fa_ptr (off := 1) Tryd.runUnderlying27 rfl Tryd.sizeOf9 rfl | exact fa_iptr (off := 1) Tryd.runUnderlying27 rfl Tryd.sizeOf9 rfl)) ?_
      refine OD.still (wants_plain rfl) rfl (still_r1 (mk := Op.load 9) rfl (opd_tmp rfl (by (repeat (first | exact look_hit | (apply look_miss; focus rfl) | exact look_nil)); done)) (by first | exact ld_blk (k := 0) rfl rfl Tryd.isAgg9 rfl | exact ld_i Tryd.isAgg9 rfl)) ?_
      refine OD.still (wants_plain rfl) rfl (still_slen rfl rfl (opd_tmp rfl (by (repeat (first | exact look_hit | (apply look_miss; focus rfl) | exact look_nil)); done)) Tryd.runUnderlying9) ?_
      refine OD.still (wants_plain rfl) rfl (still_bin rfl (opd_tmp rfl (by (repeat (first | exact look_hit | (apply look_miss; focus rfl) | exact look_nil)); done)) opd_const bin_gtr) ?_
      refine OD.still (wants_plain rfl) rfl (still_as rfl (opd_tmp rfl (by (repeat (first | exact look_hit | (apply look_miss; focus rfl) | exact look_nil)); done))) ?_
      refine OD.wk (Wk.as_ (n := 22) (l' := [(1, _), (12, _)]) (S' := [⟨b1, 27, 3, [_, _, _]⟩]) rfl rfl ⟨(by (repeat (first | exact look_hit | (apply look_miss; focus rfl) | exact look_nil)); done), (by (repeat (first | exact look_hit | (apply look_miss; focus rfl) | exact look_nil)); done), trivial⟩) ?_
      refine OD.nil ?_
      refine CD.cond (opd_tmp rfl (by (repeat (first | exact look_hit | (apply look_miss; focus rfl) | exact look_nil)); done)) (fun hc1 => ?_) (fun hc1 => ?_)
      · have hc1' := hc1
        (try simp only [decide_eq_true_eq, decide_eq_false_iff_not, beq_iff_eq, bne_iff_ne, Bool.not_eq_true', Bool.not_eq_false', Bool.not_eq_true, Bool.not_eq_false, beq_eq_false_iff_ne, ne_eq, bne_eq_false_iff_eq, Bool.and_eq_true, Bool.or_eq_true, Bool.not_not, Bool.and_eq_false_iff, Bool.or_eq_false_iff, Int.not_lt, Int.not_le] at hc1')
        refine CD.seq ?_
        refine CD.region ?_
        refine OD.still (wants_plain rfl) rfl (still_as rfl opd_const) ?_
        refine OD.wk (Wk.as_ (n := 22) (l' := [(2, _)]) (S' := [⟨b1, 27, 3, [_, _, _]⟩]) rfl rfl ⟨(by (repeat (first | exact look_hit | (apply look_miss; focus rfl) | exact look_nil)); done), trivial⟩) ?_
        refine OD.nil ?_
        refine CD.ret ?_
        refine ⟨.inr rfl, _, [], List.nil_sublist _, ret_one Tryd.results25 (res_tmp (Nat.le_of_ble_eq_true rfl) (by (repeat (first | exact look_hit | (apply look_miss; focus rfl) | exact look_nil)); done)), ?_⟩
        refine ⟨?_, rfl⟩; unfold shapeF; simp_all; try ((repeat' split) <;> omega)
      · have hc1' := hc1
        (try simp only [decide_eq_true_eq, decide_eq_false_iff_not, beq_iff_eq, bne_iff_ne, Bool.not_eq_true', Bool.not_eq_false', Bool.not_eq_true, Bool.not_eq_false, beq_eq_false_iff_ne, ne_eq, bne_eq_false_iff_eq, Bool.and_eq_true, Bool.or_eq_true, Bool.not_not, Bool.and_eq_false_iff, Bool.or_eq_false_iff, Int.not_lt, Int.not_le] at hc1')
        refine CD.seq ?_
        refine CD.region ?_
        refine OD.still (wants_plain rfl) rfl (still_r1 (mk := fun y => Op.fieldAddr 27 y 2) rfl (opd_tmp rfl (by (repeat (first | exact look_hit | (apply look_miss; focus rfl) | exact look_nil)); done)) (by first | exact fa_ptr (off := 2) Tryd.runUnderlying27 rfl Tryd.sizeOf3 rfl | exact fa_iptr (off := 2) Tryd.runUnderlying27 rfl Tryd.sizeOf3 rfl)) ?_
        refine OD.still (wants_plain rfl) rfl (still_r1 (mk := Op.load 3) rfl (opd_tmp rfl (by (repeat (first | exact look_hit | (apply look_miss; focus rfl) | exact look_nil)); done)) (by first | exact ld_blk (k := 0) rfl rfl Tryd.isAgg3 rfl | exact ld_i Tryd.isAgg3 rfl)) ?_
        refine OD.callP (wants_plain rfl) rfl rfl rfl Tryd.call38 (mode_vp _ _) ⟨(opd_tmp rfl (by (repeat (first | exact look_hit | (apply look_miss; focus rfl) | exact look_nil)); done)), trivial⟩ ?_
        refine OD.still (wants_plain rfl) rfl (still_un rfl (opd_tmp rfl (by (repeat (first | exact look_hit | (apply look_miss; focus rfl) | exact look_nil)); done)) un_not) ?_
        refine OD.still (wants_plain rfl) rfl (still_as rfl (opd_tmp rfl (by (repeat (first | exact look_hit | (apply look_miss; focus rfl) | exact look_nil)); done))) ?_
        refine OD.wk (Wk.as_ (n := 22) (l' := [(17, _)]) (S' := [⟨b1, 27, 3, [_, _, _]⟩]) rfl rfl ⟨(by (repeat (first | exact look_hit | (apply look_miss; focus rfl) | exact look_nil)); done), trivial⟩) ?_
        refine OD.nil ?_
        refine CD.cond (opd_tmp rfl (by (repeat (first | exact look_hit | (apply look_miss; focus rfl) | exact look_nil)); done)) (fun hc2 => ?_) (fun hc2 => ?_)
        · have hc2' := hc2
          (try simp only [decide_eq_true_eq, decide_eq_false_iff_not, beq_iff_eq, bne_iff_ne, Bool.not_eq_true', Bool.not_eq_false', Bool.not_eq_true, Bool.not_eq_false, beq_eq_false_iff_ne, ne_eq, bne_eq_false_iff_eq, Bool.and_eq_true, Bool.or_eq_true, Bool.not_not, Bool.and_eq_false_iff, Bool.or_eq_false_iff, Int.not_lt, Int.not_le] at hc2')
          refine CD.seq ?_
          refine CD.region ?_
          refine OD.still (wants_plain rfl) rfl (still_as rfl opd_const) ?_
          refine OD.wk (Wk.as_ (n := 22) (l' := [(2, _)]) (S' := [⟨b1, 27, 3, [_, _, _]⟩]) rfl rfl ⟨(by (repeat (first | exact look_hit | (apply look_miss; focus rfl) | exact look_nil)); done), trivial⟩) ?_
          refine OD.nil ?_
          refine CD.ret ?_
          refine ⟨.inr rfl, _, [], List.nil_sublist _, ret_one Tryd.results25 (res_tmp (Nat.le_of_ble_eq_true rfl) (by (repeat (first | exact look_hit | (apply look_miss; focus rfl) | exact look_nil)); done)), ?_⟩
          refine ⟨?_, rfl⟩; unfold shapeF; simp_all; try ((repeat' split) <;> omega)
        · have hc2' := hc2
          (try simp only [decide_eq_true_eq, decide_eq_false_iff_not, beq_iff_eq, bne_iff_ne, Bool.not_eq_true', Bool.not_eq_false', Bool.not_eq_true, Bool.not_eq_false, beq_eq_false_iff_ne, ne_eq, bne_eq_false_iff_eq, Bool.and_eq_true, Bool.or_eq_true, Bool.not_not, Bool.and_eq_false_iff, Bool.or_eq_false_iff, Int.not_lt, Int.not_le] at hc2')
          refine CD.skip ?_
          refine CD.seq ?_
          refine CD.region ?_
          refine OD.still (wants_plain rfl) rfl (still_as rfl opd_const) ?_
          refine OD.wk (Wk.as_ (n := 22) (l' := [(2, _)]) (S' := [⟨b1, 27, 3, [_, _, _]⟩]) rfl rfl ⟨(by (repeat (first | exact look_hit | (apply look_miss; focus rfl) | exact look_nil)); done), trivial⟩) ?_
          refine OD.nil ?_
          refine CD.ret ?_
          refine ⟨.inr rfl, _, [], List.nil_sublist _, ret_one Tryd.results25 (res_tmp (Nat.le_of_ble_eq_true rfl) (by (repeat (first | exact look_hit | (apply look_miss; focus rfl) | exact look_nil)); done)), ?_⟩
          refine ⟨?_, rfl⟩; unfold shapeF; simp_all; try ((repeat' split) <;> omega)
  · have hg7' := hg7; simp only [decide_eq_true_eq, decide_eq_false_iff_not, beq_iff_eq, bne_iff_ne, Bool.not_eq_true', Bool.not_eq_false', Bool.not_eq_true, Bool.not_eq_false, beq_eq_false_iff_ne, ne_eq, bne_eq_false_iff_eq, Bool.and_eq_true, Bool.or_eq_true, Bool.not_not] at hg7'
    refine OD.still (wants_T rfl rfl rfl (by (repeat (first | exact look_hit | (apply look_miss; focus rfl) | exact look_nil)); done) (by first | rfl | assumption)) rfl (still_r1 (mk := fun y => Op.fieldAddr 27 y 0) rfl (opd_tmp rfl (by (repeat (first | exact look_hit | (apply look_miss; focus rfl) | exact look_nil)); done)) (by first | exact fa_ptr (off := 0) Tryd.runUnderlying27 rfl Tryd.sizeOf3 rfl | exact fa_iptr (off := 0) Tryd.runUnderlying27 rfl Tryd.sizeOf3 rfl)) ?_
    refine OD.still (wants_T rfl rfl rfl (by (repeat (first | exact look_hit | (apply look_miss; focus rfl) | exact look_nil)); done) (by first | rfl | assumption)) rfl (still_r1 (mk := Op.load 3) rfl (opd_tmp rfl (by (repeat (first | exact look_hit | (apply look_miss; focus rfl) | exact look_nil)); done)) (by first | exact ld_blk (k := 0) rfl rfl Tryd.isAgg3 rfl | exact ld_i Tryd.isAgg3 rfl)) ?_
    refine OD.still (wants_T rfl rfl rfl (by (repeat (first | exact look_hit | (apply look_miss; focus rfl) | exact look_nil)); done) (by first | rfl | assumption)) rfl (still_bin rfl (opd_tmp rfl (by (repeat (first | exact look_hit | (apply look_miss; focus rfl) | exact look_nil)); done)) opd_const bin_gtr) ?_
    first | refine OD.still (wants_plain rfl) rfl (still_pickT rfl (opd_tmp rfl (by (repeat (first | exact look_hit | (apply look_miss; focus rfl) | exact look_nil)); done)) (by first | rfl | assumption) opd_const) ?_ | refine OD.still (wants_plain rfl) rfl (still_pickF rfl (opd_tmp rfl (by (repeat (first | exact look_hit | (apply look_miss; focus rfl) | exact look_nil)); done)) (by first | rfl | assumption) (opd_tmp rfl (by (repeat (first | exact look_hit | (apply look_miss; focus rfl) | exact look_nil)); done))) ?_
    refine OD.still (wants_plain rfl) rfl (still_as rfl (opd_tmp rfl (by (repeat (first | exact look_hit | (apply look_miss; focus rfl) | exact look_nil)); done))) ?_
    refine OD.wk (Wk.as_ (n := 22) (l' := [(1, _), (3, _)]) (S' := [⟨b1, 27, 3, [_, _, _]⟩]) rfl rfl ⟨(by (repeat (first | exact look_hit | (apply look_miss; focus rfl) | exact look_nil)); done), (by (repeat (first | exact look_hit | (apply look_miss; focus rfl) | exact look_nil)); done), trivial⟩) ?_
    refine OD.nil ?_
    refine CD.cond (opd_tmp rfl (by (repeat (first | exact look_hit | (apply look_miss; focus rfl) | exact look_nil)); done)) (fun hc0 => ?_) (fun hc0 => ?_)
    · have hc0' := hc0
      (try simp only [decide_eq_true_eq, decide_eq_false_iff_not, beq_iff_eq, bne_iff_ne, Bool.not_eq_true', Bool.not_eq_false', Bool.not_eq_true, Bool.not_eq_false, beq_eq_false_iff_ne, ne_eq, bne_eq_false_iff_eq, Bool.and_eq_true, Bool.or_eq_true, Bool.not_not, Bool.and_eq_false_iff, Bool.or_eq_false_iff, Int.not_lt, Int.not_le] at hc0')
      refine CD.seq ?_
      refine CD.region ?_
      refine OD.still (wants_plain rfl) rfl (still_as rfl opd_const) ?_
      refine OD.wk (Wk.as_ (n := 22) (l' := [(2, _)]) (S' := [⟨b1, 27, 3, [_, _, _]⟩]) rfl rfl ⟨(by (repeat (first | exact look_hit | (apply look_miss; focus rfl) | exact look_nil)); done), trivial⟩) ?_
      refine OD.nil ?_
      refine CD.ret ?_
      refine ⟨.inr rfl, _, [], List.nil_sublist _, ret_one Tryd.results25 (res_tmp (Nat.le_of_ble_eq_true rfl) (by (repeat (first | exact look_hit | (apply look_miss; focus rfl) | exact look_nil)); done)), ?_⟩
      refine ⟨?_, rfl⟩; unfold shapeF; simp_all; try ((repeat' split) <;> omega)
    · have hc0' := hc0
      (try simp only [decide_eq_true_eq, decide_eq_false_iff_not, beq_iff_eq, bne_iff_ne, Bool.not_eq_true', Bool.not_eq_false', Bool.not_eq_true, Bool.not_eq_false, beq_eq_false_iff_ne, ne_eq, bne_eq_false_iff_eq, Bool.and_eq_true, Bool.or_eq_true, Bool.not_not, Bool.and_eq_false_iff, Bool.or_eq_false_iff, Int.not_lt, Int.not_le] at hc0')
      refine CD.seq ?_
      refine CD.region ?_
      refine OD.still (wants_plain rfl) rfl (still_r1 (mk := fun y => Op.fieldAddr 27 y 1) rfl (opd_tmp rfl (by (repeat (first | exact look_hit | (apply look_miss; focus rfl) | exact look_nil)); done)) (by first | exact fa_ptr (off := 1) Tryd.runUnderlying27 rfl Tryd.sizeOf9 rfl | exact fa_iptr (off := 1) Tryd.runUnderlying27 rfl Tryd.sizeOf9 rfl)) ?_
      refine OD.still (wants_plain rfl) rfl (still_r1 (mk := Op.load 9) rfl (opd_tmp rfl (by (repeat (first | exact look_hit | (apply look_miss; focus rfl) | exact look_nil)); done)) (by first | exact ld_blk (k := 0) rfl rfl Tryd.isAgg9 rfl | exact ld_i Tryd.isAgg9 rfl)) ?_
      refine OD.still (wants_plain rfl) rfl (still_slen rfl rfl (opd_tmp rfl (by (repeat (first | exact look_hit | (apply look_miss; focus rfl) | exact look_nil)); done)) Tryd.runUnderlying9) ?_
      refine OD.still (wants_plain rfl) rfl (still_bin rfl (opd_tmp rfl (by (repeat (first | exact look_hit | (apply look_miss; focus rfl) | exact look_nil)); done)) opd_const bin_gtr) ?_
      refine OD.still (wants_plain rfl) rfl (still_as rfl (opd_tmp rfl (by (repeat (first | exact look_hit | (apply look_miss; focus rfl) | exact look_nil)); done))) ?_
      refine OD.wk (Wk.as_ (n := 22) (l' := [(1, _), (12, _)]) (S' := [⟨b1, 27, 3, [_, _, _]⟩]) rfl rfl ⟨(by (repeat (first | exact look_hit | (apply look_miss; focus rfl) | exact look_nil)); done), (by (repeat (first | exact look_hit | (apply look_miss; focus rfl) | exact look_nil)); done), trivial⟩) ?_
      refine OD.nil ?_
      refine CD.cond (opd_tmp rfl (by (repeat (first | exact look_hit | (apply look_miss; focus rfl) | exact look_nil)); done)) (fun hc1 => ?_) (fun hc1 => ?_)
      · have hc1' := hc1
        (try simp only [decide_eq_true_eq, decide_eq_false_iff_not, beq_iff_eq, bne_iff_ne, Bool.not_eq_true', Bool.not_eq_false', Bool.not_eq_true, Bool.not_eq_false, beq_eq_false_iff_ne, ne_eq, bne_eq_false_iff_eq, Bool.and_eq_true, Bool.or_eq_true, Bool.not_not, Bool.and_eq_false_iff, Bool.or_eq_false_iff, Int.not_lt, Int.not_le] at hc1')
        refine CD.seq ?_
        refine CD.region ?_
        refine OD.still (wants_plain rfl) rfl (still_as rfl opd_const) ?_
        refine OD.wk (Wk.as_ (n := 22) (l' := [(2, _)]) (S' := [⟨b1, 27, 3, [_, _, _]⟩]) rfl rfl ⟨(by (repeat (first | exact look_hit | (apply look_miss; focus rfl) | exact look_nil)); done), trivial⟩) ?_
        refine OD.nil ?_
        refine CD.ret ?_
        refine ⟨.inr rfl, _, [], List.nil_sublist _, ret_one Tryd.results25 (res_tmp (Nat.le_of_ble_eq_true rfl) (by (repeat (first | exact look_hit | (apply look_miss; focus rfl) | exact look_nil)); done)), ?_⟩
        refine ⟨?_, rfl⟩; unfold shapeF; simp_all; try ((repeat' split) <;> omega)
      · have hc1' := hc1
        (try simp only [decide_eq_true_eq, decide_eq_false_iff_not, beq_iff_eq, bne_iff_ne, Bool.not_eq_true', Bool.not_eq_false', Bool.not_eq_true, Bool.not_eq_false, beq_eq_false_iff_ne, ne_eq, bne_eq_false_iff_eq, Bool.and_eq_true, Bool.or_eq_true, Bool.not_not, Bool.and_eq_false_iff, Bool.or_eq_false_iff, Int.not_lt, Int.not_le] at hc1')
        refine CD.seq ?_
        refine CD.region ?_
        refine OD.still (wants_plain rfl) rfl (still_r1 (mk := fun y => Op.fieldAddr 27 y 2) rfl (opd_tmp rfl (by (repeat (first | exact look_hit | (apply look_miss; focus rfl) | exact look_nil)); done)) (by first | exact fa_ptr (off := 2) Tryd.runUnderlying27 rfl Tryd.sizeOf3 rfl | exact fa_iptr (off := 2) Tryd.runUnderlying27 rfl Tryd.sizeOf3 rfl)) ?_
        refine OD.still (wants_plain rfl) rfl (still_r1 (mk := Op.load 3) rfl (opd_tmp rfl (by (repeat (first | exact look_hit | (apply look_miss; focus rfl) | exact look_nil)); done)) (by first | exact ld_blk (k := 0) rfl rfl Tryd.isAgg3 rfl | exact ld_i Tryd.isAgg3 rfl)) ?_
        refine OD.callP (wants_plain rfl) rfl rfl rfl Tryd.call38 (mode_vp _ _) ⟨(opd_tmp rfl (by (repeat (first | exact look_hit | (apply look_miss; focus rfl) | exact look_nil)); done)), trivial⟩ ?_
        refine OD.still (wants_plain rfl) rfl (still_un rfl (opd_tmp rfl (by (repeat (first | exact look_hit | (apply look_miss; focus rfl) | exact look_nil)); done)) un_not) ?_
        refine OD.still (wants_plain rfl) rfl (still_as rfl (opd_tmp rfl (by (repeat (first | exact look_hit | (apply look_miss; focus rfl) | exact look_nil)); done))) ?_
        refine OD.wk (Wk.as_ (n := 22) (l' := [(17, _)]) (S' := [⟨b1, 27, 3, [_, _, _]⟩]) rfl rfl ⟨(by (repeat (first | exact look_hit | (apply look_miss; focus rfl) | exact look_nil)); done), trivial⟩) ?_
        refine OD.nil ?_
        refine CD.cond (opd_tmp rfl (by (repeat (first | exact look_hit | (apply look_miss; focus rfl) | exact look_nil)); done)) (fun hc2 => ?_) (fun hc2 => ?_)
        · have hc2' := hc2
          (try simp only [decide_eq_true_eq, decide_eq_false_iff_not, beq_iff_eq, bne_iff_ne, Bool.not_eq_true', Bool.not_eq_false', Bool.not_eq_true, Bool.not_eq_false, beq_eq_false_iff_ne, ne_eq, bne_eq_false_iff_eq, Bool.and_eq_true, Bool.or_eq_true, Bool.not_not, Bool.and_eq_false_iff, Bool.or_eq_false_iff, Int.not_lt, Int.not_le] at hc2')
          refine CD.seq ?_
          refine CD.region ?_
          refine OD.still (wants_plain rfl) rfl (still_as rfl opd_const) ?_
          refine OD.wk (Wk.as_ (n := 22) (l' := [(2, _)]) (S' := [⟨b1, 27, 3, [_, _, _]⟩]) rfl rfl ⟨(by (repeat (first | exact look_hit | (apply look_miss; focus rfl) | exact look_nil)); done), trivial⟩) ?_
          refine OD.nil ?_
          refine CD.ret ?_
          refine ⟨.inr rfl, _, [], List.nil_sublist _, ret_one Tryd.results25 (res_tmp (Nat.le_of_ble_eq_true rfl) (by (repeat (first | exact look_hit | (apply look_miss; focus rfl) | exact look_nil)); done)), ?_⟩
          refine ⟨?_, rfl⟩; unfold shapeF; simp_all; try ((repeat' split) <;> omega)
        · have hc2' := hc2
          (try simp only [decide_eq_true_eq, decide_eq_false_iff_not, beq_iff_eq, bne_iff_ne, Bool.not_eq_true', Bool.not_eq_false', Bool.not_eq_true, Bool.not_eq_false, beq_eq_false_iff_ne, ne_eq, bne_eq_false_iff_eq, Bool.and_eq_true, Bool.or_eq_true, Bool.not_not, Bool.and_eq_false_iff, Bool.or_eq_false_iff, Int.not_lt, Int.not_le] at hc2')
          refine CD.skip ?_
          refine CD.seq ?_
          refine CD.region ?_
          refine OD.still (wants_plain rfl) rfl (still_as rfl opd_const) ?_
          refine OD.wk (Wk.as_ (n := 22) (l' := [(2, _)]) (S' := [⟨b1, 27, 3, [_, _, _]⟩]) rfl rfl ⟨(by (repeat (first | exact look_hit | (apply look_miss; focus rfl) | exact look_nil)); done), trivial⟩) ?_
          refine OD.nil ?_
          refine CD.ret ?_
          refine ⟨.inr rfl, _, [], List.nil_sublist _, ret_one Tryd.results25 (res_tmp (Nat.le_of_ble_eq_true rfl) (by (repeat (first | exact look_hit | (apply look_miss; focus rfl) | exact look_nil)); done)), ?_⟩
          refine ⟨?_, rfl⟩; unfold shapeF; simp_all; try ((repeat' split) <;> omega)

theorem find1_vc (x : L) (t : Int) (th : ByteArray) (b b' : Nat) : VC Tryd.prog G 46 [lockD x, .v (.pointer (some ⟨b, 0, none⟩)), .v (.pointer (some ⟨b', 0, none⟩))] [⟨b, 3, 1, [.v (.int .i64 t)]⟩, ⟨b', 9, 1, [.v (.string th)]⟩] (fun r S => r = .v (.bool (hasK t th x)) ∧ S = [⟨b, 3, 1, [.v (.int .i64 t)]⟩, ⟨b', 9, 1, [.v (.string th)]⟩]) := by
  refine VC.body Tryd.func46 rfl Tryd.ntmps46 (Nat.le_of_ble_eq_true rfl) fun X0 w0 S00 => ?_
  unfold lockD cL
  refine CD.seq ?_
  refine CD.region ?_
  refine OD.box (ds := [_, _, _]) (wants_plain rfl) rfl rfl (opd_tmp rfl (by (repeat (first | exact look_hit | (apply look_miss; focus rfl) | exact look_nil)); done)) rfl rfl (fun b3 => ?_)
  refine OD.still (wants_plain rfl) rfl (still_as rfl opd_const) ?_
  refine OD.wk (Wk.as_ (n := 15) (l' := [(1, _), (2, _), (3, _)]) (S' := [⟨b3, 27, 3, [_, _, _]⟩, ⟨_, _, _, [_]⟩, ⟨_, _, _, [_]⟩]) rfl rfl ⟨(by (repeat (first | exact look_hit | (apply look_miss; focus rfl) | exact look_nil)); done), (by (repeat (first | exact look_hit | (apply look_miss; focus rfl) | exact look_nil)); done), (by (repeat (first | exact look_hit | (apply look_miss; focus rfl) | exact look_nil)); done), trivial⟩) ?_
  refine OD.nil ?_
  refine CD.seq ?_
  refine CD.region ?_
  refine OD.still (wants_plain rfl) rfl (still_r1 (mk := fun y => Op.fieldAddr 27 y 0) rfl (opd_tmp rfl (by (repeat (first | exact look_hit | (apply look_miss; focus rfl) | exact look_nil)); done)) (by first | exact fa_ptr (off := 0) Tryd.runUnderlying27 rfl Tryd.sizeOf3 rfl | exact fa_iptr (off := 0) Tryd.runUnderlying27 rfl Tryd.sizeOf3 rfl)) ?_
  refine OD.still (wants_plain rfl) rfl (still_r1 (mk := Op.load 3) rfl (opd_tmp rfl (by (repeat (first | exact look_hit | (apply look_miss; focus rfl) | exact look_nil)); done)) (by first | exact ld_blk (k := 0) rfl rfl Tryd.isAgg3 rfl | exact ld_i Tryd.isAgg3 rfl)) ?_
  refine OD.still (wants_plain rfl) rfl (still_r1 (mk := Op.load 3) rfl (opd_tmp rfl (by (repeat (first | exact look_hit | (apply look_miss; focus rfl) | exact look_nil)); done)) (by first | exact ld_blk (k := 1) rfl rfl Tryd.isAgg3 rfl | exact ld_i Tryd.isAgg3 rfl)) ?_
  refine OD.still (wants_plain rfl) rfl (still_bin rfl (opd_tmp rfl (by (repeat (first | exact look_hit | (apply look_miss; focus rfl) | exact look_nil)); done)) (opd_tmp rfl (by (repeat (first | exact look_hit | (apply look_miss; focus rfl) | exact look_nil)); done)) bin_eql) ?_
  refine OD.still (wants_plain rfl) rfl (still_mv rfl (opd_tmp rfl (by (repeat (first | exact look_hit | (apply look_miss; focus rfl) | exact look_nil)); done))) ?_
  refine OD.split (t := 9) (by (repeat (first | exact look_hit | (apply look_miss; focus rfl) | exact look_nil)); done) (fun hg9 => ?_) (fun hg9 => ?_)
  · have hg9' := hg9; simp only [decide_eq_true_eq, decide_eq_false_iff_not, beq_iff_eq, bne_iff_ne, Bool.not_eq_true', Bool.not_eq_false', Bool.not_eq_true, Bool.not_eq_false, beq_eq_false_iff_ne, ne_eq, bne_eq_false_iff_eq, Bool.and_eq_true, Bool.or_eq_true, Bool.not_not] at hg9'
    refine OD.still (wants_T rfl rfl rfl (by (repeat (first | exact look_hit | (apply look_miss; focus rfl) | exact look_nil)); done) (by first | rfl | assumption)) rfl (still_r1 (mk := fun y => Op.fieldAddr 27 y 1) rfl (opd_tmp rfl (by (repeat (first | exact look_hit | (apply look_miss; focus rfl) | exact look_nil)); done)) (by first | exact fa_ptr (off := 1) Tryd.runUnderlying27 rfl Tryd.sizeOf9 rfl | exact fa_iptr (off := 1) Tryd.runUnderlying27 rfl Tryd.sizeOf9 rfl)) ?_
    refine OD.still (wants_T rfl rfl rfl (by (repeat (first | exact look_hit | (apply look_miss; focus rfl) | exact look_nil)); done) (by first | rfl | assumption)) rfl (still_r1 (mk := Op.load 9) rfl (opd_tmp rfl (by (repeat (first | exact look_hit | (apply look_miss; focus rfl) | exact look_nil)); done)) (by first | exact ld_blk (k := 0) rfl rfl Tryd.isAgg9 rfl | exact ld_i Tryd.isAgg9 rfl)) ?_
    refine OD.still (wants_T rfl rfl rfl (by (repeat (first | exact look_hit | (apply look_miss; focus rfl) | exact look_nil)); done) (by first | rfl | assumption)) rfl (still_r1 (mk := Op.load 9) rfl (opd_tmp rfl (by (repeat (first | exact look_hit | (apply look_miss; focus rfl) | exact look_nil)); done)) (by first | exact ld_blk (k := 2) rfl rfl Tryd.isAgg9 rfl | exact ld_i Tryd.isAgg9 rfl)) ?_
    refine OD.still (wants_T rfl rfl rfl (by (repeat (first | exact look_hit | (apply look_miss; focus rfl) | exact look_nil)); done) (by first | rfl | assumption)) rfl (still_bin rfl (opd_tmp rfl (by (repeat (first | exact look_hit | (apply look_miss; focus rfl) | exact look_nil)); done)) (opd_tmp rfl (by (repeat (first | exact look_hit | (apply look_miss; focus rfl) | exact look_nil)); done)) bin_seql) ?_
    refine OD.still (wants_plain rfl) rfl (still_pickT rfl (opd_tmp rfl (by (repeat (first | exact look_hit | (apply look_miss; focus rfl) | exact look_nil)); done)) (by first | rfl | assumption) (opd_tmp rfl (by (repeat (first | exact look_hit | (apply look_miss; focus rfl) | exact look_nil)); done))) ?_
    refine OD.still (wants_plain rfl) rfl (still_as rfl (opd_tmp rfl (by (repeat (first | exact look_hit | (apply look_miss; focus rfl) | exact look_nil)); done))) ?_
    refine OD.wk (Wk.as_ (n := 15) (l' := [(4, _)]) (S' := [⟨b3, 27, 3, [_, _, _]⟩, ⟨_, _, _, [_]⟩, ⟨_, _, _, [_]⟩]) rfl rfl ⟨(by (repeat (first | exact look_hit | (apply look_miss; focus rfl) | exact look_nil)); done), trivial⟩) ?_
    refine OD.nil ?_
    refine CD.ret ?_
    refine ⟨.inr rfl, _, [⟨b, 3, 1, [.v (.int .i64 t)]⟩, ⟨b', 9, 1, [.v (.string th)]⟩], (by repeat (first | exact List.Sublist.refl _ | apply List.Sublist.cons)), ret_one Tryd.results46 (res_tmp (Nat.le_of_ble_eq_true rfl) (by (repeat (first | exact look_hit | (apply look_miss; focus rfl) | exact look_nil)); done)), ?_⟩
    refine ⟨?_, rfl⟩; unfold hasK; simp [*]
  · have hg9' := hg9; simp only [decide_eq_true_eq, decide_eq_false_iff_not, beq_iff_eq, bne_iff_ne, Bool.not_eq_true', Bool.not_eq_false', Bool.not_eq_true, Bool.not_eq_false, beq_eq_false_iff_ne, ne_eq, bne_eq_false_iff_eq, Bool.and_eq_true, Bool.or_eq_true, Bool.not_not] at hg9'
    refine OD.skip (wants_F rfl rfl rfl (by (repeat (first | exact look_hit | (apply look_miss; focus rfl) | exact look_nil)); done) (by first | rfl | assumption)) rfl ?_
    refine OD.skip (wants_F rfl rfl rfl (by (repeat (first | exact look_hit | (apply look_miss; focus rfl) | exact look_nil)); done) (by first | rfl | assumption)) rfl ?_
    refine OD.skip (wants_F rfl rfl rfl (by (repeat (first | exact look_hit | (apply look_miss; focus rfl) | exact look_nil)); done) (by first | rfl | assumption)) rfl ?_
    refine OD.skip (wants_F rfl rfl rfl (by (repeat (first | exact look_hit | (apply look_miss; focus rfl) | exact look_nil)); done) (by first | rfl | assumption)) rfl ?_
    refine OD.still (wants_plain rfl) rfl (still_pickF rfl (opd_tmp rfl (by (repeat (first | exact look_hit | (apply look_miss; focus rfl) | exact look_nil)); done)) (by first | rfl | assumption) opd_const) ?_
    refine OD.still (wants_plain rfl) rfl (still_as rfl (opd_tmp rfl (by (repeat (first | exact look_hit | (apply look_miss; focus rfl) | exact look_nil)); done))) ?_
    refine OD.wk (Wk.as_ (n := 15) (l' := [(4, _)]) (S' := [⟨b3, 27, 3, [_, _, _]⟩, ⟨_, _, _, [_]⟩, ⟨_, _, _, [_]⟩]) rfl rfl ⟨(by (repeat (first | exact look_hit | (apply look_miss; focus rfl) | exact look_nil)); done), trivial⟩) ?_
    refine OD.nil ?_
    refine CD.ret ?_
    refine ⟨.inr rfl, _, [⟨b, 3, 1, [.v (.int .i64 t)]⟩, ⟨b', 9, 1, [.v (.string th)]⟩], (by repeat (first | exact List.Sublist.refl _ | apply List.Sublist.cons)), ret_one Tryd.results46 (res_tmp (Nat.le_of_ble_eq_true rfl) (by (repeat (first | exact look_hit | (apply look_miss; focus rfl) | exact look_nil)); done)), ?_⟩
    refine ⟨?_, rfl⟩; unfold hasK; simp [*]

def idxI (p : L → Bool) (ls : List L) : Int := match ls.findIdx? p with | some i => i | none => -1
theorem idxI_hit {p : L → Bool} {ls : List L} {k : Nat} (hk : k < ls.length) (h0 : ∀ x ∈ ls.take k, p x = false) (h1 : p ls[k] = true) : idxI p ls = k := by
  have : ls.findIdx? p = some k := by
    rw [List.findIdx?_eq_some_iff_getElem]
    refine ⟨hk, h1, fun j hj => ?_⟩
    have := h0 ls[j] (List.mem_take_iff_getElem.2 ⟨j, by omega, rfl⟩)
    simp [this]
  simp [idxI, this]
theorem idxI_none {p : L → Bool} {ls : List L} {k : Nat} (hk : ¬ (k < ls.length)) (h0 : ∀ x ∈ ls.take k, p x = false) : idxI p ls = -1 := by
  have : ls.findIdx? p = none := by
    rw [List.findIdx?_eq_none_iff]
    intro x hx
    rw [List.take_of_length_le (by omega)] at h0
    exact h0 x hx
  simp [idxI, this]
theorem idxI_any {p : L → Bool} {ls : List L} : decide (idxI p ls ≥ 0) = ls.any p := by
  unfold idxI
  cases h : ls.findIdx? p with
  | none =>
    have := List.findIdx?_eq_none_iff.1 h
    simp; exact this
  | some i =>
    obtain ⟨h1, h2, _⟩ := List.findIdx?_eq_some_iff_getElem.1 h
    simp only [ge_iff_le, Int.natCast_nonneg, decide_true]
    exact (List.any_eq_true.2 ⟨_, List.getElem_mem h1, h2⟩).symm
theorem findI_idx {ls : List L} {t : Int} {th : ByteArray} : findI ls t th = idxI (hasK t th) ls := rfl

theorem index_vc (ls : List L) (g : Nat) (caps : List D) (S : List Blk) (p : L → Bool) (hcall : ∀ args w, (callFunc g args).run Tryd.prog w = .ok (.enter g args) w) (hp : ∀ x ∈ ls, VC Tryd.prog G g (lockD x :: caps) S (fun r S' => r = .v (.bool (p x)) ∧ S' = S)) (hlen : ls.length ≤ 1000000) : VC Tryd.prog G 43 [locksD ls, .clo (.func g) caps] S (fun r S' => r = .v (.int .i64 (idxI p ls)) ∧ S' = S) := by
  refine VC.body Tryd.func43 rfl Tryd.ntmps43 (Nat.le_of_ble_eq_true rfl) fun X0 w0 S00 => ?_
  unfold locksD
  unfold lockD at hp
  refine CD.seq ?_
  refine CD.region ?_
  refine OD.still (wants_plain rfl) rfl (still_as rfl opd_const) ?_
  refine OD.wk (Wk.as_ (n := 19) (l' := [(0, _), (1, _)]) (S' := S) rfl (by first | rfl | simp [St.put]) ⟨(by (repeat (first | exact look_hit | (apply look_miss; focus rfl) | exact look_nil)); done), (by (repeat (first | exact look_hit | (apply look_miss; focus rfl) | exact look_nil)); done), trivial⟩) ?_
  refine OD.nil ?_
  refine CD.seq ?_
  refine CD.seq ?_
  refine CD.region ?_
  refine OD.still (wants_plain rfl) rfl (still_mv rfl (opd_tmp rfl (by (repeat (first | exact look_hit | (apply look_miss; focus rfl) | exact look_nil)); done))) ?_
  refine OD.still (wants_plain rfl) rfl (still_r1 (mk := fun y => .call { callee := .builtin .len, args := #[y], argTypes := #[23] }) rfl (opd_tmp rfl (by (repeat (first | exact look_hit | (apply look_miss; focus rfl) | exact look_nil)); done)) (by first | exact len_list rfl Tryd.runUnderlying23 | exact len_row rfl Tryd.runUnderlying23)) ?_
  refine OD.still (wants_plain rfl) rfl (still_mv rfl opd_const) ?_
  refine OD.wk (Wk.as_ (n := 19) (l' := [(0, _), (1, _), (7, _), (8, _)]) (S' := S) rfl (by first | rfl | simp [St.put]) ⟨(by (repeat (first | exact look_hit | (apply look_miss; focus rfl) | exact look_nil)); done), (by (repeat (first | exact look_hit | (apply look_miss; focus rfl) | exact look_nil)); done), (by (repeat (first | exact look_hit | (apply look_miss; focus rfl) | exact look_nil)); done), (by (repeat (first | exact look_hit | (apply look_miss; focus rfl) | exact look_nil)); done), trivial⟩) ?_
  refine OD.nil ?_
  refine CD.block ?_
  refine CD.wk (Wk.asS (n := 19) (l' := [(0, .list 3 (ls.flatMap cL) ls.length), (1, .clo (.func g) caps), (7, .v (.int .i64 ls.length)), (8, .v (.int .i64 ((0) : Nat)))]) (S' := S) rfl (by repeat (first | exact List.Sublist.refl _ | apply List.Sublist.cons)) ⟨(by (repeat (first | exact look_hit | (apply look_at; focus (first | rfl | (simp; done) | (congr 2; omega))) | (apply look_miss; focus rfl))); done), (by (repeat (first | exact look_hit | (apply look_at; focus (first | rfl | (simp; done) | (congr 2; omega))) | (apply look_miss; focus rfl))); done), (by (repeat (first | exact look_hit | (apply look_at; focus (first | rfl | (simp; done) | (congr 2; omega))) | (apply look_miss; focus rfl))); done), (by (repeat (first | exact look_hit | (apply look_at; focus (first | rfl | (simp; done) | (congr 2; omega))) | (apply look_miss; focus rfl))); done), trivial⟩) (CD.loop (fun (k : Nat) y__ => (k ≤ ls.length) ∧ (∀ x ∈ ls.take k, p x = false) ∧ y__ = (⟨19, [(0, .list 3 (ls.flatMap cL) ls.length), (1, .clo (.func g) caps), (7, .v (.int .i64 ls.length)), (8, .v (.int .i64 (k : Nat)))], S⟩ : St)) (fun (k : Nat) => ls.length - k) 0 ⟨Nat.zero_le _, (by simp), rfl⟩ ?_)
  rintro k _ ⟨hk, h0, rfl⟩
  refine CD.seq ?_
  refine CD.region ?_
  refine OD.still (wants_plain rfl) rfl (still_bin rfl (opd_tmp rfl (by (repeat (first | exact look_hit | (apply look_miss; focus rfl) | exact look_nil)); done)) (opd_tmp rfl (by (repeat (first | exact look_hit | (apply look_miss; focus rfl) | exact look_nil)); done)) bin_lss) ?_
  refine OD.wk (Wk.as_ (n := 19) (l' := [(0, _), (1, _), (7, _), (8, _), (9, _)]) (S' := S) rfl (by first | rfl | simp [St.put]) ⟨(by (repeat (first | exact look_hit | (apply look_miss; focus rfl) | exact look_nil)); done), (by (repeat (first | exact look_hit | (apply look_miss; focus rfl) | exact look_nil)); done), (by (repeat (first | exact look_hit | (apply look_miss; focus rfl) | exact look_nil)); done), (by (repeat (first | exact look_hit | (apply look_miss; focus rfl) | exact look_nil)); done), (by (repeat (first | exact look_hit | (apply look_miss; focus rfl) | exact look_nil)); done), trivial⟩) ?_
  refine OD.nil ?_
  refine CD.seq ?_
  refine CD.cond (opd_tmp rfl (by (repeat (first | exact look_hit | (apply look_miss; focus rfl) | exact look_nil)); done)) (fun hc0 => ?_) (fun hc0 => ?_)
  · have hc0' := hc0
    (try simp only [decide_eq_true_eq, decide_eq_false_iff_not, beq_iff_eq, bne_iff_ne, Bool.not_eq_true', Bool.not_eq_false', Bool.not_eq_true, Bool.not_eq_false, beq_eq_false_iff_ne, ne_eq, bne_eq_false_iff_eq, Bool.and_eq_true, Bool.or_eq_true, Bool.not_not, Bool.and_eq_false_iff, Bool.or_eq_false_iff, Int.not_lt, Int.not_le] at hc0')
    refine CD.skip ?_
    refine CD.seq ?_
    refine CD.block ?_
    refine CD.seq ?_
    refine CD.region ?_
    refine OD.still (wants_plain rfl) rfl (still_mv rfl (opd_tmp rfl (by (repeat (first | exact look_hit | (apply look_miss; focus rfl) | exact look_nil)); done))) ?_
    refine OD.still (wants_plain rfl) rfl (still_as rfl (opd_tmp rfl (by (repeat (first | exact look_hit | (apply look_miss; focus rfl) | exact look_nil)); done))) ?_
    refine OD.wk (Wk.as_ (n := 19) (l' := [(0, _), (1, _), (5, _), (7, _), (8, _)]) (S' := S) rfl (by first | rfl | simp [St.put]) ⟨(by (repeat (first | exact look_hit | (apply look_miss; focus rfl) | exact look_nil)); done), (by (repeat (first | exact look_hit | (apply look_miss; focus rfl) | exact look_nil)); done), (by (repeat (first | exact look_hit | (apply look_miss; focus rfl) | exact look_nil)); done), (by (repeat (first | exact look_hit | (apply look_miss; focus rfl) | exact look_nil)); done), (by (repeat (first | exact look_hit | (apply look_miss; focus rfl) | exact look_nil)); done), trivial⟩) ?_
    refine OD.nil ?_
    refine CD.seq ?_
    refine CD.region ?_
    refine OD.still (wants_plain rfl) rfl (still_mv rfl (opd_tmp rfl (by (repeat (first | exact look_hit | (apply look_miss; focus rfl) | exact look_nil)); done))) ?_
    refine OD.still (wants_plain rfl) rfl (still_mv rfl (opd_tmp rfl (by (repeat (first | exact look_hit | (apply look_miss; focus rfl) | exact look_nil)); done))) ?_
    refine OD.still (wants_plain rfl) rfl (still_mv rfl (opd_tmp rfl (by (repeat (first | exact look_hit | (apply look_miss; focus rfl) | exact look_nil)); done))) ?_
    refine OD.still (wants_plain rfl) rfl (still_r2 (mk := Op.indexAddr 23) rfl (opd_tmp rfl (by (repeat (first | exact look_hit | (apply look_miss; focus rfl) | exact look_nil)); done)) (opd_tmp rfl (by (repeat (first | exact look_hit | (apply look_miss; focus rfl) | exact look_nil)); done)) (by first | exact ix_list Tryd.runUnderlying23 Tryd.sizeOf27 rfl (by first | assumption | omega) | exact ix_list (j := Int.toNat _) Tryd.runUnderlying23 Tryd.sizeOf27 (Int.toNat_of_nonneg (by omega)).symm (by omega) | exact ix_row Tryd.runUnderlying23 Tryd.sizeOf27 rfl (by first | assumption | omega) | exact ix_row (j := Int.toNat _) Tryd.runUnderlying23 Tryd.sizeOf27 (Int.toNat_of_nonneg (by omega)).symm (by omega))) ?_
    refine OD.still (wants_plain rfl) rfl (still_r1 (mk := Op.load 27) rfl (opd_tmp rfl (by (repeat (first | exact look_hit | (apply look_miss; focus rfl) | exact look_nil)); done)) (by first | exact ld_fms cL_len Tryd.isAgg27 Tryd.sizeOf27 (by first | assumption | omega) | exact ld_is (ds := [_, _, _]) Tryd.isAgg27 Tryd.sizeOf27 rfl rfl)) ?_
    refine OD.callv (f := g) (args := [_]) (wants_plain rfl) rfl rfl (opd_tmp rfl (by (repeat (first | exact look_hit | (apply look_miss; focus rfl) | exact look_nil)); done)) hcall (hp (ls[k]'(by omega)) (List.getElem_mem _)) rfl ⟨opd_tmp rfl (by (repeat (first | exact look_hit | (apply look_miss; focus rfl) | exact look_nil)); done), trivial⟩ (perm_all _) ?_; rintro _ S2 ⟨rfl, hS2⟩; rw [hS2]; clear hS2
    refine OD.wk (Wk.as_ (n := 19) (l' := [(0, _), (1, _), (5, _), (7, _), (8, _), (16, _)]) (S' := S) rfl (by first | rfl | simp [St.put]) ⟨(by (repeat (first | exact look_hit | (apply look_miss; focus rfl) | exact look_nil)); done), (by (repeat (first | exact look_hit | (apply look_miss; focus rfl) | exact look_nil)); done), (by (repeat (first | exact look_hit | (apply look_miss; focus rfl) | exact look_nil)); done), (by (repeat (first | exact look_hit | (apply look_miss; focus rfl) | exact look_nil)); done), (by (repeat (first | exact look_hit | (apply look_miss; focus rfl) | exact look_nil)); done), (by (repeat (first | exact look_hit | (apply look_miss; focus rfl) | exact look_nil)); done), trivial⟩) ?_
    refine OD.nil ?_
    refine CD.cond (opd_tmp rfl (by (repeat (first | exact look_hit | (apply look_miss; focus rfl) | exact look_nil)); done)) (fun hc1 => ?_) (fun hc1 => ?_)
    · have hc1' := hc1
      (try simp only [decide_eq_true_eq, decide_eq_false_iff_not, beq_iff_eq, bne_iff_ne, Bool.not_eq_true', Bool.not_eq_false', Bool.not_eq_true, Bool.not_eq_false, beq_eq_false_iff_ne, ne_eq, bne_eq_false_iff_eq, Bool.and_eq_true, Bool.or_eq_true, Bool.not_not, Bool.and_eq_false_iff, Bool.or_eq_false_iff, Int.not_lt, Int.not_le] at hc1')
      refine CD.seq ?_
      refine CD.region ?_
      refine OD.still (wants_plain rfl) rfl (still_mv rfl (opd_tmp rfl (by (repeat (first | exact look_hit | (apply look_miss; focus rfl) | exact look_nil)); done))) ?_
      refine OD.still (wants_plain rfl) rfl (still_as rfl (opd_tmp rfl (by (repeat (first | exact look_hit | (apply look_miss; focus rfl) | exact look_nil)); done))) ?_
      refine OD.wk (Wk.as_ (n := 19) (l' := [(4, _)]) (S' := S) rfl (by first | rfl | simp [St.put]) ⟨(by (repeat (first | exact look_hit | (apply look_miss; focus rfl) | exact look_nil)); done), trivial⟩) ?_
      refine OD.nil ?_
      refine CD.ret ?_
      refine ⟨.inr rfl, _, S, (by repeat (first | exact List.Sublist.refl _ | apply List.Sublist.cons)), ret_one Tryd.results43 (res_tmp (Nat.le_of_ble_eq_true rfl) (by (repeat (first | exact look_hit | (apply look_miss; focus rfl) | exact look_nil)); done)), ?_⟩
      refine ⟨?_, rfl⟩; first | (rw [idxI_hit (by omega) h0 (by assumption)]) | (rw [idxI_none (by omega) h0])
    · have hc1' := hc1
      (try simp only [decide_eq_true_eq, decide_eq_false_iff_not, beq_iff_eq, bne_iff_ne, Bool.not_eq_true', Bool.not_eq_false', Bool.not_eq_true, Bool.not_eq_false, beq_eq_false_iff_ne, ne_eq, bne_eq_false_iff_eq, Bool.and_eq_true, Bool.or_eq_true, Bool.not_not, Bool.and_eq_false_iff, Bool.or_eq_false_iff, Int.not_lt, Int.not_le] at hc1')
      refine CD.skip ?_
      refine CD.region ?_
      refine OD.still (wants_plain rfl) rfl (still_bin rfl (opd_tmp rfl (by (repeat (first | exact look_hit | (apply look_miss; focus rfl) | exact look_nil)); done)) opd_const (bin_add (wrap_i64 (by omega) (by omega)))) ?_
      refine OD.still (wants_plain rfl) rfl (still_mv rfl (opd_tmp rfl (by (repeat (first | exact look_hit | (apply look_miss; focus rfl) | exact look_nil)); done))) ?_
      refine OD.wk (Wk.as_ (n := 19) (l' := [(0, _), (1, _), (7, _), (8, _)]) (S' := S) rfl (by first | rfl | simp [St.put]) ⟨(by (repeat (first | exact look_hit | (apply look_miss; focus rfl) | exact look_nil)); done), (by (repeat (first | exact look_hit | (apply look_miss; focus rfl) | exact look_nil)); done), (by (repeat (first | exact look_hit | (apply look_miss; focus rfl) | exact look_nil)); done), (by (repeat (first | exact look_hit | (apply look_miss; focus rfl) | exact look_nil)); done), trivial⟩) ?_
      refine OD.nil ?_
      refine ⟨k + 1, ⟨19, [(0, .list 3 (ls.flatMap cL) ls.length), (1, .clo (.func g) caps), (7, .v (.int .i64 ls.length)), (8, .v (.int .i64 ((k + 1) : Nat)))], S⟩, ?_, Wk.asS (n := 19) rfl (by repeat (first | exact List.Sublist.refl _ | apply List.Sublist.cons)) ⟨(by (repeat (first | exact look_hit | (apply look_at; focus (first | rfl | (simp; done) | (congr 2; omega))) | (apply look_miss; focus rfl))); done), (by (repeat (first | exact look_hit | (apply look_at; focus (first | rfl | (simp; done) | (congr 2; omega))) | (apply look_miss; focus rfl))); done), (by (repeat (first | exact look_hit | (apply look_at; focus (first | rfl | (simp; done) | (congr 2; omega))) | (apply look_miss; focus rfl))); done), (by (repeat (first | exact look_hit | (apply look_at; focus (first | rfl | (simp; done) | (congr 2; omega))) | (apply look_miss; focus rfl))); done), trivial⟩, (by omega), (by rw [List.take_succ_eq_append_getElem (by omega)]; intro x hx; rcases List.mem_append.1 hx with hx | hx; exact h0 x hx; simp only [List.mem_singleton] at hx; subst hx; assumption), rfl⟩
      first | omega | (simp only []; omega)
  · have hc0' := hc0
    (try simp only [decide_eq_true_eq, decide_eq_false_iff_not, beq_iff_eq, bne_iff_ne, Bool.not_eq_true', Bool.not_eq_false', Bool.not_eq_true, Bool.not_eq_false, beq_eq_false_iff_ne, ne_eq, bne_eq_false_iff_eq, Bool.and_eq_true, Bool.or_eq_true, Bool.not_not, Bool.and_eq_false_iff, Bool.or_eq_false_iff, Int.not_lt, Int.not_le] at hc0')
    refine CD.exit ?_
    refine CD.seq ?_
    refine CD.region ?_
    refine OD.still (wants_plain rfl) rfl (still_as rfl opd_const) ?_
    refine OD.wk (Wk.as_ (n := 19) (l' := [(4, _)]) (S' := S) rfl (by first | rfl | simp [St.put]) ⟨(by (repeat (first | exact look_hit | (apply look_miss; focus rfl) | exact look_nil)); done), trivial⟩) ?_
    refine OD.nil ?_
    refine CD.ret ?_
    refine ⟨.inr rfl, _, S, (by repeat (first | exact List.Sublist.refl _ | apply List.Sublist.cons)), ret_one Tryd.results43 (res_tmp (Nat.le_of_ble_eq_true rfl) (by (repeat (first | exact look_hit | (apply look_miss; focus rfl) | exact look_nil)); done)), ?_⟩
    refine ⟨?_, rfl⟩; first | (rw [idxI_hit (by omega) h0 (by assumption)]) | (rw [idxI_none (by omega) h0])

theorem contains_vc (ls : List L) (g : Nat) (caps : List D) (S : List Blk) (p : L → Bool) (hcall : ∀ args w, (callFunc g args).run Tryd.prog w = .ok (.enter g args) w) (hp : ∀ x ∈ ls, VC Tryd.prog G g (lockD x :: caps) S (fun r S' => r = .v (.bool (p x)) ∧ S' = S)) (hlen : ls.length ≤ 1000000) : VC Tryd.prog G 26 [locksD ls, .clo (.func g) caps] S (fun r S' => r = .v (.bool (ls.any p)) ∧ S' = S) := by
  refine VC.body Tryd.func26 rfl Tryd.ntmps26 (Nat.le_of_ble_eq_true rfl) fun X0 w0 S00 => ?_
  refine CD.seq ?_
  refine CD.region ?_
  refine OD.still (wants_plain rfl) rfl (still_as rfl opd_const) ?_
  refine OD.wk (Wk.as_ (n := 9) (l' := [(0, _), (1, _)]) (S' := S) rfl (by first | rfl | simp [St.put]) ⟨(by (repeat (first | exact look_hit | (apply look_miss; focus rfl) | exact look_nil)); done), (by (repeat (first | exact look_hit | (apply look_miss; focus rfl) | exact look_nil)); done), trivial⟩) ?_
  refine OD.nil ?_
  refine CD.seq ?_
  refine CD.region ?_
  refine OD.still (wants_plain rfl) rfl (still_mv rfl (opd_tmp rfl (by (repeat (first | exact look_hit | (apply look_miss; focus rfl) | exact look_nil)); done))) ?_
  refine OD.still (wants_plain rfl) rfl (still_mv rfl (opd_tmp rfl (by (repeat (first | exact look_hit | (apply look_miss; focus rfl) | exact look_nil)); done))) ?_
  refine OD.call (wants_plain rfl) rfl rfl rfl Tryd.call43 (index_vc _ ls g caps S p hcall hp hlen) ⟨opd_tmp rfl (by (repeat (first | exact look_hit | (apply look_miss; focus rfl) | exact look_nil)); done), opd_tmp rfl (by (repeat (first | exact look_hit | (apply look_miss; focus rfl) | exact look_nil)); done), trivial⟩ (perm_all _) ?_; rintro _ S2 ⟨rfl, hS2⟩; rw [hS2]; clear hS2
  refine OD.still (wants_plain rfl) rfl (still_bin rfl (opd_tmp rfl (by (repeat (first | exact look_hit | (apply look_miss; focus rfl) | exact look_nil)); done)) opd_const bin_geq) ?_
  refine OD.still (wants_plain rfl) rfl (still_as rfl (opd_tmp rfl (by (repeat (first | exact look_hit | (apply look_miss; focus rfl) | exact look_nil)); done))) ?_
  refine OD.wk (Wk.as_ (n := 9) (l' := [(4, _)]) (S' := S) rfl (by first | rfl | simp [St.put]) ⟨(by (repeat (first | exact look_hit | (apply look_miss; focus rfl) | exact look_nil)); done), trivial⟩) ?_
  refine OD.nil ?_
  refine CD.ret ?_
  refine ⟨.inr rfl, _, S, (by repeat (first | exact List.Sublist.refl _ | apply List.Sublist.cons)), ret_one Tryd.results26 (res_tmp (Nat.le_of_ble_eq_true rfl) (by (repeat (first | exact look_hit | (apply look_miss; focus rfl) | exact look_nil)); done)), ?_⟩
  refine ⟨?_, rfl⟩; rw [idxI_any]

theorem find_vp (ls : List L) (t : Int) (th : ByteArray) (hlen : ls.length ≤ 1000000) : VP Tryd.prog G 29 [locksD ls, .v (.int .i64 t), .v (.string th)] (.v (.int .i64 (findI ls t th))) := by
  refine VC.body Tryd.func29 rfl Tryd.ntmps29 (Nat.le_of_ble_eq_true rfl) fun X0 w0 S00 => ?_
  refine CD.seq ?_
  refine CD.region ?_
  refine OD.box (ds := [_]) (wants_plain rfl) rfl rfl (opd_tmp rfl (by (repeat (first | exact look_hit | (apply look_miss; focus rfl) | exact look_nil)); done)) rfl rfl (fun b4 => ?_)
  refine OD.box (ds := [_]) (wants_plain rfl) rfl rfl (opd_tmp rfl (by (repeat (first | exact look_hit | (apply look_miss; focus rfl) | exact look_nil)); done)) rfl rfl (fun b5 => ?_)
  refine OD.still (wants_plain rfl) rfl (still_as rfl opd_const) ?_
  refine OD.wk (Wk.as_ (n := 10) (l' := [(0, _), (4, _), (5, _)]) (S' := [⟨b5, 9, 1, [_]⟩, ⟨b4, 3, 1, [_]⟩]) rfl rfl ⟨(by (repeat (first | exact look_hit | (apply look_miss; focus rfl) | exact look_nil)); done), (by (repeat (first | exact look_hit | (apply look_miss; focus rfl) | exact look_nil)); done), (by (repeat (first | exact look_hit | (apply look_miss; focus rfl) | exact look_nil)); done), trivial⟩) ?_
  refine OD.nil ?_
  refine CD.seq ?_
  refine CD.region ?_
  refine OD.still (wants_plain rfl) rfl (still_mv rfl (opd_tmp rfl (by (repeat (first | exact look_hit | (apply look_miss; focus rfl) | exact look_nil)); done))) ?_
  refine OD.still (wants_plain rfl) rfl (still_fn (ds := [_, _]) rfl ⟨(opd_tmp rfl (by (repeat (first | exact look_hit | (apply look_miss; focus rfl) | exact look_nil)); done)), (opd_tmp rfl (by (repeat (first | exact look_hit | (apply look_miss; focus rfl) | exact look_nil)); done)), trivial⟩) ?_
  refine OD.call (wants_plain rfl) rfl rfl rfl Tryd.call43 (index_vc _ ls 46 [.v (.pointer (some ⟨b4, 0, none⟩)), .v (.pointer (some ⟨b5, 0, none⟩))] _ (hasK t th) Tryd.call46 (fun x _ => find1_vc _ x t th b4 b5) hlen) ⟨opd_tmp rfl (by (repeat (first | exact look_hit | (apply look_miss; focus rfl) | exact look_nil)); done), opd_tmp rfl (by (repeat (first | exact look_hit | (apply look_miss; focus rfl) | exact look_nil)); done), trivial⟩ (perm_two (k := 1) (k' := 0) rfl rfl) ?_; rintro _ S2 ⟨rfl, hS2⟩; rw [hS2]; clear hS2
  refine OD.still (wants_plain rfl) rfl (still_as rfl (opd_tmp rfl (by (repeat (first | exact look_hit | (apply look_miss; focus rfl) | exact look_nil)); done))) ?_
  refine OD.wk (Wk.as_ (n := 10) (l' := [(6, _)]) (S' := [⟨b4, 3, 1, [_]⟩, ⟨b5, 9, 1, [_]⟩]) rfl rfl ⟨(by (repeat (first | exact look_hit | (apply look_miss; focus rfl) | exact look_nil)); done), trivial⟩) ?_
  refine OD.nil ?_
  refine CD.ret ?_
  refine ⟨.inr rfl, _, [], List.nil_sublist _, ret_one Tryd.results29 (res_tmp (Nat.le_of_ble_eq_true rfl) (by (repeat (first | exact look_hit | (apply look_miss; focus rfl) | exact look_nil)); done)), ?_⟩
  exact ⟨rfl, rfl⟩

theorem bd_mode {m : Int} (h : modeB m = true) : 1 ≤ m ∧ m ≤ 5 := modeB_bd h

theorem free1_vc (h x : L) (b : Nat) (hh : modeB h.m = true) (hx : modeB x.m = true) : VC Tryd.prog TG 48 [lockD h, .v (.pointer (some ⟨b, 0, none⟩))] [⟨b, 27, 3, cL x⟩] (fun r S => r = .v (.bool (clash x h)) ∧ S = [⟨b, 27, 3, cL x⟩]) := by
  refine VC.body Tryd.func48 rfl Tryd.ntmps48 (Nat.le_of_ble_eq_true rfl) fun X0 w0 S00 => ?_
  unfold lockD cL
  have h1 := modeB_bd hh
  have h2 := modeB_bd hx
  refine CD.seq ?_
  refine CD.region ?_
  refine OD.box (ds := [_, _, _]) (wants_plain rfl) rfl rfl (opd_tmp rfl (by (repeat (first | exact look_hit | (apply look_miss; focus rfl) | exact look_nil)); done)) rfl rfl (fun b2 => ?_)
  refine OD.still (wants_plain rfl) rfl (still_as rfl opd_const) ?_
  refine OD.wk (Wk.as_ (n := 26) (l' := [(1, _), (2, _)]) (S' := [⟨b2, 27, 3, [_, _, _]⟩, ⟨_, _, _, [_, _, _]⟩]) rfl rfl ⟨(by (repeat (first | exact look_hit | (apply look_miss; focus rfl) | exact look_nil)); done), (by (repeat (first | exact look_hit | (apply look_miss; focus rfl) | exact look_nil)); done), trivial⟩) ?_
  refine OD.nil ?_
  refine CD.seq ?_
  refine CD.draw (bks _) (by kernel_rfl) (fun _ h => h) ?_
  refine AD0.take (i := 0) rfl (by kernel_rfl) (by kernel_rfl) (by kernel_rfl) (by repeat (first | exact NP.body | apply NP.then | apply NP.inBlock | apply NP.round)) (wants_plain rfl) rfl (still_r1 (mk := fun y => Op.fieldAddr 27 y 1) rfl (opd_tmp rfl (by (repeat (first | exact look_hit | (apply look_miss; focus rfl) | exact look_nil)); done)) (by first | exact fa_ptr (off := 1) Tryd.runUnderlying27 rfl Tryd.sizeOf9 rfl | exact fa_iptr (off := 1) Tryd.runUnderlying27 rfl Tryd.sizeOf9 rfl)) (by exact trivial) ?_
  refine AD0.take (i := 1) rfl (by kernel_rfl) (by kernel_rfl) (by kernel_rfl) (by repeat (first | exact NP.body | apply NP.then | apply NP.inBlock | apply NP.round)) (wants_plain rfl) rfl (still_r1 (mk := Op.load 9) rfl (opd_tmp rfl (by (repeat (first | exact look_hit | (apply look_miss; focus rfl) | exact look_nil)); done)) (by first | exact ld_blk (k := 0) rfl rfl Tryd.isAgg9 rfl | exact ld_i Tryd.isAgg9 rfl | exact ld_tab (List.mem_cons_self) Tryd.isAgg9 (fitsC_off (by omega) (by omega) (by omega) (by omega)) | exact ld_tab (List.mem_cons_of_mem _ List.mem_cons_self) Tryd.isAgg9 (joinsC_off (by omega) (by omega) (by omega) (by omega)))) (by first | exact trivial | exact safe_blk (k0 := 0) rfl rfl | exact safe_blk (k0 := 1) rfl rfl) ?_
  refine AD0.take (i := 2) rfl (by kernel_rfl) (by kernel_rfl) (by kernel_rfl) (by repeat (first | exact NP.body | apply NP.then | apply NP.inBlock | apply NP.round)) (wants_plain rfl) rfl (still_r1 (mk := fun y => Op.fieldAddr 27 y 1) rfl (opd_tmp rfl (by (repeat (first | exact look_hit | (apply look_miss; focus rfl) | exact look_nil)); done)) (by first | exact fa_ptr (off := 1) Tryd.runUnderlying27 rfl Tryd.sizeOf9 rfl | exact fa_iptr (off := 1) Tryd.runUnderlying27 rfl Tryd.sizeOf9 rfl)) (by exact trivial) ?_
  refine AD0.take (i := 3) rfl (by kernel_rfl) (by kernel_rfl) (by kernel_rfl) (by repeat (first | exact NP.body | apply NP.then | apply NP.inBlock | apply NP.round)) (wants_plain rfl) rfl (still_r1 (mk := Op.load 9) rfl (opd_tmp rfl (by (repeat (first | exact look_hit | (apply look_miss; focus rfl) | exact look_nil)); done)) (by first | exact ld_blk (k := 1) rfl rfl Tryd.isAgg9 rfl | exact ld_i Tryd.isAgg9 rfl | exact ld_tab (List.mem_cons_self) Tryd.isAgg9 (fitsC_off (by omega) (by omega) (by omega) (by omega)) | exact ld_tab (List.mem_cons_of_mem _ List.mem_cons_self) Tryd.isAgg9 (joinsC_off (by omega) (by omega) (by omega) (by omega)))) (by first | exact trivial | exact safe_blk (k0 := 0) rfl rfl | exact safe_blk (k0 := 1) rfl rfl) ?_
  refine AD0.take (i := 4) rfl (by kernel_rfl) (by kernel_rfl) (by kernel_rfl) (by repeat (first | exact NP.body | apply NP.then | apply NP.inBlock | apply NP.round)) (wants_plain rfl) rfl (still_bin rfl (opd_tmp rfl (by (repeat (first | exact look_hit | (apply look_miss; focus rfl) | exact look_nil)); done)) (opd_tmp rfl (by (repeat (first | exact look_hit | (apply look_miss; focus rfl) | exact look_nil)); done)) bin_seql) (by exact trivial) ?_
  refine AD0.take (i := 5) rfl (by kernel_rfl) (by kernel_rfl) (by kernel_rfl) (by repeat (first | exact NP.body | apply NP.then | apply NP.inBlock | apply NP.round)) (wants_plain rfl) rfl (still_mv rfl (opd_tmp rfl (by (repeat (first | exact look_hit | (apply look_miss; focus rfl) | exact look_nil)); done))) (by exact trivial) ?_
  refine AD0.split (t := 9) (by (repeat (first | exact look_hit | (apply look_miss; focus rfl) | exact look_nil)); done) (fun hg9 => ?_) (fun hg9 => ?_)
  · have hg9' := hg9; (try simp only [decide_eq_true_eq, decide_eq_false_iff_not, beq_iff_eq, bne_iff_ne, Bool.not_eq_true', Bool.not_eq_false', Bool.not_eq_true, Bool.not_eq_false, beq_eq_false_iff_ne, ne_eq, bne_eq_false_iff_eq, Bool.and_eq_true, Bool.or_eq_true, Bool.not_not, Bool.and_eq_false_iff, Bool.or_eq_false_iff, Int.not_lt, Int.not_le] at hg9')
    refine AD0.take (i := 6) rfl (by kernel_rfl) (by kernel_rfl) (by kernel_rfl) (by repeat (first | exact NP.body | apply NP.then | apply NP.inBlock | apply NP.round)) (wants_T rfl rfl rfl (by (repeat (first | exact look_hit | (apply look_miss; focus rfl) | exact look_nil)); done) (by first | rfl | assumption)) rfl (still_r1 (mk := fun y => Op.fieldAddr 27 y 0) rfl (opd_tmp rfl (by (repeat (first | exact look_hit | (apply look_miss; focus rfl) | exact look_nil)); done)) (by first | exact fa_ptr (off := 0) Tryd.runUnderlying27 rfl Tryd.sizeOf3 rfl | exact fa_iptr (off := 0) Tryd.runUnderlying27 rfl Tryd.sizeOf3 rfl)) (by exact trivial) ?_
    refine AD0.take (i := 7) rfl (by kernel_rfl) (by kernel_rfl) (by kernel_rfl) (by repeat (first | exact NP.body | apply NP.then | apply NP.inBlock | apply NP.round)) (wants_T rfl rfl rfl (by (repeat (first | exact look_hit | (apply look_miss; focus rfl) | exact look_nil)); done) (by first | rfl | assumption)) rfl (still_r1 (mk := Op.load 3) rfl (opd_tmp rfl (by (repeat (first | exact look_hit | (apply look_miss; focus rfl) | exact look_nil)); done)) (by first | exact ld_blk (k := 0) rfl rfl Tryd.isAgg3 rfl | exact ld_i Tryd.isAgg3 rfl | exact ld_tab (List.mem_cons_self) Tryd.isAgg3 (fitsC_off (by omega) (by omega) (by omega) (by omega)) | exact ld_tab (List.mem_cons_of_mem _ List.mem_cons_self) Tryd.isAgg3 (joinsC_off (by omega) (by omega) (by omega) (by omega)))) (by first | exact trivial | exact safe_blk (k0 := 0) rfl rfl | exact safe_blk (k0 := 1) rfl rfl) ?_
    refine AD0.take (i := 8) rfl (by kernel_rfl) (by kernel_rfl) (by kernel_rfl) (by repeat (first | exact NP.body | apply NP.then | apply NP.inBlock | apply NP.round)) (wants_T rfl rfl rfl (by (repeat (first | exact look_hit | (apply look_miss; focus rfl) | exact look_nil)); done) (by first | rfl | assumption)) rfl (still_r1 (mk := fun y => Op.fieldAddr 27 y 0) rfl (opd_tmp rfl (by (repeat (first | exact look_hit | (apply look_miss; focus rfl) | exact look_nil)); done)) (by first | exact fa_ptr (off := 0) Tryd.runUnderlying27 rfl Tryd.sizeOf3 rfl | exact fa_iptr (off := 0) Tryd.runUnderlying27 rfl Tryd.sizeOf3 rfl)) (by exact trivial) ?_
    refine AD0.take (i := 9) rfl (by kernel_rfl) (by kernel_rfl) (by kernel_rfl) (by repeat (first | exact NP.body | apply NP.then | apply NP.inBlock | apply NP.round)) (wants_T rfl rfl rfl (by (repeat (first | exact look_hit | (apply look_miss; focus rfl) | exact look_nil)); done) (by first | rfl | assumption)) rfl (still_r1 (mk := Op.load 3) rfl (opd_tmp rfl (by (repeat (first | exact look_hit | (apply look_miss; focus rfl) | exact look_nil)); done)) (by first | exact ld_blk (k := 1) rfl rfl Tryd.isAgg3 rfl | exact ld_i Tryd.isAgg3 rfl | exact ld_tab (List.mem_cons_self) Tryd.isAgg3 (fitsC_off (by omega) (by omega) (by omega) (by omega)) | exact ld_tab (List.mem_cons_of_mem _ List.mem_cons_self) Tryd.isAgg3 (joinsC_off (by omega) (by omega) (by omega) (by omega)))) (by first | exact trivial | exact safe_blk (k0 := 0) rfl rfl | exact safe_blk (k0 := 1) rfl rfl) ?_
    refine AD0.take (i := 10) rfl (by kernel_rfl) (by kernel_rfl) (by kernel_rfl) (by repeat (first | exact NP.body | apply NP.then | apply NP.inBlock | apply NP.round)) (wants_T rfl rfl rfl (by (repeat (first | exact look_hit | (apply look_miss; focus rfl) | exact look_nil)); done) (by first | rfl | assumption)) rfl (still_bin rfl (opd_tmp rfl (by (repeat (first | exact look_hit | (apply look_miss; focus rfl) | exact look_nil)); done)) (opd_tmp rfl (by (repeat (first | exact look_hit | (apply look_miss; focus rfl) | exact look_nil)); done)) bin_neq) (by exact trivial) ?_
    refine AD0.take (i := 11) rfl (by kernel_rfl) (by kernel_rfl) (by kernel_rfl) (by repeat (first | exact NP.body | apply NP.then | apply NP.inBlock | apply NP.round)) (wants_plain rfl) rfl (still_pickT rfl (opd_tmp rfl (by (repeat (first | exact look_hit | (apply look_miss; focus rfl) | exact look_nil)); done)) (by first | rfl | assumption) (opd_tmp rfl (by (repeat (first | exact look_hit | (apply look_miss; focus rfl) | exact look_nil)); done))) (by exact trivial) ?_
    refine AD0.take (i := 12) rfl (by kernel_rfl) (by kernel_rfl) (by kernel_rfl) (by repeat (first | exact NP.body | apply NP.then | apply NP.inBlock | apply NP.round)) (wants_plain rfl) rfl (still_mv rfl (opd_tmp rfl (by (repeat (first | exact look_hit | (apply look_miss; focus rfl) | exact look_nil)); done))) (by exact trivial) ?_
    refine AD0.split (t := 16) (by (repeat (first | exact look_hit | (apply look_miss; focus rfl) | exact look_nil)); done) (fun hg16 => ?_) (fun hg16 => ?_)
    · have hg16' := hg16; (try simp only [decide_eq_true_eq, decide_eq_false_iff_not, beq_iff_eq, bne_iff_ne, Bool.not_eq_true', Bool.not_eq_false', Bool.not_eq_true, Bool.not_eq_false, beq_eq_false_iff_ne, ne_eq, bne_eq_false_iff_eq, Bool.and_eq_true, Bool.or_eq_true, Bool.not_not, Bool.and_eq_false_iff, Bool.or_eq_false_iff, Int.not_lt, Int.not_le] at hg16')
      refine AD0.take (i := 13) rfl (by kernel_rfl) (by kernel_rfl) (by kernel_rfl) (by repeat (first | exact NP.body | apply NP.then | apply NP.inBlock | apply NP.round)) (wants_T rfl rfl rfl (by (repeat (first | exact look_hit | (apply look_miss; focus rfl) | exact look_nil)); done) (by first | rfl | assumption)) rfl (still_r1 (mk := fun y => Op.fieldAddr 27 y 2) rfl (opd_tmp rfl (by (repeat (first | exact look_hit | (apply look_miss; focus rfl) | exact look_nil)); done)) (by first | exact fa_ptr (off := 2) Tryd.runUnderlying27 rfl Tryd.sizeOf3 rfl | exact fa_iptr (off := 2) Tryd.runUnderlying27 rfl Tryd.sizeOf3 rfl)) (by exact trivial) ?_
      refine AD0.take (i := 14) rfl (by kernel_rfl) (by kernel_rfl) (by kernel_rfl) (by repeat (first | exact NP.body | apply NP.then | apply NP.inBlock | apply NP.round)) (wants_T rfl rfl rfl (by (repeat (first | exact look_hit | (apply look_miss; focus rfl) | exact look_nil)); done) (by first | rfl | assumption)) rfl (still_r1 (mk := Op.load 3) rfl (opd_tmp rfl (by (repeat (first | exact look_hit | (apply look_miss; focus rfl) | exact look_nil)); done)) (by first | exact ld_blk (k := 0) rfl rfl Tryd.isAgg3 rfl | exact ld_i Tryd.isAgg3 rfl | exact ld_tab (List.mem_cons_self) Tryd.isAgg3 (fitsC_off (by omega) (by omega) (by omega) (by omega)) | exact ld_tab (List.mem_cons_of_mem _ List.mem_cons_self) Tryd.isAgg3 (joinsC_off (by omega) (by omega) (by omega) (by omega)))) (by first | exact trivial | exact safe_blk (k0 := 0) rfl rfl | exact safe_blk (k0 := 1) rfl rfl) ?_
      refine AD0.take (i := 15) rfl (by kernel_rfl) (by kernel_rfl) (by kernel_rfl) (by repeat (first | exact NP.body | apply NP.then | apply NP.inBlock | apply NP.round)) (wants_T rfl rfl rfl (by (repeat (first | exact look_hit | (apply look_miss; focus rfl) | exact look_nil)); done) (by first | rfl | assumption)) rfl (still_r1 (mk := fun y => Op.fieldAddr 27 y 2) rfl (opd_tmp rfl (by (repeat (first | exact look_hit | (apply look_miss; focus rfl) | exact look_nil)); done)) (by first | exact fa_ptr (off := 2) Tryd.runUnderlying27 rfl Tryd.sizeOf3 rfl | exact fa_iptr (off := 2) Tryd.runUnderlying27 rfl Tryd.sizeOf3 rfl)) (by exact trivial) ?_
      refine AD0.take (i := 16) rfl (by kernel_rfl) (by kernel_rfl) (by kernel_rfl) (by repeat (first | exact NP.body | apply NP.then | apply NP.inBlock | apply NP.round)) (wants_T rfl rfl rfl (by (repeat (first | exact look_hit | (apply look_miss; focus rfl) | exact look_nil)); done) (by first | rfl | assumption)) rfl (still_r1 (mk := Op.load 3) rfl (opd_tmp rfl (by (repeat (first | exact look_hit | (apply look_miss; focus rfl) | exact look_nil)); done)) (by first | exact ld_blk (k := 1) rfl rfl Tryd.isAgg3 rfl | exact ld_i Tryd.isAgg3 rfl | exact ld_tab (List.mem_cons_self) Tryd.isAgg3 (fitsC_off (by omega) (by omega) (by omega) (by omega)) | exact ld_tab (List.mem_cons_of_mem _ List.mem_cons_self) Tryd.isAgg3 (joinsC_off (by omega) (by omega) (by omega) (by omega)))) (by first | exact trivial | exact safe_blk (k0 := 0) rfl rfl | exact safe_blk (k0 := 1) rfl rfl) ?_
      refine AD0.take (i := 17) rfl (by kernel_rfl) (by kernel_rfl) (by kernel_rfl) (by repeat (first | exact NP.body | apply NP.then | apply NP.inBlock | apply NP.round)) (wants_T rfl rfl rfl (by (repeat (first | exact look_hit | (apply look_miss; focus rfl) | exact look_nil)); done) (by first | rfl | assumption)) rfl (still_r2 (mk := Op.indexAddr 68) rfl opd_glob (opd_tmp rfl (by (repeat (first | exact look_hit | (apply look_miss; focus rfl) | exact look_nil)); done)) (by first | exact ix_arr Tryd.runUnderlying68 Tryd.sizeOf67 rfl (by first | assumption | omega) | exact ix_arr (j := Int.toNat _) Tryd.runUnderlying68 Tryd.sizeOf67 (Int.toNat_of_nonneg (by omega)).symm (by omega))) (by exact trivial) ?_
      refine AD0.take (i := 18) rfl (by kernel_rfl) (by kernel_rfl) (by kernel_rfl) (by repeat (first | exact NP.body | apply NP.then | apply NP.inBlock | apply NP.round)) (wants_T rfl rfl rfl (by (repeat (first | exact look_hit | (apply look_miss; focus rfl) | exact look_nil)); done) (by first | rfl | assumption)) rfl (still_r2 (mk := Op.indexAddr 67) rfl (opd_tmp rfl (by (repeat (first | exact look_hit | (apply look_miss; focus rfl) | exact look_nil)); done)) (opd_tmp rfl (by (repeat (first | exact look_hit | (apply look_miss; focus rfl) | exact look_nil)); done)) (by first | exact ix_arr Tryd.runUnderlying67 Tryd.sizeOf4 rfl (by first | assumption | omega) | exact ix_arr (j := Int.toNat _) Tryd.runUnderlying67 Tryd.sizeOf4 (Int.toNat_of_nonneg (by omega)).symm (by omega))) (by exact trivial) ?_
      refine AD0.take (i := 19) rfl (by kernel_rfl) (by kernel_rfl) (by kernel_rfl) (by repeat (first | exact NP.body | apply NP.then | apply NP.inBlock | apply NP.round)) (wants_T rfl rfl rfl (by (repeat (first | exact look_hit | (apply look_miss; focus rfl) | exact look_nil)); done) (by first | rfl | assumption)) rfl (still_r1 (mk := Op.load 4) rfl (opd_tmp rfl (by (repeat (first | exact look_hit | (apply look_miss; focus rfl) | exact look_nil)); done)) (by first | exact ld_blk (k := 0) rfl rfl Tryd.isAgg4 rfl | exact ld_blk (k := 1) rfl rfl Tryd.isAgg4 rfl | exact ld_i Tryd.isAgg4 rfl | exact ld_tab (List.mem_cons_self) Tryd.isAgg4 (fitsC_off (by omega) (by omega) (by omega) (by omega)) | exact ld_tab (List.mem_cons_of_mem _ List.mem_cons_self) Tryd.isAgg4 (joinsC_off (by omega) (by omega) (by omega) (by omega)))) (by first | exact trivial | exact safe_blk (k0 := 0) rfl rfl | exact safe_blk (k0 := 1) rfl rfl) ?_
      refine AD0.take (i := 20) rfl (by kernel_rfl) (by kernel_rfl) (by kernel_rfl) (by repeat (first | exact NP.body | apply NP.then | apply NP.inBlock | apply NP.round)) (wants_T rfl rfl rfl (by (repeat (first | exact look_hit | (apply look_miss; focus rfl) | exact look_nil)); done) (by first | rfl | assumption)) rfl (still_un rfl (opd_tmp rfl (by (repeat (first | exact look_hit | (apply look_miss; focus rfl) | exact look_nil)); done)) un_not) (by exact trivial) ?_
      refine AD0.take (i := 21) rfl (by kernel_rfl) (by kernel_rfl) (by kernel_rfl) (by repeat (first | exact NP.body | apply NP.then | apply NP.inBlock | apply NP.round)) (wants_plain rfl) rfl (still_pickT rfl (opd_tmp rfl (by (repeat (first | exact look_hit | (apply look_miss; focus rfl) | exact look_nil)); done)) (by first | rfl | assumption) (opd_tmp rfl (by (repeat (first | exact look_hit | (apply look_miss; focus rfl) | exact look_nil)); done))) (by exact trivial) ?_
      refine AD0.take (i := 22) rfl (by kernel_rfl) (by kernel_rfl) (by kernel_rfl) (by repeat (first | exact NP.body | apply NP.then | apply NP.inBlock | apply NP.round)) (wants_plain rfl) rfl (still_as rfl (opd_tmp rfl (by (repeat (first | exact look_hit | (apply look_miss; focus rfl) | exact look_nil)); done))) (by exact trivial) ?_
      refine AD0.later rfl ?_
      refine AD.wk (y := ⟨26, [(3, _)], [⟨b2, 27, 3, [_, _, _]⟩, ⟨_, _, _, [_, _, _]⟩]⟩) (Wk.as_ rfl rfl ⟨(by (repeat (first | exact look_hit | (apply look_miss; focus rfl) | exact look_nil)); done), trivial⟩) rfl ?_
      refine AD.done (by kernel_rfl) ?_
      refine CD.ret ?_
      refine ⟨.inr rfl, _, [⟨b, 27, 3, cL x⟩], (by repeat (first | exact List.Sublist.refl _ | apply List.Sublist.cons)), ret_one Tryd.results48 (res_tmp (Nat.le_of_ble_eq_true rfl) (by (repeat (first | exact look_hit | (apply look_miss; focus rfl) | exact look_nil)); done)), ?_⟩
      refine ⟨?_, rfl⟩; unfold clash; simp_all
    · have hg16' := hg16; (try simp only [decide_eq_true_eq, decide_eq_false_iff_not, beq_iff_eq, bne_iff_ne, Bool.not_eq_true', Bool.not_eq_false', Bool.not_eq_true, Bool.not_eq_false, beq_eq_false_iff_ne, ne_eq, bne_eq_false_iff_eq, Bool.and_eq_true, Bool.or_eq_true, Bool.not_not, Bool.and_eq_false_iff, Bool.or_eq_false_iff, Int.not_lt, Int.not_le] at hg16')
      refine AD0.takeSkip (i := 13) rfl (by kernel_rfl) (by kernel_rfl) (by kernel_rfl) (by repeat (first | exact NP.body | apply NP.then | apply NP.inBlock | apply NP.round)) (wants_F rfl rfl rfl (by (repeat (first | exact look_hit | (apply look_miss; focus rfl) | exact look_nil)); done) (by first | rfl | assumption)) rfl ?_
      refine AD0.takeSkip (i := 14) rfl (by kernel_rfl) (by kernel_rfl) (by kernel_rfl) (by repeat (first | exact NP.body | apply NP.then | apply NP.inBlock | apply NP.round)) (wants_F rfl rfl rfl (by (repeat (first | exact look_hit | (apply look_miss; focus rfl) | exact look_nil)); done) (by first | rfl | assumption)) rfl ?_
      refine AD0.takeSkip (i := 15) rfl (by kernel_rfl) (by kernel_rfl) (by kernel_rfl) (by repeat (first | exact NP.body | apply NP.then | apply NP.inBlock | apply NP.round)) (wants_F rfl rfl rfl (by (repeat (first | exact look_hit | (apply look_miss; focus rfl) | exact look_nil)); done) (by first | rfl | assumption)) rfl ?_
      refine AD0.takeSkip (i := 16) rfl (by kernel_rfl) (by kernel_rfl) (by kernel_rfl) (by repeat (first | exact NP.body | apply NP.then | apply NP.inBlock | apply NP.round)) (wants_F rfl rfl rfl (by (repeat (first | exact look_hit | (apply look_miss; focus rfl) | exact look_nil)); done) (by first | rfl | assumption)) rfl ?_
      refine AD0.takeSkip (i := 17) rfl (by kernel_rfl) (by kernel_rfl) (by kernel_rfl) (by repeat (first | exact NP.body | apply NP.then | apply NP.inBlock | apply NP.round)) (wants_F rfl rfl rfl (by (repeat (first | exact look_hit | (apply look_miss; focus rfl) | exact look_nil)); done) (by first | rfl | assumption)) rfl ?_
      refine AD0.takeSkip (i := 18) rfl (by kernel_rfl) (by kernel_rfl) (by kernel_rfl) (by repeat (first | exact NP.body | apply NP.then | apply NP.inBlock | apply NP.round)) (wants_F rfl rfl rfl (by (repeat (first | exact look_hit | (apply look_miss; focus rfl) | exact look_nil)); done) (by first | rfl | assumption)) rfl ?_
      refine AD0.takeSkip (i := 19) rfl (by kernel_rfl) (by kernel_rfl) (by kernel_rfl) (by repeat (first | exact NP.body | apply NP.then | apply NP.inBlock | apply NP.round)) (wants_F rfl rfl rfl (by (repeat (first | exact look_hit | (apply look_miss; focus rfl) | exact look_nil)); done) (by first | rfl | assumption)) rfl ?_
      refine AD0.takeSkip (i := 20) rfl (by kernel_rfl) (by kernel_rfl) (by kernel_rfl) (by repeat (first | exact NP.body | apply NP.then | apply NP.inBlock | apply NP.round)) (wants_F rfl rfl rfl (by (repeat (first | exact look_hit | (apply look_miss; focus rfl) | exact look_nil)); done) (by first | rfl | assumption)) rfl ?_
      refine AD0.take (i := 21) rfl (by kernel_rfl) (by kernel_rfl) (by kernel_rfl) (by repeat (first | exact NP.body | apply NP.then | apply NP.inBlock | apply NP.round)) (wants_plain rfl) rfl (still_pickF rfl (opd_tmp rfl (by (repeat (first | exact look_hit | (apply look_miss; focus rfl) | exact look_nil)); done)) (by first | rfl | assumption) opd_const) (by exact trivial) ?_
      refine AD0.take (i := 22) rfl (by kernel_rfl) (by kernel_rfl) (by kernel_rfl) (by repeat (first | exact NP.body | apply NP.then | apply NP.inBlock | apply NP.round)) (wants_plain rfl) rfl (still_as rfl (opd_tmp rfl (by (repeat (first | exact look_hit | (apply look_miss; focus rfl) | exact look_nil)); done))) (by exact trivial) ?_
      refine AD0.later rfl ?_
      refine AD.wk (y := ⟨26, [(3, _)], [⟨b2, 27, 3, [_, _, _]⟩, ⟨_, _, _, [_, _, _]⟩]⟩) (Wk.as_ rfl rfl ⟨(by (repeat (first | exact look_hit | (apply look_miss; focus rfl) | exact look_nil)); done), trivial⟩) rfl ?_
      refine AD.done (by kernel_rfl) ?_
      refine CD.ret ?_
      refine ⟨.inr rfl, _, [⟨b, 27, 3, cL x⟩], (by repeat (first | exact List.Sublist.refl _ | apply List.Sublist.cons)), ret_one Tryd.results48 (res_tmp (Nat.le_of_ble_eq_true rfl) (by (repeat (first | exact look_hit | (apply look_miss; focus rfl) | exact look_nil)); done)), ?_⟩
      refine ⟨?_, rfl⟩; unfold clash; simp_all
  · have hg9' := hg9; (try simp only [decide_eq_true_eq, decide_eq_false_iff_not, beq_iff_eq, bne_iff_ne, Bool.not_eq_true', Bool.not_eq_false', Bool.not_eq_true, Bool.not_eq_false, beq_eq_false_iff_ne, ne_eq, bne_eq_false_iff_eq, Bool.and_eq_true, Bool.or_eq_true, Bool.not_not, Bool.and_eq_false_iff, Bool.or_eq_false_iff, Int.not_lt, Int.not_le] at hg9')
    refine AD0.takeSkip (i := 6) rfl (by kernel_rfl) (by kernel_rfl) (by kernel_rfl) (by repeat (first | exact NP.body | apply NP.then | apply NP.inBlock | apply NP.round)) (wants_F rfl rfl rfl (by (repeat (first | exact look_hit | (apply look_miss; focus rfl) | exact look_nil)); done) (by first | rfl | assumption)) rfl ?_
    refine AD0.takeSkip (i := 7) rfl (by kernel_rfl) (by kernel_rfl) (by kernel_rfl) (by repeat (first | exact NP.body | apply NP.then | apply NP.inBlock | apply NP.round)) (wants_F rfl rfl rfl (by (repeat (first | exact look_hit | (apply look_miss; focus rfl) | exact look_nil)); done) (by first | rfl | assumption)) rfl ?_
    refine AD0.takeSkip (i := 8) rfl (by kernel_rfl) (by kernel_rfl) (by kernel_rfl) (by repeat (first | exact NP.body | apply NP.then | apply NP.inBlock | apply NP.round)) (wants_F rfl rfl rfl (by (repeat (first | exact look_hit | (apply look_miss; focus rfl) | exact look_nil)); done) (by first | rfl | assumption)) rfl ?_
    refine AD0.takeSkip (i := 9) rfl (by kernel_rfl) (by kernel_rfl) (by kernel_rfl) (by repeat (first | exact NP.body | apply NP.then | apply NP.inBlock | apply NP.round)) (wants_F rfl rfl rfl (by (repeat (first | exact look_hit | (apply look_miss; focus rfl) | exact look_nil)); done) (by first | rfl | assumption)) rfl ?_
    refine AD0.takeSkip (i := 10) rfl (by kernel_rfl) (by kernel_rfl) (by kernel_rfl) (by repeat (first | exact NP.body | apply NP.then | apply NP.inBlock | apply NP.round)) (wants_F rfl rfl rfl (by (repeat (first | exact look_hit | (apply look_miss; focus rfl) | exact look_nil)); done) (by first | rfl | assumption)) rfl ?_
    refine AD0.take (i := 11) rfl (by kernel_rfl) (by kernel_rfl) (by kernel_rfl) (by repeat (first | exact NP.body | apply NP.then | apply NP.inBlock | apply NP.round)) (wants_plain rfl) rfl (still_pickF rfl (opd_tmp rfl (by (repeat (first | exact look_hit | (apply look_miss; focus rfl) | exact look_nil)); done)) (by first | rfl | assumption) opd_const) (by exact trivial) ?_
    refine AD0.take (i := 12) rfl (by kernel_rfl) (by kernel_rfl) (by kernel_rfl) (by repeat (first | exact NP.body | apply NP.then | apply NP.inBlock | apply NP.round)) (wants_plain rfl) rfl (still_mv rfl (opd_tmp rfl (by (repeat (first | exact look_hit | (apply look_miss; focus rfl) | exact look_nil)); done))) (by exact trivial) ?_
    refine AD0.split (t := 16) (by (repeat (first | exact look_hit | (apply look_miss; focus rfl) | exact look_nil)); done) (fun hg16 => ?_) (fun hg16 => ?_)
    · have hg16' := hg16; (try simp only [decide_eq_true_eq, decide_eq_false_iff_not, beq_iff_eq, bne_iff_ne, Bool.not_eq_true', Bool.not_eq_false', Bool.not_eq_true, Bool.not_eq_false, beq_eq_false_iff_ne, ne_eq, bne_eq_false_iff_eq, Bool.and_eq_true, Bool.or_eq_true, Bool.not_not, Bool.and_eq_false_iff, Bool.or_eq_false_iff, Int.not_lt, Int.not_le] at hg16')
      refine AD0.take (i := 13) rfl (by kernel_rfl) (by kernel_rfl) (by kernel_rfl) (by repeat (first | exact NP.body | apply NP.then | apply NP.inBlock | apply NP.round)) (wants_T rfl rfl rfl (by (repeat (first | exact look_hit | (apply look_miss; focus rfl) | exact look_nil)); done) (by first | rfl | assumption)) rfl (still_r1 (mk := fun y => Op.fieldAddr 27 y 2) rfl (opd_tmp rfl (by (repeat (first | exact look_hit | (apply look_miss; focus rfl) | exact look_nil)); done)) (by first | exact fa_ptr (off := 2) Tryd.runUnderlying27 rfl Tryd.sizeOf3 rfl | exact fa_iptr (off := 2) Tryd.runUnderlying27 rfl Tryd.sizeOf3 rfl)) (by exact trivial) ?_
      refine AD0.take (i := 14) rfl (by kernel_rfl) (by kernel_rfl) (by kernel_rfl) (by repeat (first | exact NP.body | apply NP.then | apply NP.inBlock | apply NP.round)) (wants_T rfl rfl rfl (by (repeat (first | exact look_hit | (apply look_miss; focus rfl) | exact look_nil)); done) (by first | rfl | assumption)) rfl (still_r1 (mk := Op.load 3) rfl (opd_tmp rfl (by (repeat (first | exact look_hit | (apply look_miss; focus rfl) | exact look_nil)); done)) (by first | exact ld_blk (k := 0) rfl rfl Tryd.isAgg3 rfl | exact ld_i Tryd.isAgg3 rfl | exact ld_tab (List.mem_cons_self) Tryd.isAgg3 (fitsC_off (by omega) (by omega) (by omega) (by omega)) | exact ld_tab (List.mem_cons_of_mem _ List.mem_cons_self) Tryd.isAgg3 (joinsC_off (by omega) (by omega) (by omega) (by omega)))) (by first | exact trivial | exact safe_blk (k0 := 0) rfl rfl | exact safe_blk (k0 := 1) rfl rfl) ?_
      refine AD0.take (i := 15) rfl (by kernel_rfl) (by kernel_rfl) (by kernel_rfl) (by repeat (first | exact NP.body | apply NP.then | apply NP.inBlock | apply NP.round)) (wants_T rfl rfl rfl (by (repeat (first | exact look_hit | (apply look_miss; focus rfl) | exact look_nil)); done) (by first | rfl | assumption)) rfl (still_r1 (mk := fun y => Op.fieldAddr 27 y 2) rfl (opd_tmp rfl (by (repeat (first | exact look_hit | (apply look_miss; focus rfl) | exact look_nil)); done)) (by first | exact fa_ptr (off := 2) Tryd.runUnderlying27 rfl Tryd.sizeOf3 rfl | exact fa_iptr (off := 2) Tryd.runUnderlying27 rfl Tryd.sizeOf3 rfl)) (by exact trivial) ?_
      refine AD0.take (i := 16) rfl (by kernel_rfl) (by kernel_rfl) (by kernel_rfl) (by repeat (first | exact NP.body | apply NP.then | apply NP.inBlock | apply NP.round)) (wants_T rfl rfl rfl (by (repeat (first | exact look_hit | (apply look_miss; focus rfl) | exact look_nil)); done) (by first | rfl | assumption)) rfl (still_r1 (mk := Op.load 3) rfl (opd_tmp rfl (by (repeat (first | exact look_hit | (apply look_miss; focus rfl) | exact look_nil)); done)) (by first | exact ld_blk (k := 1) rfl rfl Tryd.isAgg3 rfl | exact ld_i Tryd.isAgg3 rfl | exact ld_tab (List.mem_cons_self) Tryd.isAgg3 (fitsC_off (by omega) (by omega) (by omega) (by omega)) | exact ld_tab (List.mem_cons_of_mem _ List.mem_cons_self) Tryd.isAgg3 (joinsC_off (by omega) (by omega) (by omega) (by omega)))) (by first | exact trivial | exact safe_blk (k0 := 0) rfl rfl | exact safe_blk (k0 := 1) rfl rfl) ?_
      refine AD0.take (i := 17) rfl (by kernel_rfl) (by kernel_rfl) (by kernel_rfl) (by repeat (first | exact NP.body | apply NP.then | apply NP.inBlock | apply NP.round)) (wants_T rfl rfl rfl (by (repeat (first | exact look_hit | (apply look_miss; focus rfl) | exact look_nil)); done) (by first | rfl | assumption)) rfl (still_r2 (mk := Op.indexAddr 68) rfl opd_glob (opd_tmp rfl (by (repeat (first | exact look_hit | (apply look_miss; focus rfl) | exact look_nil)); done)) (by first | exact ix_arr Tryd.runUnderlying68 Tryd.sizeOf67 rfl (by first | assumption | omega) | exact ix_arr (j := Int.toNat _) Tryd.runUnderlying68 Tryd.sizeOf67 (Int.toNat_of_nonneg (by omega)).symm (by omega))) (by exact trivial) ?_
      refine AD0.take (i := 18) rfl (by kernel_rfl) (by kernel_rfl) (by kernel_rfl) (by repeat (first | exact NP.body | apply NP.then | apply NP.inBlock | apply NP.round)) (wants_T rfl rfl rfl (by (repeat (first | exact look_hit | (apply look_miss; focus rfl) | exact look_nil)); done) (by first | rfl | assumption)) rfl (still_r2 (mk := Op.indexAddr 67) rfl (opd_tmp rfl (by (repeat (first | exact look_hit | (apply look_miss; focus rfl) | exact look_nil)); done)) (opd_tmp rfl (by (repeat (first | exact look_hit | (apply look_miss; focus rfl) | exact look_nil)); done)) (by first | exact ix_arr Tryd.runUnderlying67 Tryd.sizeOf4 rfl (by first | assumption | omega) | exact ix_arr (j := Int.toNat _) Tryd.runUnderlying67 Tryd.sizeOf4 (Int.toNat_of_nonneg (by omega)).symm (by omega))) (by exact trivial) ?_
      refine AD0.take (i := 19) rfl (by kernel_rfl) (by kernel_rfl) (by kernel_rfl) (by repeat (first | exact NP.body | apply NP.then | apply NP.inBlock | apply NP.round)) (wants_T rfl rfl rfl (by (repeat (first | exact look_hit | (apply look_miss; focus rfl) | exact look_nil)); done) (by first | rfl | assumption)) rfl (still_r1 (mk := Op.load 4) rfl (opd_tmp rfl (by (repeat (first | exact look_hit | (apply look_miss; focus rfl) | exact look_nil)); done)) (by first | exact ld_blk (k := 0) rfl rfl Tryd.isAgg4 rfl | exact ld_blk (k := 1) rfl rfl Tryd.isAgg4 rfl | exact ld_i Tryd.isAgg4 rfl | exact ld_tab (List.mem_cons_self) Tryd.isAgg4 (fitsC_off (by omega) (by omega) (by omega) (by omega)) | exact ld_tab (List.mem_cons_of_mem _ List.mem_cons_self) Tryd.isAgg4 (joinsC_off (by omega) (by omega) (by omega) (by omega)))) (by first | exact trivial | exact safe_blk (k0 := 0) rfl rfl | exact safe_blk (k0 := 1) rfl rfl) ?_
      refine AD0.take (i := 20) rfl (by kernel_rfl) (by kernel_rfl) (by kernel_rfl) (by repeat (first | exact NP.body | apply NP.then | apply NP.inBlock | apply NP.round)) (wants_T rfl rfl rfl (by (repeat (first | exact look_hit | (apply look_miss; focus rfl) | exact look_nil)); done) (by first | rfl | assumption)) rfl (still_un rfl (opd_tmp rfl (by (repeat (first | exact look_hit | (apply look_miss; focus rfl) | exact look_nil)); done)) un_not) (by exact trivial) ?_
      refine AD0.take (i := 21) rfl (by kernel_rfl) (by kernel_rfl) (by kernel_rfl) (by repeat (first | exact NP.body | apply NP.then | apply NP.inBlock | apply NP.round)) (wants_plain rfl) rfl (still_pickT rfl (opd_tmp rfl (by (repeat (first | exact look_hit | (apply look_miss; focus rfl) | exact look_nil)); done)) (by first | rfl | assumption) (opd_tmp rfl (by (repeat (first | exact look_hit | (apply look_miss; focus rfl) | exact look_nil)); done))) (by exact trivial) ?_
      refine AD0.take (i := 22) rfl (by kernel_rfl) (by kernel_rfl) (by kernel_rfl) (by repeat (first | exact NP.body | apply NP.then | apply NP.inBlock | apply NP.round)) (wants_plain rfl) rfl (still_as rfl (opd_tmp rfl (by (repeat (first | exact look_hit | (apply look_miss; focus rfl) | exact look_nil)); done))) (by exact trivial) ?_
      refine AD0.later rfl ?_
      refine AD.wk (y := ⟨26, [(3, _)], [⟨b2, 27, 3, [_, _, _]⟩, ⟨_, _, _, [_, _, _]⟩]⟩) (Wk.as_ rfl rfl ⟨(by (repeat (first | exact look_hit | (apply look_miss; focus rfl) | exact look_nil)); done), trivial⟩) rfl ?_
      refine AD.done (by kernel_rfl) ?_
      refine CD.ret ?_
      refine ⟨.inr rfl, _, [⟨b, 27, 3, cL x⟩], (by repeat (first | exact List.Sublist.refl _ | apply List.Sublist.cons)), ret_one Tryd.results48 (res_tmp (Nat.le_of_ble_eq_true rfl) (by (repeat (first | exact look_hit | (apply look_miss; focus rfl) | exact look_nil)); done)), ?_⟩
      refine ⟨?_, rfl⟩; unfold clash; simp_all
    · have hg16' := hg16; (try simp only [decide_eq_true_eq, decide_eq_false_iff_not, beq_iff_eq, bne_iff_ne, Bool.not_eq_true', Bool.not_eq_false', Bool.not_eq_true, Bool.not_eq_false, beq_eq_false_iff_ne, ne_eq, bne_eq_false_iff_eq, Bool.and_eq_true, Bool.or_eq_true, Bool.not_not, Bool.and_eq_false_iff, Bool.or_eq_false_iff, Int.not_lt, Int.not_le] at hg16')
      refine AD0.takeSkip (i := 13) rfl (by kernel_rfl) (by kernel_rfl) (by kernel_rfl) (by repeat (first | exact NP.body | apply NP.then | apply NP.inBlock | apply NP.round)) (wants_F rfl rfl rfl (by (repeat (first | exact look_hit | (apply look_miss; focus rfl) | exact look_nil)); done) (by first | rfl | assumption)) rfl ?_
      refine AD0.takeSkip (i := 14) rfl (by kernel_rfl) (by kernel_rfl) (by kernel_rfl) (by repeat (first | exact NP.body | apply NP.then | apply NP.inBlock | apply NP.round)) (wants_F rfl rfl rfl (by (repeat (first | exact look_hit | (apply look_miss; focus rfl) | exact look_nil)); done) (by first | rfl | assumption)) rfl ?_
      refine AD0.takeSkip (i := 15) rfl (by kernel_rfl) (by kernel_rfl) (by kernel_rfl) (by repeat (first | exact NP.body | apply NP.then | apply NP.inBlock | apply NP.round)) (wants_F rfl rfl rfl (by (repeat (first | exact look_hit | (apply look_miss; focus rfl) | exact look_nil)); done) (by first | rfl | assumption)) rfl ?_
      refine AD0.takeSkip (i := 16) rfl (by kernel_rfl) (by kernel_rfl) (by kernel_rfl) (by repeat (first | exact NP.body | apply NP.then | apply NP.inBlock | apply NP.round)) (wants_F rfl rfl rfl (by (repeat (first | exact look_hit | (apply look_miss; focus rfl) | exact look_nil)); done) (by first | rfl | assumption)) rfl ?_
      refine AD0.takeSkip (i := 17) rfl (by kernel_rfl) (by kernel_rfl) (by kernel_rfl) (by repeat (first | exact NP.body | apply NP.then | apply NP.inBlock | apply NP.round)) (wants_F rfl rfl rfl (by (repeat (first | exact look_hit | (apply look_miss; focus rfl) | exact look_nil)); done) (by first | rfl | assumption)) rfl ?_
      refine AD0.takeSkip (i := 18) rfl (by kernel_rfl) (by kernel_rfl) (by kernel_rfl) (by repeat (first | exact NP.body | apply NP.then | apply NP.inBlock | apply NP.round)) (wants_F rfl rfl rfl (by (repeat (first | exact look_hit | (apply look_miss; focus rfl) | exact look_nil)); done) (by first | rfl | assumption)) rfl ?_
      refine AD0.takeSkip (i := 19) rfl (by kernel_rfl) (by kernel_rfl) (by kernel_rfl) (by repeat (first | exact NP.body | apply NP.then | apply NP.inBlock | apply NP.round)) (wants_F rfl rfl rfl (by (repeat (first | exact look_hit | (apply look_miss; focus rfl) | exact look_nil)); done) (by first | rfl | assumption)) rfl ?_
      refine AD0.takeSkip (i := 20) rfl (by kernel_rfl) (by kernel_rfl) (by kernel_rfl) (by repeat (first | exact NP.body | apply NP.then | apply NP.inBlock | apply NP.round)) (wants_F rfl rfl rfl (by (repeat (first | exact look_hit | (apply look_miss; focus rfl) | exact look_nil)); done) (by first | rfl | assumption)) rfl ?_
      refine AD0.take (i := 21) rfl (by kernel_rfl) (by kernel_rfl) (by kernel_rfl) (by repeat (first | exact NP.body | apply NP.then | apply NP.inBlock | apply NP.round)) (wants_plain rfl) rfl (still_pickF rfl (opd_tmp rfl (by (repeat (first | exact look_hit | (apply look_miss; focus rfl) | exact look_nil)); done)) (by first | rfl | assumption) opd_const) (by exact trivial) ?_
      refine AD0.take (i := 22) rfl (by kernel_rfl) (by kernel_rfl) (by kernel_rfl) (by repeat (first | exact NP.body | apply NP.then | apply NP.inBlock | apply NP.round)) (wants_plain rfl) rfl (still_as rfl (opd_tmp rfl (by (repeat (first | exact look_hit | (apply look_miss; focus rfl) | exact look_nil)); done))) (by exact trivial) ?_
      refine AD0.later rfl ?_
      refine AD.wk (y := ⟨26, [(3, _)], [⟨b2, 27, 3, [_, _, _]⟩, ⟨_, _, _, [_, _, _]⟩]⟩) (Wk.as_ rfl rfl ⟨(by (repeat (first | exact look_hit | (apply look_miss; focus rfl) | exact look_nil)); done), trivial⟩) rfl ?_
      refine AD.done (by kernel_rfl) ?_
      refine CD.ret ?_
      refine ⟨.inr rfl, _, [⟨b, 27, 3, cL x⟩], (by repeat (first | exact List.Sublist.refl _ | apply List.Sublist.cons)), ret_one Tryd.results48 (res_tmp (Nat.le_of_ble_eq_true rfl) (by (repeat (first | exact look_hit | (apply look_miss; focus rfl) | exact look_nil)); done)), ?_⟩
      refine ⟨?_, rfl⟩; unfold clash; simp_all

theorem free_vp (ls : List L) (x : L) (hlen : ls.length ≤ 1000000) (hls : ∀ h ∈ ls, modeB h.m = true) (hx : modeB x.m = true) : VP Tryd.prog TG 36 [locksD ls, lockD x] (.v (.bool (freeB ls x))) := by
  refine VC.body Tryd.func36 rfl Tryd.ntmps36 (Nat.le_of_ble_eq_true rfl) fun X0 w0 S00 => ?_
  unfold lockD cL
  refine CD.seq ?_
  refine CD.region ?_
  refine OD.box (ds := [_, _, _]) (wants_plain rfl) rfl rfl (opd_tmp rfl (by (repeat (first | exact look_hit | (apply look_miss; focus rfl) | exact look_nil)); done)) rfl rfl (fun b3 => ?_)
  refine OD.still (wants_plain rfl) rfl (still_as rfl opd_const) ?_
  refine OD.wk (Wk.as_ (n := 9) (l' := [(0, _), (3, _)]) (S' := [⟨b3, 27, 3, [_, _, _]⟩]) rfl rfl ⟨(by (repeat (first | exact look_hit | (apply look_miss; focus rfl) | exact look_nil)); done), (by (repeat (first | exact look_hit | (apply look_miss; focus rfl) | exact look_nil)); done), trivial⟩) ?_
  refine OD.nil ?_
  refine CD.seq ?_
  refine CD.region ?_
  refine OD.still (wants_plain rfl) rfl (still_mv rfl (opd_tmp rfl (by (repeat (first | exact look_hit | (apply look_miss; focus rfl) | exact look_nil)); done))) ?_
  refine OD.still (wants_plain rfl) rfl (still_fn (ds := [_]) rfl ⟨(opd_tmp rfl (by (repeat (first | exact look_hit | (apply look_miss; focus rfl) | exact look_nil)); done)), trivial⟩) ?_
  refine OD.call (wants_plain rfl) rfl rfl rfl Tryd.call26 (contains_vc _ ls 48 [.v (.pointer (some ⟨b3, 0, none⟩))] _ (clash x) Tryd.call48 (fun h hm => free1_vc h x b3 (hls h hm) hx) hlen) ⟨opd_tmp rfl (by (repeat (first | exact look_hit | (apply look_miss; focus rfl) | exact look_nil)); done), opd_tmp rfl (by (repeat (first | exact look_hit | (apply look_miss; focus rfl) | exact look_nil)); done), trivial⟩ (perm_one (k := 0) rfl) ?_; rintro _ S2 ⟨rfl, hS2⟩; rw [hS2]; clear hS2
  refine OD.still (wants_plain rfl) rfl (still_un rfl (opd_tmp rfl (by (repeat (first | exact look_hit | (apply look_miss; focus rfl) | exact look_nil)); done)) un_not) ?_
  refine OD.still (wants_plain rfl) rfl (still_as rfl (opd_tmp rfl (by (repeat (first | exact look_hit | (apply look_miss; focus rfl) | exact look_nil)); done))) ?_
  refine OD.wk (Wk.as_ (n := 9) (l' := [(4, _)]) (S' := [⟨b3, 27, 3, [_, _, _]⟩]) rfl rfl ⟨(by (repeat (first | exact look_hit | (apply look_miss; focus rfl) | exact look_nil)); done), trivial⟩) ?_
  refine OD.nil ?_
  refine CD.ret ?_
  refine ⟨.inr rfl, _, [], List.nil_sublist _, ret_one Tryd.results36 (res_tmp (Nat.le_of_ble_eq_true rfl) (by (repeat (first | exact look_hit | (apply look_miss; focus rfl) | exact look_nil)); done)), ?_⟩
  exact ⟨rfl, rfl⟩

end Go.Proofs.YtcogdagfcndbfaaDoor.Lk
