/-
  Locks: the law AskAll.
-/
import Derived.Test.YtcogdagfcndbfaaDoorLk9
namespace Go.Proofs.YtcogdagfcndbfaaDoor.Lk
open Go.RowKit V
set_option linter.unusedVariables false
set_option linter.unusedSimpArgs false

theorem ask_get {held queue : List L} {x : L} (h1 : shapeF x = 0) (h2 : (queue.any fun y => y.t == x.t) = false) (h3 : ownM held x = none) (h4 : firstQ held queue x = true) (h5 : (haveL held x).length + queue.length ≤ 200) : askF held queue x = (haveL held x, queue, true, 0) := by
  rw [ask_on h1 h2, askG_none h3, if_pos h4, if_neg (by omega)]
theorem ask_wait {held queue : List L} {x : L} (h1 : shapeF x = 0) (h2 : (queue.any fun y => y.t == x.t) = false) (h3 : ownM held x = none) (h4 : firstQ held queue x = false) (h5 : held.length + (queue.length + 1) ≤ 200) : askF held queue x = (held, queue ++ [x], false, 0) := by
  rw [ask_on h1 h2, askG_none h3, if_neg (by rw [h4]; exact Bool.false_ne_true), if_neg (by omega)]
theorem ask_good {held queue : List L} {x : L} (g : Good held queue) {h' q' : List L} {b : Bool} {e : Int} (he : askF held queue x = (h', q', b, e)) : Good h' q' := by
  by_cases h1 : shapeF x = 0
  · cases h2 : (queue.any fun y => y.t == x.t) with
    | true => rw [ask_twice h1 h2] at he; cases he; exact good_nil
    | false =>
      have h := good_ask g h1 h2
      rw [ask_on h1 h2] at he
      rw [he] at h; exact h
  · rw [ask_shape h1] at he; cases he; exact good_nil
theorem leave_good {held queue : List L} {t : Int} (g : Good held queue) {h' q' : List L} {ws : List Int} {e : Int} (he : leaveF held queue t = (h', q', ws, e)) : Good h' q' := by
  by_cases h1 : t < 1 ∨ t > 1048576
  · rw [leave_no h1] at he; cases he; exact good_nil
  · unfold leaveF at he
    rw [if_neg h1] at he
    cases he; exact good_leave g
theorem have_none {held : List L} {x : L} (h : ownM held x = none) : haveL held x = held ++ [x] := by
  refine haveL_new fun hn => ?_
  exact find_own.1 hn h
theorem own_no {held : List L} {x : L} (h : ∀ y ∈ held, y.t ≠ x.t) : ownM held x = none := own_none (findI_neg.2 fun y hy => by
  cases e : hasK x.t x.th y with
  | false => rfl
  | true => exact absurd (hasK_iff.1 e).1 (h y hy))
theorem first_no {held before : List L} {x y : L} (hy : y ∈ held) (h1 : y.th = x.th) (h2 : y.t ≠ x.t) (h3 : fitsF y.m x.m = false) : firstQ held before x = false := by
  unfold firstQ
  rw [Bool.and_eq_false_iff]; left
  cases e : freeB held x with
  | false => rfl
  | true =>
    have := freeB_iff.1 e y hy
    unfold clash at this
    rw [h1, h3] at this
    simp [h2] at this
theorem first_yes {held before : List L} {x : L} (h : ∀ y ∈ held, y.th.toList = x.th.toList → y.t ≠ x.t → fitsF y.m x.m = true) (hb : before = []) : firstQ held before x = true := by
  unfold firstQ; rw [free_of h, hb]; simp
theorem wake_stay {h q : List L} {ws : List Int} : ∀ (n i : Nat), q.length - i = n → (∀ k (hk : k < q.length), i ≤ k → firstQ h (q.take k) q[k] = false) → wake h q i ws = (h, q, ws) := by
  intro n
  induction n with
  | zero => intro i hn _; exact wake_end (by omega)
  | succ n ih =>
    intro i hn hf
    rw [wake_no (by omega) (hf i (by omega) (Nat.le_refl _))]
    exact ih (i + 1) (by omega) fun k hk hik => hf k hk (by omega)

def aB : ByteArray := ⟨#[97]⟩
/-- One lock each of many, in one mode. -/
def rowL (m : Int) (k : Nat) : List L := (List.range k).map fun i => ⟨((i : Nat) : Int) + 1, ⟨#[97]⟩, m⟩
theorem rowL_len (m : Int) (k : Nat) : (rowL m k).length = k := by simp [rowL]
theorem rowL_succ (m : Int) (k : Nat) : rowL m (k + 1) = rowL m k ++ [⟨((k : Nat) : Int) + 1, ⟨#[97]⟩, m⟩] := by simp [rowL, List.range_succ]
theorem rowL_at {m : Int} {k j : Nat} (h : j < (rowL m k).length) : (rowL m k)[j] = ⟨(j : Int) + 1, ⟨#[97]⟩, m⟩ := by simp [rowL]
theorem rowL_mem {m : Int} {k j : Nat} {x : L} (h : x ∈ (rowL m k).drop j) : ((j : Int) + 1 ≤ x.t ∧ x.t ≤ k) ∧ x.th = ⟨#[97]⟩ ∧ x.m = m := by
  obtain ⟨i, hi, rfl⟩ := List.mem_iff_getElem.1 h
  rw [List.length_drop, rowL_len] at hi
  rw [List.getElem_drop, rowL_at]
  exact ⟨⟨by simp only []; omega, by simp only []; omega⟩, rfl, rfl⟩
theorem rowL_drop {m : Int} {k j : Nat} (h : j < k) : (rowL m k).drop j = ⟨(j : Int) + 1, ⟨#[97]⟩, m⟩ :: (rowL m k).drop (j + 1) := by
  rw [List.drop_eq_getElem_cons (by rw [rowL_len]; exact h), rowL_at]
theorem rowL_filter {m : Int} {k j : Nat} (h : j < k) : ((rowL m k).drop j).filter (·.t != (j : Int) + 1) = (rowL m k).drop (j + 1) := by
  rw [rowL_drop h, List.filter_cons]
  simp only [bne_self_eq_false, Bool.false_eq_true, if_false]
  rw [List.filter_eq_self]
  intro x hx
  have := (rowL_mem hx).1
  simp only [bne_iff_ne]
  omega

/-- AskAll's asks. -/
theorem all_ask {k : Nat} (hk : k ≤ 8) : askF (rowL 3 k) [] ⟨(k : Int) + 1, ⟨#[97]⟩, 3⟩ = (rowL 3 (k + 1), [], true, 0) := by
  have hown : ownM (rowL 3 k) ⟨(k : Int) + 1, ⟨#[97]⟩, 3⟩ = none := own_no fun y hy => by
    have := (rowL_mem (j := 0) (by simpa using hy)).1
    simp only []; omega
  rw [ask_get (shape_iff.2 ⟨⟨by simp only []; omega, by simp only []; omega⟩, (by show (⟨#[97]⟩ : ByteArray).size ≤ 120; decide), (by show modeB 3 = true; decide)⟩) rfl hown (first_yes (fun y hy _ _ => by rw [(rowL_mem (j := 0) (by simpa using hy)).2.2]; show fitsF 3 3 = true; decide) rfl) (by rw [have_none hown]; simp [rowL_len]; omega), have_none hown, ← rowL_succ]
abbrev allX : L := ⟨99, ⟨#[97]⟩, 5⟩
theorem all_wait {k : Nat} (h1 : 1 ≤ k) (hk : k ≤ 8) : askF (rowL 3 k) [] allX = (rowL 3 k, [allX], false, 0) := by
  have hown : ownM (rowL 3 k) allX = none := own_no fun y hy => by
    have := (rowL_mem (j := 0) (by simpa using hy)).1
    simp only []; omega
  have hm : (rowL 3 k)[0]'(by rw [rowL_len]; omega) ∈ rowL 3 k := List.getElem_mem _
  rw [ask_wait (shape_iff.2 ⟨⟨by decide, by decide⟩, by decide, by decide⟩) rfl hown (first_no hm (by rw [rowL_at]) (by rw [rowL_at]; decide) (by rw [rowL_at]; decide)) (by rw [rowL_len]; simp; omega)]
  rfl
/-- AskAll's locks, when so many have left. -/
def allS (k j : Nat) : List L × List L := if j < k then ((rowL 3 k).drop j, [allX]) else ([allX], [])
theorem all_leave {k j : Nat} (hj : j < k) (hk : k ≤ 8) : leaveF (allS k j).1 (allS k j).2 ((j : Int) + 1) = ((allS k (j + 1)).1, (allS k (j + 1)).2, if j + 1 = k then [99] else [], 0) := by
  refine leave_yes (by omega) (by omega) ?_
  have e1 : allS k j = ((rowL 3 k).drop j, [allX]) := if_pos hj
  rw [e1]
  unfold leaveG
  simp only []
  rw [rowL_filter hj]
  have e2 : [allX].filter (·.t != (j : Int) + 1) = [allX] := by
    rw [List.filter_eq_self]; intro x hx
    simp only [List.mem_singleton] at hx; subst hx
    simp only [bne_iff_ne]; omega
  rw [e2]
  unfold allS
  by_cases h : j + 1 = k
  · subst h
    rw [if_neg (by omega), if_pos rfl]
    have : (rowL 3 (j + 1)).drop (j + 1) = [] := List.drop_of_length_le (by rw [rowL_len]; exact Nat.le_refl _)
    rw [this, wake_yes (by simp) (first_yes (fun y hy => by cases hy) rfl)]
    exact (show wake [allX] [] 0 [99] = _ from wake_end (by simp))
  · rw [if_pos (by omega), if_neg h]
    have hm : ((rowL 3 k).drop (j + 1))[0]'(by rw [List.length_drop, rowL_len]; omega) ∈ (rowL 3 k).drop (j + 1) := List.getElem_mem _
    exact wake_stay 1 0 rfl fun i hi _ => by
      have : i = 0 := by simpa using hi
      subst this
      have := rowL_mem hm
      exact first_no hm this.2.1 (by show _ ≠ (99 : Int); have := this.1; omega) (by rw [this.2.2]; show fitsF 3 5 = false; decide)
theorem modeF_head {x : L} {l : List L} : modeF (x :: l) x.t x.th = x.m := by unfold modeF; simp [hasK]
theorem cover_nil {n : Nat} {l : List (Nat × D)} {S : List Blk} {b e : Nat} : Wk ⟨n, l, ⟨b, e, 2, [.v (.slice none 0 0), .v (.slice none 0 0)]⟩ :: S⟩ ⟨n, l, ⟨b, e, 2, [locksD [], locksD []]⟩ :: S⟩ :=
  Wk.cover (A := ⟨b, e, 2, [.v (.slice none 0 0), .v (.slice none 0 0)]⟩) (R := S) (Sd := []) (by simp) ⟨view_nil, view_nil, trivial⟩

theorem places27_Lka : ∀ w, ((#[{ name := "Txn", type := 3, offset := 0, embedded := false, tag := "", pkgPath := "", byteOffset := 0 }, { name := "Thing", type := 9, offset := 1, embedded := false, tag := "", pkgPath := "", byteOffset := 8 }, { name := "Mode", type := 3, offset := 2, embedded := false, tag := "", pkgPath := "", byteOffset := 24 }] : Array Field).mapM fun f => do pure (f.offset, ← sizeOf f.type) : Sem (Array (Nat × Nat))).run Tryd.prog w = .ok #[(0, 1), (1, 1), (2, 1)] w := fun w => by simp [Tryd.sizeOf3, Tryd.sizeOf9]

set_option maxHeartbeats 4000000 in
set_option maxRecDepth 100000 in
theorem askall_vp (n : Int) (h1 : -9223372036854775808 ≤ n) (h2 : n ≤ 9223372036854775807) : VP Tryd.prog TG 7 [.v (.int .i64 n)] (.v (.bool true)) := by
  refine VC.body Tryd.func7 rfl Tryd.ntmps7 (Nat.le_of_ble_eq_true rfl) fun X0 w0 S00 => ?_
  have hpk := pickedF_bd n (by decide : (1 : Int) ≤ 8)
  obtain ⟨k, hk⟩ := Int.eq_ofNat_of_zero_le (show 0 ≤ 1 + pickedF n 8 by omega)
  refine CD.seq ?_
  refine CD.region ?_
  refine OD.still (wants_plain rfl) rfl (still_as rfl opd_const) ?_
  refine OD.wk (Wk.as_ (n := 77) (l' := [(0, _)]) (S' := []) rfl rfl ⟨(by (repeat (first | exact look_hit | (apply look_miss; focus rfl) | exact look_nil)); done), trivial⟩) ?_
  refine OD.nil ?_
  refine CD.seq ?_
  refine CD.region ?_
  refine OD.still (wants_plain rfl) rfl (still_mv rfl (opd_tmp rfl (by (repeat (first | exact look_hit | (apply look_miss; focus rfl) | exact look_nil)); done))) ?_
  refine OD.callP (wants_plain rfl) rfl rfl rfl Tryd.call14 (picked_vp _ n 8 h1 h2 (by decide)) ⟨(opd_tmp rfl (by (repeat (first | exact look_hit | (apply look_miss; focus rfl) | exact look_nil)); done)), opd_const, trivial⟩ ?_
  refine OD.still (wants_plain rfl) rfl (still_bin rfl opd_const (opd_tmp rfl (by (repeat (first | exact look_hit | (apply look_miss; focus rfl) | exact look_nil)); done)) (bin_add (r := (k : Int)) (by rw [wrap_i64 (by omega) (by omega)]; omega))) ?_
  refine OD.still (wants_plain rfl) rfl (still_as rfl (opd_tmp rfl (by (repeat (first | exact look_hit | (apply look_miss; focus rfl) | exact look_nil)); done))) ?_
  refine OD.wk (Wk.as_ (n := 77) (l' := [(3, _)]) (S' := []) rfl rfl ⟨(by (repeat (first | exact look_hit | (apply look_miss; focus rfl) | exact look_nil)); done), trivial⟩) ?_
  refine OD.nil ?_
  refine CD.seq ?_
  refine CD.region ?_
  refine OD.alloc (ds := [_, _]) (wants_plain rfl) rfl rfl Tryd.zeroValue25 rfl (fun b4 => ?_)
  refine OD.wk (Wk.as_ (n := 77) (l' := [(3, _), (4, _)]) (S' := [⟨b4, 25, 2, [_, _]⟩]) rfl rfl ⟨(by (repeat (first | exact look_hit | (apply look_miss; focus rfl) | exact look_nil)); done), (by (repeat (first | exact look_hit | (apply look_miss; focus rfl) | exact look_nil)); done), trivial⟩) ?_
  refine OD.nil ?_
  refine CD.seq ?_
  refine CD.seq ?_
  refine CD.region ?_
  refine OD.wk cover_nil ?_
  refine OD.still (wants_plain rfl) rfl (still_as rfl opd_const) ?_
  refine OD.wk (Wk.as_ (n := 77) (l' := [(3, _), (4, _), (5, _)]) (S' := [⟨b4, 25, 2, [_, _]⟩]) rfl rfl ⟨(by (repeat (first | exact look_hit | (apply look_miss; focus rfl) | exact look_nil)); done), (by (repeat (first | exact look_hit | (apply look_miss; focus rfl) | exact look_nil)); done), (by (repeat (first | exact look_hit | (apply look_miss; focus rfl) | exact look_nil)); done), trivial⟩) ?_
  refine OD.nil ?_
  refine CD.block ?_
  refine CD.wk (Wk.asS (n := 77) (l' := [(3, .v (.int .i64 k)), (4, .v (.pointer (some ⟨b4, 0, none⟩))), (5, .v (.int .i64 ((((0) : Nat) : Int) + 1)))]) (S' := [⟨b4, 25, 2, [locksD (rowL 3 (0)), locksD []]⟩]) rfl (by repeat (first | exact List.Sublist.refl _ | apply List.Sublist.cons)) ⟨(by (repeat (first | exact look_hit | (apply look_at; focus (first | rfl | (simp; done) | (congr 2; omega))) | (apply look_miss; focus rfl))); done), (by (repeat (first | exact look_hit | (apply look_at; focus (first | rfl | (simp; done) | (congr 2; omega))) | (apply look_miss; focus rfl))); done), (by (repeat (first | exact look_hit | (apply look_at; focus (first | rfl | (simp; done) | (congr 2; omega))) | (apply look_miss; focus rfl))); done), trivial⟩) (CD.loop (fun (m : Nat) y__ => (m ≤ k) ∧ (Good (rowL 3 m) []) ∧ y__ = (⟨77, [(3, .v (.int .i64 k)), (4, .v (.pointer (some ⟨b4, 0, none⟩))), (5, .v (.int .i64 (((m : Nat) : Int) + 1)))], [⟨b4, 25, 2, [locksD (rowL 3 m), locksD []]⟩]⟩ : St)) (fun (m : Nat) => k - m) 0 ⟨(Nat.zero_le _), good_nil, rfl⟩ ?_)
  rintro m _ ⟨hm, g, rfl⟩
  refine CD.seq ?_
  refine CD.seq ?_
  refine CD.region ?_
  refine OD.still (wants_plain rfl) rfl (still_mv rfl (opd_tmp rfl (by (repeat (first | exact look_hit | (apply look_miss; focus rfl) | exact look_nil)); done))) ?_
  refine OD.still (wants_plain rfl) rfl (still_mv rfl (opd_tmp rfl (by (repeat (first | exact look_hit | (apply look_miss; focus rfl) | exact look_nil)); done))) ?_
  refine OD.still (wants_plain rfl) rfl (still_bin rfl (opd_tmp rfl (by (repeat (first | exact look_hit | (apply look_miss; focus rfl) | exact look_nil)); done)) (opd_tmp rfl (by (repeat (first | exact look_hit | (apply look_miss; focus rfl) | exact look_nil)); done)) bin_leq) ?_
  refine OD.wk (Wk.as_ (n := 77) (l' := [(3, _), (4, _), (5, _), (20, _)]) (S' := [⟨b4, 25, 2, [_, _]⟩]) rfl rfl ⟨(by (repeat (first | exact look_hit | (apply look_miss; focus rfl) | exact look_nil)); done), (by (repeat (first | exact look_hit | (apply look_miss; focus rfl) | exact look_nil)); done), (by (repeat (first | exact look_hit | (apply look_miss; focus rfl) | exact look_nil)); done), (by (repeat (first | exact look_hit | (apply look_miss; focus rfl) | exact look_nil)); done), trivial⟩) ?_
  refine OD.nil ?_
  refine CD.cond (opd_tmp rfl (by (repeat (first | exact look_hit | (apply look_miss; focus rfl) | exact look_nil)); done)) (fun hc0 => ?_) (fun hc0 => ?_)
  · have hc0' := hc0
    (try simp only [decide_eq_true_eq, decide_eq_false_iff_not, beq_iff_eq, bne_iff_ne, Bool.not_eq_true', Bool.not_eq_false', Bool.not_eq_true, Bool.not_eq_false, beq_eq_false_iff_ne, ne_eq, bne_eq_false_iff_eq, Bool.and_eq_true, Bool.or_eq_true, Bool.not_not, Bool.and_eq_false_iff, Bool.or_eq_false_iff, Int.not_lt, Int.not_le] at hc0')
    have hask := all_ask (k := m) (by omega)
    refine CD.skip ?_
    refine CD.seq ?_
    refine CD.block ?_
    refine CD.seq ?_
    refine CD.region ?_
    refine OD.still (wants_plain rfl) rfl (still_r1 (mk := Op.load 25) rfl (opd_tmp rfl (by (repeat (first | exact look_hit | (apply look_miss; focus rfl) | exact look_nil)); done)) (by first | exact ld_blks (k := 0) (ds := [_, _]) rfl rfl Tryd.isAgg25 Tryd.sizeOf25 rfl rfl | exact ld_fms cL_len Tryd.isAgg25 Tryd.sizeOf25 (by first | assumption | omega) | exact ld_fms cI_len Tryd.isAgg25 Tryd.sizeOf25 (by first | assumption | omega) | exact ld_rows (k := 0) cL_len rfl rfl rfl Tryd.isAgg25 Tryd.sizeOf25 (by first | assumption | omega) | exact ld_rows (k := 0) cI_len rfl rfl rfl Tryd.isAgg25 Tryd.sizeOf25 (by first | assumption | omega) | exact ld_is (ds := [_, _]) Tryd.isAgg25 Tryd.sizeOf25 rfl rfl)) ?_
    refine OD.still (wants_plain rfl) rfl (still_mv rfl (opd_tmp rfl (by (repeat (first | exact look_hit | (apply look_miss; focus rfl) | exact look_nil)); done))) ?_
    refine OD.still (wants_plain rfl) rfl (still_bld (pl := [(0, _), (1, _), (2, _)]) (ds := [_, _, _]) rfl Tryd.zeroValue27 Tryd.runUnderlying27 places27_Lka ⟨rfl, (opd_tmp rfl (by (repeat (first | exact look_hit | (apply look_miss; focus rfl) | exact look_nil)); done)), rfl, opd_const, rfl, opd_const, trivial⟩ rfl rfl) ?_
    refine OD.callP (wants_plain rfl) rfl rfl rfl Tryd.call15 (ask_vp g hask) ⟨(opd_tmp rfl (by (repeat (first | exact look_hit | (apply look_miss; focus rfl) | exact look_nil)); done)), (opd_tmp rfl (by (repeat (first | exact look_hit | (apply look_miss; focus rfl) | exact look_nil)); done)), trivial⟩ ?_
    refine OD.still (wants_plain rfl) rfl (still_mv rfl (opd_tmp rfl (by (repeat (first | exact look_hit | (apply look_miss; focus rfl) | exact look_nil)); done))) ?_
    refine OD.still (wants_plain rfl) rfl (still_extract rfl (opd_tmp rfl (by (repeat (first | exact look_hit | (apply look_miss; focus rfl) | exact look_nil)); done)) rfl) ?_
    refine OD.still (wants_plain rfl) rfl (still_extract rfl (opd_tmp rfl (by (repeat (first | exact look_hit | (apply look_miss; focus rfl) | exact look_nil)); done)) rfl) ?_
    refine OD.still (wants_plain rfl) rfl (still_extract rfl (opd_tmp rfl (by (repeat (first | exact look_hit | (apply look_miss; focus rfl) | exact look_nil)); done)) rfl) ?_
    refine OD.alloc (ds := [_, _]) (wants_plain rfl) rfl rfl Tryd.zeroValue25 rfl (fun b6 => ?_)
    refine OD.store (k := 0) (cs' := [_, _]) (wants_plain rfl) rfl rfl (opd_tmp rfl (by (repeat (first | exact look_hit | (apply look_miss; focus rfl) | exact look_nil)); done)) rfl rfl (opd_tmp rfl (by (repeat (first | exact look_hit | (apply look_miss; focus rfl) | exact look_nil)); done)) rfl rfl Tryd.sizeOf25 rfl rfl rfl ?_
    refine OD.still (wants_plain rfl) rfl (still_as rfl (opd_tmp rfl (by (repeat (first | exact look_hit | (apply look_miss; focus rfl) | exact look_nil)); done))) ?_
    refine OD.still (wants_plain rfl) rfl (still_as rfl (opd_tmp rfl (by (repeat (first | exact look_hit | (apply look_miss; focus rfl) | exact look_nil)); done))) ?_
    refine OD.wk (Wk.as_ (n := 77) (l' := [(3, _), (4, _), (5, _), (6, _), (7, _), (8, _)]) (S' := [⟨b6, 25, 2, [_, _]⟩, ⟨b4, 25, 2, [_, _]⟩]) rfl rfl ⟨(by (repeat (first | exact look_hit | (apply look_miss; focus rfl) | exact look_nil)); done), (by (repeat (first | exact look_hit | (apply look_miss; focus rfl) | exact look_nil)); done), (by (repeat (first | exact look_hit | (apply look_miss; focus rfl) | exact look_nil)); done), (by (repeat (first | exact look_hit | (apply look_miss; focus rfl) | exact look_nil)); done), (by (repeat (first | exact look_hit | (apply look_miss; focus rfl) | exact look_nil)); done), (by (repeat (first | exact look_hit | (apply look_miss; focus rfl) | exact look_nil)); done), trivial⟩) ?_
    refine OD.nil ?_
    refine CD.seq ?_
    refine CD.seq ?_
    refine CD.region ?_
    refine OD.still (wants_plain rfl) rfl (still_mv rfl (opd_tmp rfl (by (repeat (first | exact look_hit | (apply look_miss; focus rfl) | exact look_nil)); done))) ?_
    refine OD.still (wants_plain rfl) rfl (still_bin rfl (opd_tmp rfl (by (repeat (first | exact look_hit | (apply look_miss; focus rfl) | exact look_nil)); done)) opd_const bin_neq) ?_
    refine OD.still (wants_plain rfl) rfl (still_mv rfl (opd_tmp rfl (by (repeat (first | exact look_hit | (apply look_miss; focus rfl) | exact look_nil)); done))) ?_
    refine OD.split (t := 33) (by (repeat (first | exact look_hit | (apply look_miss; focus rfl) | exact look_nil)); done) (fun hg33 => ?_) (fun hg33 => ?_)
    · exact absurd hg33 (by simp at hg33)
    · have hg33' := hg33; simp only [decide_eq_true_eq, decide_eq_false_iff_not, beq_iff_eq, bne_iff_ne, Bool.not_eq_true', Bool.not_eq_false', Bool.not_eq_true, Bool.not_eq_false, beq_eq_false_iff_ne, ne_eq, bne_eq_false_iff_eq, Bool.and_eq_true, Bool.or_eq_true, Bool.not_not] at hg33'
      refine OD.still (wants_T rfl rfl rfl (by (repeat (first | exact look_hit | (apply look_miss; focus rfl) | exact look_nil)); done) (by first | rfl | assumption)) rfl (still_mv rfl (opd_tmp rfl (by (repeat (first | exact look_hit | (apply look_miss; focus rfl) | exact look_nil)); done))) ?_
      refine OD.still (wants_T rfl rfl rfl (by (repeat (first | exact look_hit | (apply look_miss; focus rfl) | exact look_nil)); done) (by first | rfl | assumption)) rfl (still_un rfl (opd_tmp rfl (by (repeat (first | exact look_hit | (apply look_miss; focus rfl) | exact look_nil)); done)) un_not) ?_
      refine OD.still (wants_plain rfl) rfl (still_pickF rfl (opd_tmp rfl (by (repeat (first | exact look_hit | (apply look_miss; focus rfl) | exact look_nil)); done)) (by first | rfl | assumption) (opd_tmp rfl (by (repeat (first | exact look_hit | (apply look_miss; focus rfl) | exact look_nil)); done))) ?_
      refine OD.wk (Wk.as_ (n := 77) (l' := [(3, _), (4, _), (5, _), (6, _), (36, _)]) (S' := [⟨b6, 25, 2, [_, _]⟩, ⟨b4, 25, 2, [_, _]⟩]) rfl rfl ⟨(by (repeat (first | exact look_hit | (apply look_miss; focus rfl) | exact look_nil)); done), (by (repeat (first | exact look_hit | (apply look_miss; focus rfl) | exact look_nil)); done), (by (repeat (first | exact look_hit | (apply look_miss; focus rfl) | exact look_nil)); done), (by (repeat (first | exact look_hit | (apply look_miss; focus rfl) | exact look_nil)); done), (by (repeat (first | exact look_hit | (apply look_miss; focus rfl) | exact look_nil)); done), trivial⟩) ?_
      refine OD.nil ?_
      refine CD.cond (opd_tmp rfl (by (repeat (first | exact look_hit | (apply look_miss; focus rfl) | exact look_nil)); done)) (fun hc1 => ?_) (fun hc1 => ?_)
      · exact absurd hc1 (by simp at hc1)
      · have hc1' := hc1
        (try simp only [decide_eq_true_eq, decide_eq_false_iff_not, beq_iff_eq, bne_iff_ne, Bool.not_eq_true', Bool.not_eq_false', Bool.not_eq_true, Bool.not_eq_false, beq_eq_false_iff_ne, ne_eq, bne_eq_false_iff_eq, Bool.and_eq_true, Bool.or_eq_true, Bool.not_not, Bool.and_eq_false_iff, Bool.or_eq_false_iff, Int.not_lt, Int.not_le] at hc1')
        refine CD.skip ?_
        refine CD.region ?_
        refine OD.still (wants_plain rfl) rfl (still_r1 (mk := Op.load 25) rfl (opd_tmp rfl (by (repeat (first | exact look_hit | (apply look_miss; focus rfl) | exact look_nil)); done)) (by first | exact ld_blks (k := 0) (ds := [_, _]) rfl rfl Tryd.isAgg25 Tryd.sizeOf25 rfl rfl | exact ld_fms cL_len Tryd.isAgg25 Tryd.sizeOf25 (by first | assumption | omega) | exact ld_fms cI_len Tryd.isAgg25 Tryd.sizeOf25 (by first | assumption | omega) | exact ld_rows (k := 0) cL_len rfl rfl rfl Tryd.isAgg25 Tryd.sizeOf25 (by first | assumption | omega) | exact ld_rows (k := 1) cL_len rfl rfl rfl Tryd.isAgg25 Tryd.sizeOf25 (by first | assumption | omega) | exact ld_rows (k := 0) cI_len rfl rfl rfl Tryd.isAgg25 Tryd.sizeOf25 (by first | assumption | omega) | exact ld_rows (k := 1) cI_len rfl rfl rfl Tryd.isAgg25 Tryd.sizeOf25 (by first | assumption | omega) | exact ld_is (ds := [_, _]) Tryd.isAgg25 Tryd.sizeOf25 rfl rfl)) ?_
        refine OD.store (k := 1) (cs' := [_, _]) (wants_plain rfl) rfl rfl (opd_tmp rfl (by (repeat (first | exact look_hit | (apply look_miss; focus rfl) | exact look_nil)); done)) rfl rfl (opd_tmp rfl (by (repeat (first | exact look_hit | (apply look_miss; focus rfl) | exact look_nil)); done)) rfl rfl Tryd.sizeOf25 rfl rfl rfl ?_
        refine OD.wk (Wk.as_ (n := 77) (l' := [(3, _), (4, _), (5, _)]) (S' := [⟨b6, 25, 2, [_, _]⟩, ⟨b4, 25, 2, [_, _]⟩]) rfl rfl ⟨(by (repeat (first | exact look_hit | (apply look_miss; focus rfl) | exact look_nil)); done), (by (repeat (first | exact look_hit | (apply look_miss; focus rfl) | exact look_nil)); done), (by (repeat (first | exact look_hit | (apply look_miss; focus rfl) | exact look_nil)); done), trivial⟩) ?_
        refine OD.nil ?_
        refine CD.region ?_
        refine OD.still (wants_plain rfl) rfl (still_mv rfl (opd_tmp rfl (by (repeat (first | exact look_hit | (apply look_miss; focus rfl) | exact look_nil)); done))) ?_
        refine OD.still (wants_plain rfl) rfl (still_bin rfl (opd_tmp rfl (by (repeat (first | exact look_hit | (apply look_miss; focus rfl) | exact look_nil)); done)) opd_const (bin_add (wrap_i64 (by omega) (by omega)))) ?_
        refine OD.still (wants_plain rfl) rfl (still_as rfl (opd_tmp rfl (by (repeat (first | exact look_hit | (apply look_miss; focus rfl) | exact look_nil)); done))) ?_
        refine OD.wk (Wk.as_ (n := 77) (l' := [(3, _), (4, _), (5, _)]) (S' := [⟨b6, 25, 2, [_, _]⟩, ⟨b4, 25, 2, [_, _]⟩]) rfl rfl ⟨(by (repeat (first | exact look_hit | (apply look_miss; focus rfl) | exact look_nil)); done), (by (repeat (first | exact look_hit | (apply look_miss; focus rfl) | exact look_nil)); done), (by (repeat (first | exact look_hit | (apply look_miss; focus rfl) | exact look_nil)); done), trivial⟩) ?_
        refine OD.nil ?_
        refine ⟨(m + 1), ⟨77, [(3, .v (.int .i64 k)), (4, .v (.pointer (some ⟨b4, 0, none⟩))), (5, .v (.int .i64 (((((m + 1)) : Nat) : Int) + 1)))], [⟨b4, 25, 2, [locksD (rowL 3 ((m + 1))), locksD []]⟩]⟩, ?_, Wk.asS (n := 77) rfl (by repeat (first | exact List.Sublist.refl _ | apply List.Sublist.cons)) ⟨(by (repeat (first | exact look_hit | (apply look_at; focus (first | rfl | (simp; done) | (congr 2; omega))) | (apply look_miss; focus rfl))); done), (by (repeat (first | exact look_hit | (apply look_at; focus (first | rfl | (simp; done) | (congr 2; omega))) | (apply look_miss; focus rfl))); done), (by (repeat (first | exact look_hit | (apply look_at; focus (first | rfl | (simp; done) | (congr 2; omega))) | (apply look_miss; focus rfl))); done), trivial⟩, (by omega), (ask_good g hask), rfl⟩
        first | omega | (simp only []; omega)
  · have hc0' := hc0
    (try simp only [decide_eq_true_eq, decide_eq_false_iff_not, beq_iff_eq, bne_iff_ne, Bool.not_eq_true', Bool.not_eq_false', Bool.not_eq_true, Bool.not_eq_false, beq_eq_false_iff_ne, ne_eq, bne_eq_false_iff_eq, Bool.and_eq_true, Bool.or_eq_true, Bool.not_not, Bool.and_eq_false_iff, Bool.or_eq_false_iff, Int.not_lt, Int.not_le] at hc0')
    obtain rfl : m = k := by omega
    have hask := all_wait (k := m) (by omega) (by omega)
    refine CD.exit ?_
    refine CD.seq ?_
    refine CD.region ?_
    refine OD.still (wants_plain rfl) rfl (still_r1 (mk := Op.load 25) rfl (opd_tmp rfl (by (repeat (first | exact look_hit | (apply look_miss; focus rfl) | exact look_nil)); done)) (by first | exact ld_blks (k := 0) (ds := [_, _]) rfl rfl Tryd.isAgg25 Tryd.sizeOf25 rfl rfl | exact ld_fms cL_len Tryd.isAgg25 Tryd.sizeOf25 (by first | assumption | omega) | exact ld_fms cI_len Tryd.isAgg25 Tryd.sizeOf25 (by first | assumption | omega) | exact ld_rows (k := 0) cL_len rfl rfl rfl Tryd.isAgg25 Tryd.sizeOf25 (by first | assumption | omega) | exact ld_rows (k := 0) cI_len rfl rfl rfl Tryd.isAgg25 Tryd.sizeOf25 (by first | assumption | omega) | exact ld_is (ds := [_, _]) Tryd.isAgg25 Tryd.sizeOf25 rfl rfl)) ?_
    refine OD.still (wants_plain rfl) rfl (still_bld (pl := [(0, _), (1, _), (2, _)]) (ds := [_, _, _]) rfl Tryd.zeroValue27 Tryd.runUnderlying27 places27_Lka ⟨rfl, opd_const, rfl, opd_const, rfl, opd_const, trivial⟩ rfl rfl) ?_
    refine OD.callP (wants_plain rfl) rfl rfl rfl Tryd.call15 (ask_vp g hask) ⟨(opd_tmp rfl (by (repeat (first | exact look_hit | (apply look_miss; focus rfl) | exact look_nil)); done)), (opd_tmp rfl (by (repeat (first | exact look_hit | (apply look_miss; focus rfl) | exact look_nil)); done)), trivial⟩ ?_
    refine OD.still (wants_plain rfl) rfl (still_mv rfl (opd_tmp rfl (by (repeat (first | exact look_hit | (apply look_miss; focus rfl) | exact look_nil)); done))) ?_
    refine OD.still (wants_plain rfl) rfl (still_extract rfl (opd_tmp rfl (by (repeat (first | exact look_hit | (apply look_miss; focus rfl) | exact look_nil)); done)) rfl) ?_
    refine OD.still (wants_plain rfl) rfl (still_extract rfl (opd_tmp rfl (by (repeat (first | exact look_hit | (apply look_miss; focus rfl) | exact look_nil)); done)) rfl) ?_
    refine OD.still (wants_plain rfl) rfl (still_extract rfl (opd_tmp rfl (by (repeat (first | exact look_hit | (apply look_miss; focus rfl) | exact look_nil)); done)) rfl) ?_
    refine OD.store (k := 0) (cs' := [_, _]) (wants_plain rfl) rfl rfl (opd_tmp rfl (by (repeat (first | exact look_hit | (apply look_miss; focus rfl) | exact look_nil)); done)) rfl rfl (opd_tmp rfl (by (repeat (first | exact look_hit | (apply look_miss; focus rfl) | exact look_nil)); done)) rfl rfl Tryd.sizeOf25 rfl rfl rfl ?_
    refine OD.still (wants_plain rfl) rfl (still_as rfl (opd_tmp rfl (by (repeat (first | exact look_hit | (apply look_miss; focus rfl) | exact look_nil)); done))) ?_
    refine OD.still (wants_plain rfl) rfl (still_as rfl (opd_tmp rfl (by (repeat (first | exact look_hit | (apply look_miss; focus rfl) | exact look_nil)); done))) ?_
    refine OD.wk (Wk.as_ (n := 77) (l' := [(3, _), (4, _), (9, _), (10, _)]) (S' := [⟨b4, 25, 2, [_, _]⟩]) rfl rfl ⟨(by (repeat (first | exact look_hit | (apply look_miss; focus rfl) | exact look_nil)); done), (by (repeat (first | exact look_hit | (apply look_miss; focus rfl) | exact look_nil)); done), (by (repeat (first | exact look_hit | (apply look_miss; focus rfl) | exact look_nil)); done), (by (repeat (first | exact look_hit | (apply look_miss; focus rfl) | exact look_nil)); done), trivial⟩) ?_
    refine OD.nil ?_
    refine CD.seq ?_
    refine CD.seq ?_
    refine CD.region ?_
    refine OD.still (wants_plain rfl) rfl (still_mv rfl (opd_tmp rfl (by (repeat (first | exact look_hit | (apply look_miss; focus rfl) | exact look_nil)); done))) ?_
    refine OD.still (wants_plain rfl) rfl (still_bin rfl (opd_tmp rfl (by (repeat (first | exact look_hit | (apply look_miss; focus rfl) | exact look_nil)); done)) opd_const bin_neq) ?_
    refine OD.still (wants_plain rfl) rfl (still_mv rfl (opd_tmp rfl (by (repeat (first | exact look_hit | (apply look_miss; focus rfl) | exact look_nil)); done))) ?_
    refine OD.split (t := 47) (by (repeat (first | exact look_hit | (apply look_miss; focus rfl) | exact look_nil)); done) (fun hg47 => ?_) (fun hg47 => ?_)
    · exact absurd hg47 (by simp at hg47)
    · have hg47' := hg47; simp only [decide_eq_true_eq, decide_eq_false_iff_not, beq_iff_eq, bne_iff_ne, Bool.not_eq_true', Bool.not_eq_false', Bool.not_eq_true, Bool.not_eq_false, beq_eq_false_iff_ne, ne_eq, bne_eq_false_iff_eq, Bool.and_eq_true, Bool.or_eq_true, Bool.not_not] at hg47'
      refine OD.still (wants_T rfl rfl rfl (by (repeat (first | exact look_hit | (apply look_miss; focus rfl) | exact look_nil)); done) (by first | rfl | assumption)) rfl (still_mv rfl (opd_tmp rfl (by (repeat (first | exact look_hit | (apply look_miss; focus rfl) | exact look_nil)); done))) ?_
      refine OD.still (wants_plain rfl) rfl (still_pickF rfl (opd_tmp rfl (by (repeat (first | exact look_hit | (apply look_miss; focus rfl) | exact look_nil)); done)) (by first | rfl | assumption) (opd_tmp rfl (by (repeat (first | exact look_hit | (apply look_miss; focus rfl) | exact look_nil)); done))) ?_
      refine OD.wk (Wk.as_ (n := 77) (l' := [(3, _), (4, _), (49, _)]) (S' := [⟨b4, 25, 2, [_, _]⟩]) rfl rfl ⟨(by (repeat (first | exact look_hit | (apply look_miss; focus rfl) | exact look_nil)); done), (by (repeat (first | exact look_hit | (apply look_miss; focus rfl) | exact look_nil)); done), (by (repeat (first | exact look_hit | (apply look_miss; focus rfl) | exact look_nil)); done), trivial⟩) ?_
      refine OD.nil ?_
      refine CD.cond (opd_tmp rfl (by (repeat (first | exact look_hit | (apply look_miss; focus rfl) | exact look_nil)); done)) (fun hc2 => ?_) (fun hc2 => ?_)
      · exact absurd hc2 (by simp at hc2)
      · have hc2' := hc2
        (try simp only [decide_eq_true_eq, decide_eq_false_iff_not, beq_iff_eq, bne_iff_ne, Bool.not_eq_true', Bool.not_eq_false', Bool.not_eq_true, Bool.not_eq_false, beq_eq_false_iff_ne, ne_eq, bne_eq_false_iff_eq, Bool.and_eq_true, Bool.or_eq_true, Bool.not_not, Bool.and_eq_false_iff, Bool.or_eq_false_iff, Int.not_lt, Int.not_le] at hc2')
        refine CD.skip ?_
        refine CD.seq ?_
        refine CD.seq ?_
        refine CD.region ?_
        refine OD.still (wants_plain rfl) rfl (still_as rfl opd_const) ?_
        refine OD.wk (Wk.as_ (n := 77) (l' := [(3, _), (4, _), (11, _)]) (S' := [⟨b4, 25, 2, [_, _]⟩]) rfl rfl ⟨(by (repeat (first | exact look_hit | (apply look_miss; focus rfl) | exact look_nil)); done), (by (repeat (first | exact look_hit | (apply look_miss; focus rfl) | exact look_nil)); done), (by (repeat (first | exact look_hit | (apply look_miss; focus rfl) | exact look_nil)); done), trivial⟩) ?_
        refine OD.nil ?_
        refine CD.block ?_
        refine CD.wk (Wk.asS (n := 77) (l' := [(3, .v (.int .i64 m)), (4, .v (.pointer (some ⟨b4, 0, none⟩))), (11, .v (.int .i64 ((((0) : Nat) : Int) + 1)))]) (S' := [⟨b4, 25, 2, [locksD ((rowL 3 m)), locksD ([allX])]⟩]) rfl (by repeat (first | exact List.Sublist.refl _ | apply List.Sublist.cons)) ⟨(by (repeat (first | exact look_hit | (apply look_at; focus (first | rfl | (simp; done) | (congr 2; omega))) | (apply look_miss; focus rfl))); done), (by (repeat (first | exact look_hit | (apply look_at; focus (first | rfl | (simp; done) | (congr 2; omega))) | (apply look_miss; focus rfl))); done), (by (repeat (first | exact look_hit | (apply look_at; focus (first | rfl | (simp; done) | (congr 2; omega))) | (apply look_miss; focus rfl))); done), trivial⟩) (CD.loop (fun (gh__ : Nat × List L × List L) y__ => match gh__ with | (j, h, q) => (j ≤ m) ∧ (Good h q) ∧ (allS m j = (h, q)) ∧ y__ = (⟨77, [(3, .v (.int .i64 m)), (4, .v (.pointer (some ⟨b4, 0, none⟩))), (11, .v (.int .i64 (((j : Nat) : Int) + 1)))], [⟨b4, 25, 2, [locksD h, locksD q]⟩]⟩ : St)) (fun (gh__ : Nat × List L × List L) => match gh__ with | (j, h, q) => m - j) (0, (rowL 3 m), [allX]) ⟨(Nat.zero_le _), (ask_good g hask), (by unfold allS; rw [if_pos (by omega)]; rfl), rfl⟩ ?_)
        rintro ⟨j, h, q⟩ _ ⟨hj, g2, hst, rfl⟩
        refine CD.seq ?_
        refine CD.seq ?_
        refine CD.region ?_
        refine OD.still (wants_plain rfl) rfl (still_mv rfl (opd_tmp rfl (by (repeat (first | exact look_hit | (apply look_miss; focus rfl) | exact look_nil)); done))) ?_
        refine OD.still (wants_plain rfl) rfl (still_mv rfl (opd_tmp rfl (by (repeat (first | exact look_hit | (apply look_miss; focus rfl) | exact look_nil)); done))) ?_
        refine OD.still (wants_plain rfl) rfl (still_bin rfl (opd_tmp rfl (by (repeat (first | exact look_hit | (apply look_miss; focus rfl) | exact look_nil)); done)) (opd_tmp rfl (by (repeat (first | exact look_hit | (apply look_miss; focus rfl) | exact look_nil)); done)) bin_leq) ?_
        refine OD.wk (Wk.as_ (n := 77) (l' := [(3, _), (4, _), (11, _), (52, _)]) (S' := [⟨b4, 25, 2, [_, _]⟩]) rfl rfl ⟨(by (repeat (first | exact look_hit | (apply look_miss; focus rfl) | exact look_nil)); done), (by (repeat (first | exact look_hit | (apply look_miss; focus rfl) | exact look_nil)); done), (by (repeat (first | exact look_hit | (apply look_miss; focus rfl) | exact look_nil)); done), (by (repeat (first | exact look_hit | (apply look_miss; focus rfl) | exact look_nil)); done), trivial⟩) ?_
        refine OD.nil ?_
        refine CD.cond (opd_tmp rfl (by (repeat (first | exact look_hit | (apply look_miss; focus rfl) | exact look_nil)); done)) (fun hc3 => ?_) (fun hc3 => ?_)
        · have hc3' := hc3
          (try simp only [decide_eq_true_eq, decide_eq_false_iff_not, beq_iff_eq, bne_iff_ne, Bool.not_eq_true', Bool.not_eq_false', Bool.not_eq_true, Bool.not_eq_false, beq_eq_false_iff_ne, ne_eq, bne_eq_false_iff_eq, Bool.and_eq_true, Bool.or_eq_true, Bool.not_not, Bool.and_eq_false_iff, Bool.or_eq_false_iff, Int.not_lt, Int.not_le] at hc3')
          have hlv := all_leave (k := m) (j := j) (by omega) (by omega)
          rw [hst] at hlv
          refine CD.skip ?_
          refine CD.seq ?_
          refine CD.block ?_
          refine CD.seq ?_
          refine CD.region ?_
          refine OD.still (wants_plain rfl) rfl (still_r1 (mk := Op.load 25) rfl (opd_tmp rfl (by (repeat (first | exact look_hit | (apply look_miss; focus rfl) | exact look_nil)); done)) (by first | exact ld_blks (k := 0) (ds := [_, _]) rfl rfl Tryd.isAgg25 Tryd.sizeOf25 rfl rfl | exact ld_fms cL_len Tryd.isAgg25 Tryd.sizeOf25 (by first | assumption | omega) | exact ld_fms cI_len Tryd.isAgg25 Tryd.sizeOf25 (by first | assumption | omega) | exact ld_rows (k := 0) cL_len rfl rfl rfl Tryd.isAgg25 Tryd.sizeOf25 (by first | assumption | omega) | exact ld_rows (k := 0) cI_len rfl rfl rfl Tryd.isAgg25 Tryd.sizeOf25 (by first | assumption | omega) | exact ld_is (ds := [_, _]) Tryd.isAgg25 Tryd.sizeOf25 rfl rfl)) ?_
          refine OD.still (wants_plain rfl) rfl (still_mv rfl (opd_tmp rfl (by (repeat (first | exact look_hit | (apply look_miss; focus rfl) | exact look_nil)); done))) ?_
          refine OD.callP (wants_plain rfl) rfl rfl rfl Tryd.call17 (leave_vp g2 hlv) ⟨(opd_tmp rfl (by (repeat (first | exact look_hit | (apply look_miss; focus rfl) | exact look_nil)); done)), (opd_tmp rfl (by (repeat (first | exact look_hit | (apply look_miss; focus rfl) | exact look_nil)); done)), trivial⟩ ?_
          refine OD.still (wants_plain rfl) rfl (still_mv rfl (opd_tmp rfl (by (repeat (first | exact look_hit | (apply look_miss; focus rfl) | exact look_nil)); done))) ?_
          refine OD.still (wants_plain rfl) rfl (still_extract rfl (opd_tmp rfl (by (repeat (first | exact look_hit | (apply look_miss; focus rfl) | exact look_nil)); done)) rfl) ?_
          refine OD.still (wants_plain rfl) rfl (still_extract rfl (opd_tmp rfl (by (repeat (first | exact look_hit | (apply look_miss; focus rfl) | exact look_nil)); done)) rfl) ?_
          refine OD.still (wants_plain rfl) rfl (still_extract rfl (opd_tmp rfl (by (repeat (first | exact look_hit | (apply look_miss; focus rfl) | exact look_nil)); done)) rfl) ?_
          refine OD.alloc (ds := [_, _]) (wants_plain rfl) rfl rfl Tryd.zeroValue25 rfl (fun b12 => ?_)
          refine OD.store (k := 0) (cs' := [_, _]) (wants_plain rfl) rfl rfl (opd_tmp rfl (by (repeat (first | exact look_hit | (apply look_miss; focus rfl) | exact look_nil)); done)) rfl rfl (opd_tmp rfl (by (repeat (first | exact look_hit | (apply look_miss; focus rfl) | exact look_nil)); done)) rfl rfl Tryd.sizeOf25 rfl rfl rfl ?_
          refine OD.still (wants_plain rfl) rfl (still_as rfl (opd_tmp rfl (by (repeat (first | exact look_hit | (apply look_miss; focus rfl) | exact look_nil)); done))) ?_
          refine OD.still (wants_plain rfl) rfl (still_as rfl (opd_tmp rfl (by (repeat (first | exact look_hit | (apply look_miss; focus rfl) | exact look_nil)); done))) ?_
          refine OD.wk (Wk.as_ (n := 77) (l' := [(3, _), (4, _), (11, _), (12, _), (13, _), (14, _)]) (S' := [⟨b12, 25, 2, [_, _]⟩, ⟨b4, 25, 2, [_, _]⟩]) rfl rfl ⟨(by (repeat (first | exact look_hit | (apply look_miss; focus rfl) | exact look_nil)); done), (by (repeat (first | exact look_hit | (apply look_miss; focus rfl) | exact look_nil)); done), (by (repeat (first | exact look_hit | (apply look_miss; focus rfl) | exact look_nil)); done), (by (repeat (first | exact look_hit | (apply look_miss; focus rfl) | exact look_nil)); done), (by (repeat (first | exact look_hit | (apply look_miss; focus rfl) | exact look_nil)); done), (by (repeat (first | exact look_hit | (apply look_miss; focus rfl) | exact look_nil)); done), trivial⟩) ?_
          refine OD.nil ?_
          refine CD.seq ?_
          refine CD.seq ?_
          refine CD.region ?_
          refine OD.still (wants_plain rfl) rfl (still_mv rfl (opd_tmp rfl (by (repeat (first | exact look_hit | (apply look_miss; focus rfl) | exact look_nil)); done))) ?_
          refine OD.still (wants_plain rfl) rfl (still_bin rfl (opd_tmp rfl (by (repeat (first | exact look_hit | (apply look_miss; focus rfl) | exact look_nil)); done)) opd_const bin_neq) ?_
          refine OD.still (wants_plain rfl) rfl (still_mv rfl (opd_tmp rfl (by (repeat (first | exact look_hit | (apply look_miss; focus rfl) | exact look_nil)); done))) ?_
          refine OD.split (t := 64) (by (repeat (first | exact look_hit | (apply look_miss; focus rfl) | exact look_nil)); done) (fun hg64 => ?_) (fun hg64 => ?_)
          · exact absurd hg64 (by simp at hg64)
          · have hg64' := hg64; simp only [decide_eq_true_eq, decide_eq_false_iff_not, beq_iff_eq, bne_iff_ne, Bool.not_eq_true', Bool.not_eq_false', Bool.not_eq_true, Bool.not_eq_false, beq_eq_false_iff_ne, ne_eq, bne_eq_false_iff_eq, Bool.and_eq_true, Bool.or_eq_true, Bool.not_not] at hg64'
            refine OD.still (wants_T rfl rfl rfl (by (repeat (first | exact look_hit | (apply look_miss; focus rfl) | exact look_nil)); done) (by first | rfl | assumption)) rfl (still_mv rfl (opd_tmp rfl (by (repeat (first | exact look_hit | (apply look_miss; focus rfl) | exact look_nil)); done))) ?_
            refine OD.still (wants_T rfl rfl rfl (by (repeat (first | exact look_hit | (apply look_miss; focus rfl) | exact look_nil)); done) (by first | rfl | assumption)) rfl (still_r1 (mk := fun y => .call { callee := .builtin .len, args := #[y], argTypes := #[34] }) rfl (opd_tmp rfl (by (repeat (first | exact look_hit | (apply look_miss; focus rfl) | exact look_nil)); done)) (by first | exact len_list rfl Tryd.runUnderlying34 | exact len_row rfl Tryd.runUnderlying34)) ?_
            refine OD.still (wants_T rfl rfl rfl (by (repeat (first | exact look_hit | (apply look_miss; focus rfl) | exact look_nil)); done) (by first | rfl | assumption)) rfl (still_bin rfl (opd_tmp rfl (by (repeat (first | exact look_hit | (apply look_miss; focus rfl) | exact look_nil)); done)) opd_const bin_eql) ?_
            refine OD.still (wants_T rfl rfl rfl (by (repeat (first | exact look_hit | (apply look_miss; focus rfl) | exact look_nil)); done) (by first | rfl | assumption)) rfl (still_mv rfl (opd_tmp rfl (by (repeat (first | exact look_hit | (apply look_miss; focus rfl) | exact look_nil)); done))) ?_
            refine OD.still (wants_T rfl rfl rfl (by (repeat (first | exact look_hit | (apply look_miss; focus rfl) | exact look_nil)); done) (by first | rfl | assumption)) rfl (still_mv rfl (opd_tmp rfl (by (repeat (first | exact look_hit | (apply look_miss; focus rfl) | exact look_nil)); done))) ?_
            refine OD.still (wants_T rfl rfl rfl (by (repeat (first | exact look_hit | (apply look_miss; focus rfl) | exact look_nil)); done) (by first | rfl | assumption)) rfl (still_bin rfl (opd_tmp rfl (by (repeat (first | exact look_hit | (apply look_miss; focus rfl) | exact look_nil)); done)) (opd_tmp rfl (by (repeat (first | exact look_hit | (apply look_miss; focus rfl) | exact look_nil)); done)) bin_eql) ?_
            refine OD.still (wants_T rfl rfl rfl (by (repeat (first | exact look_hit | (apply look_miss; focus rfl) | exact look_nil)); done) (by first | rfl | assumption)) rfl (still_bin rfl (opd_tmp rfl (by (repeat (first | exact look_hit | (apply look_miss; focus rfl) | exact look_nil)); done)) (opd_tmp rfl (by (repeat (first | exact look_hit | (apply look_miss; focus rfl) | exact look_nil)); done)) (bin_bneq Tryd.underlying4)) ?_
            refine OD.still (wants_plain rfl) rfl (still_pickF rfl (opd_tmp rfl (by (repeat (first | exact look_hit | (apply look_miss; focus rfl) | exact look_nil)); done)) (by first | rfl | assumption) (opd_tmp rfl (by (repeat (first | exact look_hit | (apply look_miss; focus rfl) | exact look_nil)); done))) ?_
            refine OD.wk (Wk.as_ (n := 77) (l' := [(3, _), (4, _), (11, _), (12, _), (72, _)]) (S' := [⟨b12, 25, 2, [_, _]⟩, ⟨b4, 25, 2, [_, _]⟩]) rfl rfl ⟨(by (repeat (first | exact look_hit | (apply look_miss; focus rfl) | exact look_nil)); done), (by (repeat (first | exact look_hit | (apply look_miss; focus rfl) | exact look_nil)); done), (by (repeat (first | exact look_hit | (apply look_miss; focus rfl) | exact look_nil)); done), (by (repeat (first | exact look_hit | (apply look_miss; focus rfl) | exact look_nil)); done), (by (repeat (first | exact look_hit | (apply look_miss; focus rfl) | exact look_nil)); done), trivial⟩) ?_
            refine OD.nil ?_
            refine CD.cond (opd_tmp rfl (by (repeat (first | exact look_hit | (apply look_miss; focus rfl) | exact look_nil)); done)) (fun hc4 => ?_) (fun hc4 => ?_)
            · exact absurd hc4 (by split at hc4 <;> simp at hc4 <;> omega)
            · have hc4' := hc4
              (try simp only [decide_eq_true_eq, decide_eq_false_iff_not, beq_iff_eq, bne_iff_ne, Bool.not_eq_true', Bool.not_eq_false', Bool.not_eq_true, Bool.not_eq_false, beq_eq_false_iff_ne, ne_eq, bne_eq_false_iff_eq, Bool.and_eq_true, Bool.or_eq_true, Bool.not_not, Bool.and_eq_false_iff, Bool.or_eq_false_iff, Int.not_lt, Int.not_le] at hc4')
              refine CD.skip ?_
              refine CD.region ?_
              refine OD.still (wants_plain rfl) rfl (still_r1 (mk := Op.load 25) rfl (opd_tmp rfl (by (repeat (first | exact look_hit | (apply look_miss; focus rfl) | exact look_nil)); done)) (by first | exact ld_blks (k := 0) (ds := [_, _]) rfl rfl Tryd.isAgg25 Tryd.sizeOf25 rfl rfl | exact ld_fms cL_len Tryd.isAgg25 Tryd.sizeOf25 (by first | assumption | omega) | exact ld_fms cI_len Tryd.isAgg25 Tryd.sizeOf25 (by first | assumption | omega) | exact ld_rows (k := 0) cL_len rfl rfl rfl Tryd.isAgg25 Tryd.sizeOf25 (by first | assumption | omega) | exact ld_rows (k := 1) cL_len rfl rfl rfl Tryd.isAgg25 Tryd.sizeOf25 (by first | assumption | omega) | exact ld_rows (k := 0) cI_len rfl rfl rfl Tryd.isAgg25 Tryd.sizeOf25 (by first | assumption | omega) | exact ld_rows (k := 1) cI_len rfl rfl rfl Tryd.isAgg25 Tryd.sizeOf25 (by first | assumption | omega) | exact ld_is (ds := [_, _]) Tryd.isAgg25 Tryd.sizeOf25 rfl rfl)) ?_
              refine OD.store (k := 1) (cs' := [_, _]) (wants_plain rfl) rfl rfl (opd_tmp rfl (by (repeat (first | exact look_hit | (apply look_miss; focus rfl) | exact look_nil)); done)) rfl rfl (opd_tmp rfl (by (repeat (first | exact look_hit | (apply look_miss; focus rfl) | exact look_nil)); done)) rfl rfl Tryd.sizeOf25 rfl rfl rfl ?_
              refine OD.wk (Wk.as_ (n := 77) (l' := [(3, _), (4, _), (11, _)]) (S' := [⟨b12, 25, 2, [_, _]⟩, ⟨b4, 25, 2, [_, _]⟩]) rfl rfl ⟨(by (repeat (first | exact look_hit | (apply look_miss; focus rfl) | exact look_nil)); done), (by (repeat (first | exact look_hit | (apply look_miss; focus rfl) | exact look_nil)); done), (by (repeat (first | exact look_hit | (apply look_miss; focus rfl) | exact look_nil)); done), trivial⟩) ?_
              refine OD.nil ?_
              refine CD.region ?_
              refine OD.still (wants_plain rfl) rfl (still_mv rfl (opd_tmp rfl (by (repeat (first | exact look_hit | (apply look_miss; focus rfl) | exact look_nil)); done))) ?_
              refine OD.still (wants_plain rfl) rfl (still_bin rfl (opd_tmp rfl (by (repeat (first | exact look_hit | (apply look_miss; focus rfl) | exact look_nil)); done)) opd_const (bin_add (wrap_i64 (by omega) (by omega)))) ?_
              refine OD.still (wants_plain rfl) rfl (still_as rfl (opd_tmp rfl (by (repeat (first | exact look_hit | (apply look_miss; focus rfl) | exact look_nil)); done))) ?_
              refine OD.wk (Wk.as_ (n := 77) (l' := [(3, _), (4, _), (11, _)]) (S' := [⟨b12, 25, 2, [_, _]⟩, ⟨b4, 25, 2, [_, _]⟩]) rfl rfl ⟨(by (repeat (first | exact look_hit | (apply look_miss; focus rfl) | exact look_nil)); done), (by (repeat (first | exact look_hit | (apply look_miss; focus rfl) | exact look_nil)); done), (by (repeat (first | exact look_hit | (apply look_miss; focus rfl) | exact look_nil)); done), trivial⟩) ?_
              refine OD.nil ?_
              refine ⟨((j + 1), (allS m (j + 1)).1, (allS m (j + 1)).2), ⟨77, [(3, .v (.int .i64 m)), (4, .v (.pointer (some ⟨b4, 0, none⟩))), (11, .v (.int .i64 (((((j + 1)) : Nat) : Int) + 1)))], [⟨b4, 25, 2, [locksD ((allS m (j + 1)).1), locksD ((allS m (j + 1)).2)]⟩]⟩, ?_, Wk.asS (n := 77) rfl (by repeat (first | exact List.Sublist.refl _ | apply List.Sublist.cons)) ⟨(by (repeat (first | exact look_hit | (apply look_at; focus (first | rfl | (simp; done) | (congr 2; omega))) | (apply look_miss; focus rfl))); done), (by (repeat (first | exact look_hit | (apply look_at; focus (first | rfl | (simp; done) | (congr 2; omega))) | (apply look_miss; focus rfl))); done), (by (repeat (first | exact look_hit | (apply look_at; focus (first | rfl | (simp; done) | (congr 2; omega))) | (apply look_miss; focus rfl))); done), trivial⟩, (by omega), (leave_good g2 hlv), rfl, rfl⟩
              first | omega | (simp only []; omega)
        · have hc3' := hc3
          (try simp only [decide_eq_true_eq, decide_eq_false_iff_not, beq_iff_eq, bne_iff_ne, Bool.not_eq_true', Bool.not_eq_false', Bool.not_eq_true, Bool.not_eq_false, beq_eq_false_iff_ne, ne_eq, bne_eq_false_iff_eq, Bool.and_eq_true, Bool.or_eq_true, Bool.not_not, Bool.and_eq_false_iff, Bool.or_eq_false_iff, Int.not_lt, Int.not_le] at hc3')
          obtain rfl : j = m := by omega
          have hst2 : h = [allX] ∧ q = [] := by unfold allS at hst; rw [if_neg (by omega)] at hst; cases hst; exact ⟨rfl, rfl⟩
          obtain ⟨rfl, rfl⟩ := hst2
          refine CD.exit ?_
          refine CD.seq ?_
          refine CD.region ?_
          refine OD.still (wants_plain rfl) rfl (still_r1 (mk := Op.load 25) rfl (opd_tmp rfl (by (repeat (first | exact look_hit | (apply look_miss; focus rfl) | exact look_nil)); done)) (by first | exact ld_blks (k := 0) (ds := [_, _]) rfl rfl Tryd.isAgg25 Tryd.sizeOf25 rfl rfl | exact ld_fms cL_len Tryd.isAgg25 Tryd.sizeOf25 (by first | assumption | omega) | exact ld_fms cI_len Tryd.isAgg25 Tryd.sizeOf25 (by first | assumption | omega) | exact ld_rows (k := 0) cL_len rfl rfl rfl Tryd.isAgg25 Tryd.sizeOf25 (by first | assumption | omega) | exact ld_rows (k := 0) cI_len rfl rfl rfl Tryd.isAgg25 Tryd.sizeOf25 (by first | assumption | omega) | exact ld_is (ds := [_, _]) Tryd.isAgg25 Tryd.sizeOf25 rfl rfl)) ?_
          refine OD.callP (wants_plain rfl) rfl rfl rfl Tryd.call19 (modeOf_vp _ [allX] [] 99 ⟨#[97]⟩ (by decide)) ⟨(opd_tmp rfl (by (repeat (first | exact look_hit | (apply look_miss; focus rfl) | exact look_nil)); done)), opd_const, opd_const, trivial⟩ ?_
          refine OD.still (wants_plain rfl) rfl (still_bin rfl (opd_tmp rfl (by (repeat (first | exact look_hit | (apply look_miss; focus rfl) | exact look_nil)); done)) opd_const bin_eql) ?_
          refine OD.still (wants_plain rfl) rfl (still_as rfl (opd_tmp rfl (by (repeat (first | exact look_hit | (apply look_miss; focus rfl) | exact look_nil)); done))) ?_
          refine OD.wk (Wk.as_ (n := 77) (l' := [(2, _)]) (S' := [⟨b4, 25, 2, [_, _]⟩]) rfl rfl ⟨(by (repeat (first | exact look_hit | (apply look_miss; focus rfl) | exact look_nil)); done), trivial⟩) ?_
          refine OD.nil ?_
          refine CD.ret ?_
          refine ⟨.inr rfl, _, [], List.nil_sublist _, ret_one Tryd.results7 (res_tmp (Nat.le_of_ble_eq_true rfl) (by (repeat (first | exact look_hit | (apply look_miss; focus rfl) | exact look_nil)); done)), ?_⟩
          first | exact ⟨rfl, rfl⟩ | (rw [show modeF [allX] 99 ⟨#[97]⟩ = 5 from modeF_head (x := allX)]; exact ⟨rfl, rfl⟩) | skip

theorem walkAskAll (a : Int) (wa : (Lit.int .i64 a).wf = true) (w : World) (h1 : FitsTab w) (h2 : JoinsTab w) : Calls Tryd.prog 7 #[.int .i64 a] w fun e w' => e = .returned (.bool true) ∧ Below w.heap.size w w' :=
  (askall_vp a (wf_bd wa).1 (wf_bd wa).2).run (tabs h1 h2) (RepL.vs w _ [_])

end Go.Proofs.YtcogdagfcndbfaaDoor.Lk
