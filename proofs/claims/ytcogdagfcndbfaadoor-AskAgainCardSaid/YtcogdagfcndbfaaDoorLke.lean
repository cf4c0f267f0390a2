/-
  Locks: how wishes are read; who is in the locks; the law AllLeave.
-/
import Derived.Test.YtcogdagfcndbfaaDoorLkd
import Derived.Test.YtcogdagfcndbfaaDoorVg
namespace Go.Proofs.YtcogdagfcndbfaaDoor.Lk
open Go.RowKit V
set_option linter.unusedVariables false
set_option linter.unusedSimpArgs false

theorem rd_wish {H : Type} {enc : TypeId × Value → H} {w : World} {base : Nat} {sp : Nat → Bool} {held : Bool} : Rds enc Tryd.prog w base sp held 44 cW W3.Ok :=
  (rd_struct3 Tryd.underlying44 (n0 := 1) (n1 := 1) (n2 := 1) (by kernel_rfl) rfl rfl rfl (by kernel_rfl) (by kernel_rfl) (by kernel_rfl) (rd_int Tryd.underlying3) (rd_int Tryd.underlying3) (rd_int Tryd.underlying3)).map (fun a => ⟨a.1, a.2.1, a.2.2⟩) (fun a => rfl) (fun a h => ⟨h.1.1, h.1.2, h.2.1.1, h.2.1.2, h.2.2.1, h.2.2.2⟩)
theorem rd_wishes {H : Type} {enc : TypeId × Value → H} {w : World} {base b' : Nat} {sp : Nat → Bool} {held : Bool} {v : Value} {d : DataW H} {p : List MemPlace} (hval : Value.okWide Tryd.prog w .any b' 32 v) (h : DataW.Trod enc Tryd.prog w base sp held 32 v d p) :
    ∃ l : List W3, Rep w (fun _ => False) (.list 3 (l.flatMap cW) l.length) v ∧ (∀ x ∈ l, x.Ok) ∧ l.length ≤ maxLen :=
  rd_slice Tryd.underlying32 (by kernel_rfl) (by decide) rd_wish cW_len hval h

/-! ### Whose locks there are -/

def Who (p : Int → Prop) (held queue : List L) : Prop := (∀ h ∈ held, p h.t) ∧ ∀ q ∈ queue, p q.t
theorem Who.mono {p p' : Int → Prop} {held queue : List L} (h : Who p held queue) (k : ∀ t, p t → p' t) : Who p' held queue := ⟨fun x hx => k _ (h.1 x hx), fun x hx => k _ (h.2 x hx)⟩
theorem who_have {p : Int → Prop} {held : List L} {x : L} (h : ∀ y ∈ held, p y.t) (hx : p x.t) : ∀ y ∈ haveL held x, p y.t := by
  intro y hy
  unfold haveL at hy
  split at hy
  · obtain ⟨j, hj, rfl⟩ := List.mem_iff_getElem.1 hy
    simp only [List.length_modify] at hj
    simp only [List.getElem_modify]
    split
    · exact (show p held[j].t from h _ (List.getElem_mem hj))
    · exact h _ (List.getElem_mem hj)
  · rcases List.mem_append.1 hy with hy | hy
    · exact h y hy
    · simp only [List.mem_singleton] at hy; subst hy; exact hx
theorem who_ask {p : Int → Prop} {held queue : List L} {x : L} (h : Who p held queue) (hx : p x.t) : Who p (askF held queue x).1 (askF held queue x).2.1 := by
  have hnil : Who p [] [] := ⟨(fun y hy => by cases hy), (fun y hy => by cases hy)⟩
  have key : ∀ x' : L, x'.t = x.t → Who p (if firstQ held queue x' = true then (if (haveL held x').length + queue.length > 200 then ([], [], false, (10 : Int)) else (haveL held x', queue, true, 0)) else if held.length + (queue.length + 1) > 200 then ([], [], false, 10) else (held, queue ++ [x'], false, 0)).1
        (if firstQ held queue x' = true then (if (haveL held x').length + queue.length > 200 then ([], [], false, (10 : Int)) else (haveL held x', queue, true, 0)) else if held.length + (queue.length + 1) > 200 then ([], [], false, 10) else (held, queue ++ [x'], false, 0)).2.1 := by
    intro x' e
    split
    · split
      · exact hnil
      · exact ⟨who_have h.1 (e ▸ hx), h.2⟩
    · split
      · exact hnil
      · refine ⟨h.1, fun y hy => ?_⟩
        rcases List.mem_append.1 hy with hy | hy
        · exact h.2 y hy
        · simp only [List.mem_singleton] at hy; subst hy; exact e ▸ hx
  by_cases h1 : shapeF x = 0
  · cases h2 : (queue.any fun y => y.t == x.t) with
    | true => rw [ask_twice h1 h2]; exact hnil
    | false =>
      rw [ask_on h1 h2]
      cases hm : ownM held x with
      | none => rw [askG_none hm]; exact key x rfl
      | some m =>
        rw [askG_some hm]
        split
        · exact h
        · exact key { x with m := joinsF m x.m } rfl
  · rw [ask_shape h1]; exact hnil
theorem who_wake {p : Int → Prop} : ∀ (n : Nat) (held queue : List L) (i : Nat) (ws : List Int), queue.length * 1000 + (queue.length - i) = n → queue.length ≤ 200 → Who p held queue → Who p (wake held queue i ws).1 (wake held queue i ws).2.1 := by
  intro n
  induction n using Nat.strongRecOn with
  | _ n ih =>
    intro held queue i ws hn hl h
    by_cases hi : i < queue.length
    · rw [wake, dif_pos hi]
      cases hq : firstQ held (queue.take i) queue[i] with
      | true =>
        rw [if_pos rfl]
        exact ih ((queue.eraseIdx i).length * 1000 + ((queue.eraseIdx i).length - 0)) (by rw [List.length_eraseIdx_of_lt hi]; omega) _ _ 0 _ rfl (by rw [List.length_eraseIdx_of_lt hi]; omega) ⟨who_have h.1 (h.2 _ (List.getElem_mem hi)), fun y hy => h.2 y (List.mem_of_mem_eraseIdx hy)⟩
      | false =>
        rw [if_neg Bool.false_ne_true]
        exact ih (queue.length * 1000 + (queue.length - (i + 1))) (by omega) _ _ (i + 1) _ rfl hl h
    · rw [wake, dif_neg hi]; exact h
theorem who_leave {p : Int → Prop} {held queue : List L} {t : Int} (h : Who p held queue) (hl : queue.length ≤ 200) : Who (fun u => p u ∧ u ≠ t) (leaveG held queue t).1 (leaveG held queue t).2.1 := by
  unfold leaveG
  refine who_wake _ _ _ 0 _ rfl (Nat.le_trans (List.length_filter_le _ _) hl) ⟨fun y hy => ?_, fun y hy => ?_⟩
  · obtain ⟨h1, h2⟩ := List.mem_filter.1 hy
    exact ⟨h.1 y h1, by simpa using h2⟩
  · obtain ⟨h1, h2⟩ := List.mem_filter.1 hy
    exact ⟨h.2 y h1, by simpa using h2⟩
theorem who_leaveF {p : Int → Prop} {held queue h' q' : List L} {t : Int} {ws : List Int} {e : Int} (h : Who p held queue) (hl : queue.length ≤ 200) (h1 : 1 ≤ t) (h2 : t ≤ 1048576) (he : leaveF held queue t = (h', q', ws, e)) : Who (fun u => p u ∧ u ≠ t) h' q' ∧ e = 0 := by
  unfold leaveF at he
  rw [if_neg (by omega)] at he
  cases he
  exact ⟨who_leave h hl, rfl⟩
theorem lockW_t (x : W3) : 1 ≤ (lockW x).t ∧ (lockW x).t ≤ 6 := by
  have h := pickedF_bd x.a (by decide : (1 : Int) ≤ 6)
  exact ⟨by show 1 ≤ 1 + pickedF x.a 6; omega, by show 1 + pickedF x.a 6 ≤ 6; omega⟩
theorem who_step {s : List L × List L} {x : W3} (g : Good s.1 s.2) (h : Who (fun t => 1 ≤ t ∧ t ≤ 6) s.1 s.2) : Who (fun t => 1 ≤ t ∧ t ≤ 6) (stepF s x).1 (stepF s x).2 := by
  have ht := lockW_t x
  unfold stepF
  split
  · split
    · exact (who_leaveF (h' := _) (q' := _) (ws := _) (e := _) h (by have := g.few; omega) ht.1 (by omega) rfl).1.mono fun t ht => ht.1
    · exact h
  · split
    · exact who_ask h ht
    · exact h
theorem who_fold : ∀ (l : List W3) {s : List L × List L}, Good s.1 s.2 → Who (fun t => 1 ≤ t ∧ t ≤ 6) s.1 s.2 → Who (fun t => 1 ≤ t ∧ t ≤ 6) (l.foldl stepF s).1 (l.foldl stepF s).2
  | [], _, _, h => h
  | x :: l, s, g, h => who_fold l (step_good g) (who_step g h)
theorem who_locks (l : List W3) : Who (fun t => 1 ≤ t ∧ t ≤ 6) (locksF l).1 (locksF l).2 := who_fold _ good_nil ⟨(fun y hy => by cases hy), (fun y hy => by cases hy)⟩
theorem who_none {p : Int → Prop} {held queue : List L} (h : Who p held queue) (hp : ∀ t, ¬ p t) : held = [] ∧ queue = [] := by
  constructor
  · cases held with
    | nil => rfl
    | cons x l => exact absurd (h.1 x List.mem_cons_self) (hp _)
  · cases queue with
    | nil => rfl
    | cons x l => exact absurd (h.2 x List.mem_cons_self) (hp _)

set_option maxHeartbeats 4000000 in
set_option maxRecDepth 100000 in
theorem allleave_vp (l : List W3) (hok : ∀ x ∈ l, x.Ok) : VP Tryd.prog TG 5 [.list 3 (l.flatMap cW) l.length] (.v (.bool true)) := by
  refine VC.body Tryd.func5 rfl Tryd.ntmps5 (Nat.le_of_ble_eq_true rfl) fun X0 w0 S00 => ?_
  refine CD.seq ?_
  refine CD.region ?_
  refine OD.still (wants_plain rfl) rfl (still_as rfl opd_const) ?_
  refine OD.wk (Wk.as_ (n := 47) (l' := [(0, _)]) (S' := []) rfl rfl ⟨(by (repeat (first | exact look_hit | (apply look_miss; focus rfl) | exact look_nil)); done), trivial⟩) ?_
  refine OD.nil ?_
  refine CD.seq ?_
  refine CD.region ?_
  refine OD.still (wants_plain rfl) rfl (still_mv rfl (opd_tmp rfl (by (repeat (first | exact look_hit | (apply look_miss; focus rfl) | exact look_nil)); done))) ?_
  refine OD.callP (wants_plain rfl) rfl rfl rfl Tryd.call16 (locks_vp l hok) ⟨(opd_tmp rfl (by (repeat (first | exact look_hit | (apply look_miss; focus rfl) | exact look_nil)); done)), trivial⟩ ?_
  refine OD.alloc (ds := [_, _]) (wants_plain rfl) rfl rfl Tryd.zeroValue25 rfl (fun b3 => ?_)
  refine OD.store (k := 0) (cs' := [_, _]) (wants_plain rfl) rfl rfl (opd_tmp rfl (by (repeat (first | exact look_hit | (apply look_miss; focus rfl) | exact look_nil)); done)) rfl rfl (opd_tmp rfl (by (repeat (first | exact look_hit | (apply look_miss; focus rfl) | exact look_nil)); done)) rfl rfl Tryd.sizeOf25 rfl rfl rfl ?_
  refine OD.wk (Wk.as_ (n := 47) (l' := [(3, _)]) (S' := [⟨b3, 25, 2, [_, _]⟩]) rfl rfl ⟨(by (repeat (first | exact look_hit | (apply look_miss; focus rfl) | exact look_nil)); done), trivial⟩) ?_
  refine OD.nil ?_
  refine CD.seq ?_
  refine CD.seq ?_
  refine CD.region ?_
  refine OD.still (wants_plain rfl) rfl (still_as rfl opd_const) ?_
  refine OD.wk (Wk.as_ (n := 47) (l' := [(3, _), (4, _)]) (S' := [⟨b3, 25, 2, [_, _]⟩]) rfl rfl ⟨(by (repeat (first | exact look_hit | (apply look_miss; focus rfl) | exact look_nil)); done), (by (repeat (first | exact look_hit | (apply look_miss; focus rfl) | exact look_nil)); done), trivial⟩) ?_
  refine OD.nil ?_
  refine CD.block ?_
  refine CD.wk (Wk.asS (n := 47) (l' := [(3, .v (.pointer (some ⟨b3, 0, none⟩))), (4, .v (.int .i64 ((((0) : Nat) : Int) + 1)))]) (S' := [⟨b3, 25, 2, [locksD ((locksF l).1), locksD ((locksF l).2)]⟩]) rfl (by repeat (first | exact List.Sublist.refl _ | apply List.Sublist.cons)) ⟨(by (repeat (first | exact look_hit | (apply look_at; focus (first | rfl | (simp; done) | (congr 2; omega))) | (apply look_miss; focus rfl))); done), (by (repeat (first | exact look_hit | (apply look_at; focus (first | rfl | (simp; done) | (congr 2; omega))) | (apply look_miss; focus rfl))); done), trivial⟩) (CD.loop (fun (gh__ : Nat × List L × List L) y__ => match gh__ with | (j, h, q) => (j ≤ 6) ∧ (Good h q) ∧ (Who (fun t => (j : Int) < t ∧ t ≤ 6) h q) ∧ y__ = (⟨47, [(3, .v (.pointer (some ⟨b3, 0, none⟩))), (4, .v (.int .i64 (((j : Nat) : Int) + 1)))], [⟨b3, 25, 2, [locksD h, locksD q]⟩]⟩ : St)) (fun (gh__ : Nat × List L × List L) => match gh__ with | (j, h, q) => 6 - j) (0, (locksF l).1, (locksF l).2) ⟨(by omega), (locksF_good l), ((who_locks l).mono fun t ht => ⟨by omega, ht.2⟩), rfl⟩ ?_)
  rintro ⟨j, h, q⟩ _ ⟨hj, g, hw, rfl⟩
  refine CD.seq ?_
  refine CD.seq ?_
  refine CD.region ?_
  refine OD.still (wants_plain rfl) rfl (still_mv rfl (opd_tmp rfl (by (repeat (first | exact look_hit | (apply look_miss; focus rfl) | exact look_nil)); done))) ?_
  refine OD.still (wants_plain rfl) rfl (still_bin rfl (opd_tmp rfl (by (repeat (first | exact look_hit | (apply look_miss; focus rfl) | exact look_nil)); done)) opd_const bin_leq) ?_
  refine OD.wk (Wk.as_ (n := 47) (l' := [(3, _), (4, _), (14, _)]) (S' := [⟨b3, 25, 2, [_, _]⟩]) rfl rfl ⟨(by (repeat (first | exact look_hit | (apply look_miss; focus rfl) | exact look_nil)); done), (by (repeat (first | exact look_hit | (apply look_miss; focus rfl) | exact look_nil)); done), (by (repeat (first | exact look_hit | (apply look_miss; focus rfl) | exact look_nil)); done), trivial⟩) ?_
  refine OD.nil ?_
  refine CD.cond (opd_tmp rfl (by (repeat (first | exact look_hit | (apply look_miss; focus rfl) | exact look_nil)); done)) (fun hc0 => ?_) (fun hc0 => ?_)
  · have hc0' := hc0
    (try simp only [decide_eq_true_eq, decide_eq_false_iff_not, beq_iff_eq, bne_iff_ne, Bool.not_eq_true', Bool.not_eq_false', Bool.not_eq_true, Bool.not_eq_false, beq_eq_false_iff_ne, ne_eq, bne_eq_false_iff_eq, Bool.and_eq_true, Bool.or_eq_true, Bool.not_not, Bool.and_eq_false_iff, Bool.or_eq_false_iff, Int.not_lt, Int.not_le] at hc0')
    obtain ⟨h', q', ws, e, hlv⟩ : ∃ h' q' ws e, leaveF h q ((j : Int) + 1) = (h', q', ws, e) := ⟨_, _, _, _, rfl⟩
    obtain ⟨hw2, he⟩ := who_leaveF hw (by have := g.few; omega) (by omega) (by omega) hlv
    subst he
    refine CD.skip ?_
    refine CD.seq ?_
    refine CD.block ?_
    refine CD.seq ?_
    refine CD.region ?_
    refine OD.still (wants_plain rfl) rfl (still_r1 (mk := Op.load 25) rfl (opd_tmp rfl (by (repeat (first | exact look_hit | (apply look_miss; focus rfl) | exact look_nil)); done)) (by first | exact ld_blks (k := 0) (ds := [_, _]) rfl rfl Tryd.isAgg25 Tryd.sizeOf25 rfl rfl | exact ld_fms cW_len Tryd.isAgg25 Tryd.sizeOf25 (by first | assumption | omega) | exact ld_fms cL_len Tryd.isAgg25 Tryd.sizeOf25 (by first | assumption | omega) | exact ld_fms cI_len Tryd.isAgg25 Tryd.sizeOf25 (by first | assumption | omega) | exact ld_rows (k := 0) cW_len rfl rfl rfl Tryd.isAgg25 Tryd.sizeOf25 (by first | assumption | omega) | exact ld_rows (k := 0) cL_len rfl rfl rfl Tryd.isAgg25 Tryd.sizeOf25 (by first | assumption | omega) | exact ld_rows (k := 0) cI_len rfl rfl rfl Tryd.isAgg25 Tryd.sizeOf25 (by first | assumption | omega) | exact ld_is (ds := [_, _]) Tryd.isAgg25 Tryd.sizeOf25 rfl rfl)) ?_
    refine OD.still (wants_plain rfl) rfl (still_mv rfl (opd_tmp rfl (by (repeat (first | exact look_hit | (apply look_miss; focus rfl) | exact look_nil)); done))) ?_
    refine OD.callP (wants_plain rfl) rfl rfl rfl Tryd.call17 (leave_vp g hlv) ⟨(opd_tmp rfl (by (repeat (first | exact look_hit | (apply look_miss; focus rfl) | exact look_nil)); done)), (opd_tmp rfl (by (repeat (first | exact look_hit | (apply look_miss; focus rfl) | exact look_nil)); done)), trivial⟩ ?_
    refine OD.still (wants_plain rfl) rfl (still_mv rfl (opd_tmp rfl (by (repeat (first | exact look_hit | (apply look_miss; focus rfl) | exact look_nil)); done))) ?_
    refine OD.still (wants_plain rfl) rfl (still_extract rfl (opd_tmp rfl (by (repeat (first | exact look_hit | (apply look_miss; focus rfl) | exact look_nil)); done)) rfl) ?_
    refine OD.still (wants_plain rfl) rfl (still_extract rfl (opd_tmp rfl (by (repeat (first | exact look_hit | (apply look_miss; focus rfl) | exact look_nil)); done)) rfl) ?_
    refine OD.still (wants_plain rfl) rfl (still_extract rfl (opd_tmp rfl (by (repeat (first | exact look_hit | (apply look_miss; focus rfl) | exact look_nil)); done)) rfl) ?_
    refine OD.alloc (ds := [_, _]) (wants_plain rfl) rfl rfl Tryd.zeroValue25 rfl (fun b5 => ?_)
    refine OD.store (k := 0) (cs' := [_, _]) (wants_plain rfl) rfl rfl (opd_tmp rfl (by (repeat (first | exact look_hit | (apply look_miss; focus rfl) | exact look_nil)); done)) rfl rfl (opd_tmp rfl (by (repeat (first | exact look_hit | (apply look_miss; focus rfl) | exact look_nil)); done)) rfl rfl Tryd.sizeOf25 rfl rfl rfl ?_
    refine OD.still (wants_plain rfl) rfl (still_as rfl (opd_tmp rfl (by (repeat (first | exact look_hit | (apply look_miss; focus rfl) | exact look_nil)); done))) ?_
    refine OD.still (wants_plain rfl) rfl (still_as rfl (opd_tmp rfl (by (repeat (first | exact look_hit | (apply look_miss; focus rfl) | exact look_nil)); done))) ?_
    refine OD.wk (Wk.as_ (n := 47) (l' := [(3, _), (4, _), (5, _), (7, _)]) (S' := [⟨b5, 25, 2, [_, _]⟩, ⟨b3, 25, 2, [_, _]⟩]) rfl rfl ⟨(by (repeat (first | exact look_hit | (apply look_miss; focus rfl) | exact look_nil)); done), (by (repeat (first | exact look_hit | (apply look_miss; focus rfl) | exact look_nil)); done), (by (repeat (first | exact look_hit | (apply look_miss; focus rfl) | exact look_nil)); done), (by (repeat (first | exact look_hit | (apply look_miss; focus rfl) | exact look_nil)); done), trivial⟩) ?_
    refine OD.nil ?_
    refine CD.seq ?_
    refine CD.seq ?_
    refine CD.region ?_
    refine OD.still (wants_plain rfl) rfl (still_mv rfl (opd_tmp rfl (by (repeat (first | exact look_hit | (apply look_miss; focus rfl) | exact look_nil)); done))) ?_
    refine OD.still (wants_plain rfl) rfl (still_bin rfl (opd_tmp rfl (by (repeat (first | exact look_hit | (apply look_miss; focus rfl) | exact look_nil)); done)) opd_const bin_neq) ?_
    refine OD.wk (Wk.as_ (n := 47) (l' := [(3, _), (4, _), (5, _), (25, _)]) (S' := [⟨b5, 25, 2, [_, _]⟩, ⟨b3, 25, 2, [_, _]⟩]) rfl rfl ⟨(by (repeat (first | exact look_hit | (apply look_miss; focus rfl) | exact look_nil)); done), (by (repeat (first | exact look_hit | (apply look_miss; focus rfl) | exact look_nil)); done), (by (repeat (first | exact look_hit | (apply look_miss; focus rfl) | exact look_nil)); done), (by (repeat (first | exact look_hit | (apply look_miss; focus rfl) | exact look_nil)); done), trivial⟩) ?_
    refine OD.nil ?_
    refine CD.cond (opd_tmp rfl (by (repeat (first | exact look_hit | (apply look_miss; focus rfl) | exact look_nil)); done)) (fun hc1 => ?_) (fun hc1 => ?_)
    · exact absurd hc1 (by simp at hc1)
    · have hc1' := hc1
      (try simp only [decide_eq_true_eq, decide_eq_false_iff_not, beq_iff_eq, bne_iff_ne, Bool.not_eq_true', Bool.not_eq_false', Bool.not_eq_true, Bool.not_eq_false, beq_eq_false_iff_ne, ne_eq, bne_eq_false_iff_eq, Bool.and_eq_true, Bool.or_eq_true, Bool.not_not, Bool.and_eq_false_iff, Bool.or_eq_false_iff, Int.not_lt, Int.not_le] at hc1')
      refine CD.skip ?_
      refine CD.region ?_
      refine OD.still (wants_plain rfl) rfl (still_r1 (mk := Op.load 25) rfl (opd_tmp rfl (by (repeat (first | exact look_hit | (apply look_miss; focus rfl) | exact look_nil)); done)) (by first | exact ld_blks (k := 0) (ds := [_, _]) rfl rfl Tryd.isAgg25 Tryd.sizeOf25 rfl rfl | exact ld_fms cW_len Tryd.isAgg25 Tryd.sizeOf25 (by first | assumption | omega) | exact ld_fms cL_len Tryd.isAgg25 Tryd.sizeOf25 (by first | assumption | omega) | exact ld_fms cI_len Tryd.isAgg25 Tryd.sizeOf25 (by first | assumption | omega) | exact ld_rows (k := 0) cW_len rfl rfl rfl Tryd.isAgg25 Tryd.sizeOf25 (by first | assumption | omega) | exact ld_rows (k := 1) cW_len rfl rfl rfl Tryd.isAgg25 Tryd.sizeOf25 (by first | assumption | omega) | exact ld_rows (k := 0) cL_len rfl rfl rfl Tryd.isAgg25 Tryd.sizeOf25 (by first | assumption | omega) | exact ld_rows (k := 1) cL_len rfl rfl rfl Tryd.isAgg25 Tryd.sizeOf25 (by first | assumption | omega) | exact ld_rows (k := 0) cI_len rfl rfl rfl Tryd.isAgg25 Tryd.sizeOf25 (by first | assumption | omega) | exact ld_rows (k := 1) cI_len rfl rfl rfl Tryd.isAgg25 Tryd.sizeOf25 (by first | assumption | omega) | exact ld_is (ds := [_, _]) Tryd.isAgg25 Tryd.sizeOf25 rfl rfl)) ?_
      refine OD.store (k := 1) (cs' := [_, _]) (wants_plain rfl) rfl rfl (opd_tmp rfl (by (repeat (first | exact look_hit | (apply look_miss; focus rfl) | exact look_nil)); done)) rfl rfl (opd_tmp rfl (by (repeat (first | exact look_hit | (apply look_miss; focus rfl) | exact look_nil)); done)) rfl rfl Tryd.sizeOf25 rfl rfl rfl ?_
      refine OD.wk (Wk.as_ (n := 47) (l' := [(3, _), (4, _)]) (S' := [⟨b5, 25, 2, [_, _]⟩, ⟨b3, 25, 2, [_, _]⟩]) rfl rfl ⟨(by (repeat (first | exact look_hit | (apply look_miss; focus rfl) | exact look_nil)); done), (by (repeat (first | exact look_hit | (apply look_miss; focus rfl) | exact look_nil)); done), trivial⟩) ?_
      refine OD.nil ?_
      refine CD.region ?_
      refine OD.still (wants_plain rfl) rfl (still_mv rfl (opd_tmp rfl (by (repeat (first | exact look_hit | (apply look_miss; focus rfl) | exact look_nil)); done))) ?_
      refine OD.still (wants_plain rfl) rfl (still_bin rfl (opd_tmp rfl (by (repeat (first | exact look_hit | (apply look_miss; focus rfl) | exact look_nil)); done)) opd_const (bin_add (wrap_i64 (by omega) (by omega)))) ?_
      refine OD.still (wants_plain rfl) rfl (still_as rfl (opd_tmp rfl (by (repeat (first | exact look_hit | (apply look_miss; focus rfl) | exact look_nil)); done))) ?_
      refine OD.wk (Wk.as_ (n := 47) (l' := [(3, _), (4, _)]) (S' := [⟨b5, 25, 2, [_, _]⟩, ⟨b3, 25, 2, [_, _]⟩]) rfl rfl ⟨(by (repeat (first | exact look_hit | (apply look_miss; focus rfl) | exact look_nil)); done), (by (repeat (first | exact look_hit | (apply look_miss; focus rfl) | exact look_nil)); done), trivial⟩) ?_
      refine OD.nil ?_
      refine ⟨((j + 1), h', q'), ⟨47, [(3, .v (.pointer (some ⟨b3, 0, none⟩))), (4, .v (.int .i64 (((((j + 1)) : Nat) : Int) + 1)))], [⟨b3, 25, 2, [locksD (h'), locksD (q')]⟩]⟩, ?_, Wk.asS (n := 47) rfl (by repeat (first | exact List.Sublist.refl _ | apply List.Sublist.cons)) ⟨(by (repeat (first | exact look_hit | (apply look_at; focus (first | rfl | (simp; done) | (congr 2; omega))) | (apply look_miss; focus rfl))); done), (by (repeat (first | exact look_hit | (apply look_at; focus (first | rfl | (simp; done) | (congr 2; omega))) | (apply look_miss; focus rfl))); done), trivial⟩, (by omega), (leave_good g hlv), (hw2.mono fun t ht => ⟨by have := ht.1.1; have := ht.2; omega, ht.1.2⟩), rfl⟩
      first | omega | (simp only []; omega)
  · have hc0' := hc0
    (try simp only [decide_eq_true_eq, decide_eq_false_iff_not, beq_iff_eq, bne_iff_ne, Bool.not_eq_true', Bool.not_eq_false', Bool.not_eq_true, Bool.not_eq_false, beq_eq_false_iff_ne, ne_eq, bne_eq_false_iff_eq, Bool.and_eq_true, Bool.or_eq_true, Bool.not_not, Bool.and_eq_false_iff, Bool.or_eq_false_iff, Int.not_lt, Int.not_le] at hc0')
    obtain ⟨rfl, rfl⟩ := who_none hw (fun t ht => by omega)
    have hno : leaveF [] [] 1048577 = ([], [], [], 3) := leave_no (by omega)
    refine CD.exit ?_
    refine CD.seq ?_
    refine CD.region ?_
    refine OD.still (wants_plain rfl) rfl (still_r1 (mk := Op.load 25) rfl (opd_tmp rfl (by (repeat (first | exact look_hit | (apply look_miss; focus rfl) | exact look_nil)); done)) (by first | exact ld_blks (k := 0) (ds := [_, _]) rfl rfl Tryd.isAgg25 Tryd.sizeOf25 rfl rfl | exact ld_fms cW_len Tryd.isAgg25 Tryd.sizeOf25 (by first | assumption | omega) | exact ld_fms cL_len Tryd.isAgg25 Tryd.sizeOf25 (by first | assumption | omega) | exact ld_fms cI_len Tryd.isAgg25 Tryd.sizeOf25 (by first | assumption | omega) | exact ld_rows (k := 0) cW_len rfl rfl rfl Tryd.isAgg25 Tryd.sizeOf25 (by first | assumption | omega) | exact ld_rows (k := 0) cL_len rfl rfl rfl Tryd.isAgg25 Tryd.sizeOf25 (by first | assumption | omega) | exact ld_rows (k := 0) cI_len rfl rfl rfl Tryd.isAgg25 Tryd.sizeOf25 (by first | assumption | omega) | exact ld_is (ds := [_, _]) Tryd.isAgg25 Tryd.sizeOf25 rfl rfl)) ?_
    refine OD.callP (wants_plain rfl) rfl rfl rfl Tryd.call17 (leave_vp g hno) ⟨(opd_tmp rfl (by (repeat (first | exact look_hit | (apply look_miss; focus rfl) | exact look_nil)); done)), opd_const, trivial⟩ ?_
    refine OD.still (wants_plain rfl) rfl (still_mv rfl (opd_tmp rfl (by (repeat (first | exact look_hit | (apply look_miss; focus rfl) | exact look_nil)); done))) ?_
    refine OD.still (wants_plain rfl) rfl (still_extract rfl (opd_tmp rfl (by (repeat (first | exact look_hit | (apply look_miss; focus rfl) | exact look_nil)); done)) rfl) ?_
    refine OD.still (wants_plain rfl) rfl (still_extract rfl (opd_tmp rfl (by (repeat (first | exact look_hit | (apply look_miss; focus rfl) | exact look_nil)); done)) rfl) ?_
    refine OD.still (wants_plain rfl) rfl (still_extract rfl (opd_tmp rfl (by (repeat (first | exact look_hit | (apply look_miss; focus rfl) | exact look_nil)); done)) rfl) ?_
    refine OD.alloc (ds := [_, _]) (wants_plain rfl) rfl rfl Tryd.zeroValue25 rfl (fun b8 => ?_)
    refine OD.store (k := 0) (cs' := [_, _]) (wants_plain rfl) rfl rfl (opd_tmp rfl (by (repeat (first | exact look_hit | (apply look_miss; focus rfl) | exact look_nil)); done)) rfl rfl (opd_tmp rfl (by (repeat (first | exact look_hit | (apply look_miss; focus rfl) | exact look_nil)); done)) rfl rfl Tryd.sizeOf25 rfl rfl rfl ?_
    refine OD.still (wants_plain rfl) rfl (still_as rfl (opd_tmp rfl (by (repeat (first | exact look_hit | (apply look_miss; focus rfl) | exact look_nil)); done))) ?_
    refine OD.still (wants_plain rfl) rfl (still_as rfl (opd_tmp rfl (by (repeat (first | exact look_hit | (apply look_miss; focus rfl) | exact look_nil)); done))) ?_
    refine OD.wk (Wk.as_ (n := 47) (l' := [(3, _), (10, _)]) (S' := [⟨b8, 25, 2, [_, _]⟩, ⟨b3, 25, 2, [_, _]⟩]) rfl rfl ⟨(by (repeat (first | exact look_hit | (apply look_miss; focus rfl) | exact look_nil)); done), (by (repeat (first | exact look_hit | (apply look_miss; focus rfl) | exact look_nil)); done), trivial⟩) ?_
    refine OD.nil ?_
    refine CD.seq ?_
    refine CD.region ?_
    refine OD.still (wants_plain rfl) rfl (still_mv rfl (opd_tmp rfl (by (repeat (first | exact look_hit | (apply look_miss; focus rfl) | exact look_nil)); done))) ?_
    refine OD.still (wants_plain rfl) rfl (still_bin rfl (opd_tmp rfl (by (repeat (first | exact look_hit | (apply look_miss; focus rfl) | exact look_nil)); done)) opd_const bin_eql) ?_
    refine OD.still (wants_plain rfl) rfl (still_mv rfl (opd_tmp rfl (by (repeat (first | exact look_hit | (apply look_miss; focus rfl) | exact look_nil)); done))) ?_
    refine OD.split (t := 35) (by (repeat (first | exact look_hit | (apply look_miss; focus rfl) | exact look_nil)); done) (fun hg35 => ?_) (fun hg35 => ?_)
    · have hg35' := hg35; simp only [decide_eq_true_eq, decide_eq_false_iff_not, beq_iff_eq, bne_iff_ne, Bool.not_eq_true', Bool.not_eq_false', Bool.not_eq_true, Bool.not_eq_false, beq_eq_false_iff_ne, ne_eq, bne_eq_false_iff_eq, Bool.and_eq_true, Bool.or_eq_true, Bool.not_not] at hg35'
      refine OD.still (wants_T rfl rfl rfl (by (repeat (first | exact look_hit | (apply look_miss; focus rfl) | exact look_nil)); done) (by first | rfl | assumption)) rfl (still_r1 (mk := fun y => Op.fieldAddr 25 y 0) rfl (opd_tmp rfl (by (repeat (first | exact look_hit | (apply look_miss; focus rfl) | exact look_nil)); done)) (by first | exact fa_ptr (off := 0) Tryd.runUnderlying25 rfl Tryd.sizeOf23 rfl | exact fa_iptr (off := 0) Tryd.runUnderlying25 rfl Tryd.sizeOf23 rfl)) ?_
      refine OD.still (wants_T rfl rfl rfl (by (repeat (first | exact look_hit | (apply look_miss; focus rfl) | exact look_nil)); done) (by first | rfl | assumption)) rfl (still_r1 (mk := Op.load 23) rfl (opd_tmp rfl (by (repeat (first | exact look_hit | (apply look_miss; focus rfl) | exact look_nil)); done)) (by first | exact ld_blk (k := 1) rfl rfl Tryd.isAgg23 rfl | exact ld_fm cW_len Tryd.isAgg23 (by first | assumption | omega) rfl | exact ld_fm0 cW_len Tryd.isAgg23 (by first | assumption | omega) rfl | exact ld_fm cL_len Tryd.isAgg23 (by first | assumption | omega) rfl | exact ld_fm0 cL_len Tryd.isAgg23 (by first | assumption | omega) rfl | exact ld_fm cI_len Tryd.isAgg23 (by first | assumption | omega) rfl | exact ld_fm0 cI_len Tryd.isAgg23 (by first | assumption | omega) rfl | exact ld_row (k := 0) cW_len rfl rfl rfl Tryd.isAgg23 (by first | assumption | omega) rfl | exact ld_row0 (k := 0) cW_len rfl rfl rfl Tryd.isAgg23 (by first | assumption | omega) rfl | exact ld_row (k := 1) cW_len rfl rfl rfl Tryd.isAgg23 (by first | assumption | omega) rfl | exact ld_row0 (k := 1) cW_len rfl rfl rfl Tryd.isAgg23 (by first | assumption | omega) rfl | exact ld_row (k := 0) cL_len rfl rfl rfl Tryd.isAgg23 (by first | assumption | omega) rfl | exact ld_row0 (k := 0) cL_len rfl rfl rfl Tryd.isAgg23 (by first | assumption | omega) rfl | exact ld_row (k := 1) cL_len rfl rfl rfl Tryd.isAgg23 (by first | assumption | omega) rfl | exact ld_row0 (k := 1) cL_len rfl rfl rfl Tryd.isAgg23 (by first | assumption | omega) rfl | exact ld_row (k := 0) cI_len rfl rfl rfl Tryd.isAgg23 (by first | assumption | omega) rfl | exact ld_row0 (k := 0) cI_len rfl rfl rfl Tryd.isAgg23 (by first | assumption | omega) rfl | exact ld_row (k := 1) cI_len rfl rfl rfl Tryd.isAgg23 (by first | assumption | omega) rfl | exact ld_row0 (k := 1) cI_len rfl rfl rfl Tryd.isAgg23 (by first | assumption | omega) rfl | exact ld_i Tryd.isAgg23 rfl)) ?_
      refine OD.still (wants_T rfl rfl rfl (by (repeat (first | exact look_hit | (apply look_miss; focus rfl) | exact look_nil)); done) (by first | rfl | assumption)) rfl (still_r1 (mk := fun y => .call { callee := .builtin .len, args := #[y], argTypes := #[23] }) rfl (opd_tmp rfl (by (repeat (first | exact look_hit | (apply look_miss; focus rfl) | exact look_nil)); done)) (by first | exact len_list rfl Tryd.runUnderlying23 | exact len_row rfl Tryd.runUnderlying23)) ?_
      refine OD.still (wants_T rfl rfl rfl (by (repeat (first | exact look_hit | (apply look_miss; focus rfl) | exact look_nil)); done) (by first | rfl | assumption)) rfl (still_bin rfl (opd_tmp rfl (by (repeat (first | exact look_hit | (apply look_miss; focus rfl) | exact look_nil)); done)) opd_const bin_eql) ?_
      refine OD.still (wants_plain rfl) rfl (still_pickT rfl (opd_tmp rfl (by (repeat (first | exact look_hit | (apply look_miss; focus rfl) | exact look_nil)); done)) (by first | rfl | assumption) (opd_tmp rfl (by (repeat (first | exact look_hit | (apply look_miss; focus rfl) | exact look_nil)); done))) ?_
      refine OD.still (wants_plain rfl) rfl (still_mv rfl (opd_tmp rfl (by (repeat (first | exact look_hit | (apply look_miss; focus rfl) | exact look_nil)); done))) ?_
      refine OD.split (t := 41) (by (repeat (first | exact look_hit | (apply look_miss; focus rfl) | exact look_nil)); done) (fun hg41 => ?_) (fun hg41 => ?_)
      · have hg41' := hg41; simp only [decide_eq_true_eq, decide_eq_false_iff_not, beq_iff_eq, bne_iff_ne, Bool.not_eq_true', Bool.not_eq_false', Bool.not_eq_true, Bool.not_eq_false, beq_eq_false_iff_ne, ne_eq, bne_eq_false_iff_eq, Bool.and_eq_true, Bool.or_eq_true, Bool.not_not] at hg41'
        refine OD.still (wants_T rfl rfl rfl (by (repeat (first | exact look_hit | (apply look_miss; focus rfl) | exact look_nil)); done) (by first | rfl | assumption)) rfl (still_r1 (mk := fun y => Op.fieldAddr 25 y 1) rfl (opd_tmp rfl (by (repeat (first | exact look_hit | (apply look_miss; focus rfl) | exact look_nil)); done)) (by first | exact fa_ptr (off := 1) Tryd.runUnderlying25 rfl Tryd.sizeOf23 rfl | exact fa_iptr (off := 1) Tryd.runUnderlying25 rfl Tryd.sizeOf23 rfl)) ?_
        refine OD.still (wants_T rfl rfl rfl (by (repeat (first | exact look_hit | (apply look_miss; focus rfl) | exact look_nil)); done) (by first | rfl | assumption)) rfl (still_r1 (mk := Op.load 23) rfl (opd_tmp rfl (by (repeat (first | exact look_hit | (apply look_miss; focus rfl) | exact look_nil)); done)) (by first | exact ld_blk (k := 1) rfl rfl Tryd.isAgg23 rfl | exact ld_fm cW_len Tryd.isAgg23 (by first | assumption | omega) rfl | exact ld_fm0 cW_len Tryd.isAgg23 (by first | assumption | omega) rfl | exact ld_fm cL_len Tryd.isAgg23 (by first | assumption | omega) rfl | exact ld_fm0 cL_len Tryd.isAgg23 (by first | assumption | omega) rfl | exact ld_fm cI_len Tryd.isAgg23 (by first | assumption | omega) rfl | exact ld_fm0 cI_len Tryd.isAgg23 (by first | assumption | omega) rfl | exact ld_row (k := 0) cW_len rfl rfl rfl Tryd.isAgg23 (by first | assumption | omega) rfl | exact ld_row0 (k := 0) cW_len rfl rfl rfl Tryd.isAgg23 (by first | assumption | omega) rfl | exact ld_row (k := 1) cW_len rfl rfl rfl Tryd.isAgg23 (by first | assumption | omega) rfl | exact ld_row0 (k := 1) cW_len rfl rfl rfl Tryd.isAgg23 (by first | assumption | omega) rfl | exact ld_row (k := 0) cL_len rfl rfl rfl Tryd.isAgg23 (by first | assumption | omega) rfl | exact ld_row0 (k := 0) cL_len rfl rfl rfl Tryd.isAgg23 (by first | assumption | omega) rfl | exact ld_row (k := 1) cL_len rfl rfl rfl Tryd.isAgg23 (by first | assumption | omega) rfl | exact ld_row0 (k := 1) cL_len rfl rfl rfl Tryd.isAgg23 (by first | assumption | omega) rfl | exact ld_row (k := 0) cI_len rfl rfl rfl Tryd.isAgg23 (by first | assumption | omega) rfl | exact ld_row0 (k := 0) cI_len rfl rfl rfl Tryd.isAgg23 (by first | assumption | omega) rfl | exact ld_row (k := 1) cI_len rfl rfl rfl Tryd.isAgg23 (by first | assumption | omega) rfl | exact ld_row0 (k := 1) cI_len rfl rfl rfl Tryd.isAgg23 (by first | assumption | omega) rfl | exact ld_i Tryd.isAgg23 rfl)) ?_
        refine OD.still (wants_T rfl rfl rfl (by (repeat (first | exact look_hit | (apply look_miss; focus rfl) | exact look_nil)); done) (by first | rfl | assumption)) rfl (still_r1 (mk := fun y => .call { callee := .builtin .len, args := #[y], argTypes := #[23] }) rfl (opd_tmp rfl (by (repeat (first | exact look_hit | (apply look_miss; focus rfl) | exact look_nil)); done)) (by first | exact len_list rfl Tryd.runUnderlying23 | exact len_row rfl Tryd.runUnderlying23)) ?_
        refine OD.still (wants_T rfl rfl rfl (by (repeat (first | exact look_hit | (apply look_miss; focus rfl) | exact look_nil)); done) (by first | rfl | assumption)) rfl (still_bin rfl (opd_tmp rfl (by (repeat (first | exact look_hit | (apply look_miss; focus rfl) | exact look_nil)); done)) opd_const bin_eql) ?_
        refine OD.still (wants_plain rfl) rfl (still_pickT rfl (opd_tmp rfl (by (repeat (first | exact look_hit | (apply look_miss; focus rfl) | exact look_nil)); done)) (by first | rfl | assumption) (opd_tmp rfl (by (repeat (first | exact look_hit | (apply look_miss; focus rfl) | exact look_nil)); done))) ?_
        refine OD.still (wants_plain rfl) rfl (still_as rfl (opd_tmp rfl (by (repeat (first | exact look_hit | (apply look_miss; focus rfl) | exact look_nil)); done))) ?_
        refine OD.wk (Wk.as_ (n := 47) (l' := [(2, _)]) (S' := [⟨b8, 25, 2, [_, _]⟩, ⟨b3, 25, 2, [_, _]⟩]) rfl rfl ⟨(by (repeat (first | exact look_hit | (apply look_miss; focus rfl) | exact look_nil)); done), trivial⟩) ?_
        refine OD.nil ?_
        refine CD.ret ?_
        refine ⟨.inr rfl, _, [], List.nil_sublist _, ret_one Tryd.results5 (res_tmp (Nat.le_of_ble_eq_true rfl) (by (repeat (first | exact look_hit | (apply look_miss; focus rfl) | exact look_nil)); done)), ?_⟩
        exact ⟨by first | rfl | (simp [*]; done), rfl⟩
      · exact absurd hg41 (by simp at hg41)
    · exact absurd hg35 (by simp at hg35)

theorem walkAllLeave (l : List W3) (v : Value) (hok : ∀ x ∈ l, x.Ok) (w : World) (h1 : FitsTab w) (h2 : JoinsTab w) (hv : Rep w (fun _ => False) (.list 3 (l.flatMap cW) l.length) v) : Calls Tryd.prog 5 #[v] w fun e w' => e = .returned (.bool true) ∧ Below w.heap.size w w' :=
  (allleave_vp l hok).runL (tabs h1 h2) (vs := [v]) (RepL.cons hv ⟨rfl, fun i h => by simp at h⟩)

end Go.Proofs.YtcogdagfcndbfaaDoor.Lk
