/-
  Locks: Ask sealed, and the law AskFull.
-/
import Derived.Test.YtcogdagfcndbfaaDoorLk5
import Derived.Test.YtcogdagfcndbfaaDoorVe
namespace Go.Proofs.YtcogdagfcndbfaaDoor.Lk
open Go.RowKit V
set_option linter.unusedVariables false
set_option linter.unusedSimpArgs false

theorem view_res {S Sh Sq : List Blk} {h' q' : List L} {ah aq : Option Addr} {ch cq : Nat} {ds : List D} (hh : OwnK h' ah ch Sh) (hq : OwnK q' aq cq Sq) (hp : S.Perm (Sq ++ Sh)) {ds' : List D} (hv : Views S ds ds') :
    View S (.tup (.agg [.v (.slice ah h'.length ch), .v (.slice aq q'.length cq)] :: ds)) (.tup (locksS h' q' :: ds')) :=
  view_tup (ds := _ :: _) ⟨view_agg (ds := [_, _]) ⟨view_own hh (cells_len _) (fun B hB => hp.mem_iff.2 (by simp [hB])), view_own hq (cells_len _) (fun B hB => hp.mem_iff.2 (by simp [hB])), trivial⟩, hv⟩

theorem ask_vp {held queue : List L} {x : L} (g : Good held queue) {h' q' : List L} {b : Bool} {e : Int} (he : askF held queue x = (h', q', b, e)) : VP Tryd.prog TG 15 [locksS held queue, lockD x] (.tup [locksS h' q', .v (.bool b), .v (.int .i64 e)]) :=
  (ask_vc held queue x g).cover fun r S hr => by
    obtain ⟨h1, q1, b1, e1, ah, ch, aq, cq, Sh, Sq, h, rfl, hh, hq, hp⟩ := hr
    rw [he] at h
    obtain ⟨rfl, rfl, rfl, rfl⟩ := h
    exact view_res hh hq hp ⟨view_same, view_same, trivial⟩

theorem pickedF_bd (n : Int) {m : Int} (hm : 1 ≤ m) : 0 ≤ pickedF n m ∧ pickedF n m < m := by
  unfold pickedF
  split
  · exact ⟨Int.tmod_nonneg _ (by omega), Int.tmod_lt_of_pos _ (by omega)⟩
  · exact ⟨Int.tmod_nonneg _ (by omega), Int.tmod_lt_of_pos _ (by omega)⟩
/-- What AskFull lays. -/
def fullL (m : Nat) : List L := (List.range m).map fun i => ⟨((i + 1 : Nat) : Int), (⟨#[97]⟩ : ByteArray), 1⟩
theorem fullL_len (m : Nat) : (fullL m).length = m := by simp [fullL]
theorem fullL_succ (m : Nat) : fullL (m + 1) = fullL m ++ [⟨((m + 1 : Nat) : Int), (⟨#[97]⟩ : ByteArray), 1⟩] := by simp [fullL, List.range_succ]
theorem fullL_mem {m : Nat} {x : L} (h : x ∈ fullL m) : (1 ≤ x.t ∧ x.t ≤ m) ∧ x.th = (⟨#[97]⟩ : ByteArray) ∧ x.m = 1 := by
  simp only [fullL, List.mem_map, List.mem_range] at h
  obtain ⟨i, hi, rfl⟩ := h
  exact ⟨⟨by simp only []; omega, by simp only []; omega⟩, rfl, rfl⟩
theorem free_of {held : List L} {x : L} (h : ∀ y ∈ held, y.th.toList = x.th.toList → y.t ≠ x.t → fitsF y.m x.m = true) : freeB held x = true := by
  unfold freeB
  rw [Bool.not_eq_true', List.any_eq_false]
  intro y hy hc
  simp only [clash, Bool.and_eq_true, beq_iff_eq, bne_iff_ne, Bool.not_eq_true'] at hc
  rw [h y hy hc.1 hc.2.1] at hc
  exact Bool.noConfusion hc.2.2
theorem fullL_good {m : Nat} (h : m ≤ 200) : Good (fullL m) [] where
  few := by rw [fullL_len]; exact h
  shape := fun x hx => by
    obtain ⟨h1, h2, h3⟩ := fullL_mem hx
    rw [shape_iff, h2, h3]
    exact ⟨⟨by omega, by omega⟩, by decide, by decide⟩
  heldOk := fun i hi => by
    unfold badH
    rw [Bool.or_eq_false_iff]
    refine ⟨?_, ?_⟩
    · rw [decide_eq_false_iff_not]
      have : findI ((fullL m).take i) (fullL m)[i].t (fullL m)[i].th < 0 := findI_neg.2 fun x hx => by
        obtain ⟨j, hj, rfl⟩ := List.mem_iff_getElem.1 hx
        rw [List.length_take] at hj
        simp only [List.getElem_take, fullL, List.getElem_map, List.getElem_range, hasK]
        rw [Bool.and_eq_false_iff]; left
        simp only [beq_eq_false_iff_ne]; omega
      omega
    · rw [Bool.not_eq_false']
      refine free_of fun y hy _ _ => ?_
      rw [(fullL_mem hy).2.2, (fullL_mem (List.getElem_mem hi)).2.2]; decide
  queueOk := fun i hi => by simp at hi
theorem ab_ne : (⟨#[97]⟩ : ByteArray).toList ≠ (⟨#[98]⟩ : ByteArray).toList := by
  simp [ByteArray.toList, ByteArray.toList.loop, ByteArray.size, ByteArray.get!]
theorem full_ask {m : Nat} (hm : m ≤ 200) : ∃ h' q', askF (fullL m) [] ⟨1000, (⟨#[98]⟩ : ByteArray), 5⟩ = (if m < 200 then (h', q', true, 0) else ([], [], false, 10)) := by
  have hne : ∀ x ∈ fullL m, ¬ x.th.toList = (⟨#[98]⟩ : ByteArray).toList := fun x hx e => by rw [(fullL_mem hx).2.1] at e; exact ab_ne e
  have hk : ∀ x ∈ fullL m, hasK 1000 ((⟨#[98]⟩ : ByteArray)) x = false := fun x hx => by
    unfold hasK; rw [Bool.and_eq_false_iff]; right; rw [beq_eq_false_iff_ne]; exact hne x hx
  have hf : findI (fullL m) 1000 ((⟨#[98]⟩ : ByteArray)) < 0 := findI_neg.2 hk
  have hown : ownM (fullL m) ⟨1000, (⟨#[98]⟩ : ByteArray), 5⟩ = none := own_none hf
  have hfirst : firstQ (fullL m) [] ⟨1000, (⟨#[98]⟩ : ByteArray), 5⟩ = true := by
    unfold firstQ
    rw [free_of (fun y hy e _ => absurd e (hne y hy))]; simp
  have hhave : haveL (fullL m) ⟨1000, (⟨#[98]⟩ : ByteArray), 5⟩ = fullL m ++ [⟨1000, (⟨#[98]⟩ : ByteArray), 5⟩] := haveL_new (by simpa using hf)
  rw [ask_on (by decide) rfl, askG_none hown, if_pos hfirst, hhave]
  simp only [List.length_append, fullL_len, List.length_nil, List.length_cons]
  by_cases h : m < 200
  · rw [if_neg (by omega)]; simp only [if_pos h]; exact ⟨_, _, rfl⟩
  · rw [if_pos (by omega)]; simp only [if_neg h]; exact ⟨[], [], trivial⟩

theorem places27_Lk6 : ∀ w, ((#[{ name := "Txn", type := 3, offset := 0, embedded := false, tag := "", pkgPath := "", byteOffset := 0 }, { name := "Thing", type := 9, offset := 1, embedded := false, tag := "", pkgPath := "", byteOffset := 8 }, { name := "Mode", type := 3, offset := 2, embedded := false, tag := "", pkgPath := "", byteOffset := 24 }] : Array Field).mapM fun f => do pure (f.offset, ← sizeOf f.type) : Sem (Array (Nat × Nat))).run Tryd.prog w = .ok #[(0, 1), (1, 1), (2, 1)] w := fun w => by simp [Tryd.sizeOf3, Tryd.sizeOf9]

set_option maxHeartbeats 4000000 in
set_option maxRecDepth 100000 in
theorem askfull_vp (n : Int) (h1 : -9223372036854775808 ≤ n) (h2 : n ≤ 9223372036854775807) : VP Tryd.prog TG 3 [.v (.int .i64 n)] (.v (.bool true)) := by
  refine VC.body Tryd.func3 rfl Tryd.ntmps3 (Nat.le_of_ble_eq_true rfl) fun X0 w0 S00 => ?_
  have hpk := pickedF_bd n (by decide : (1 : Int) ≤ 400)
  refine CD.seq ?_
  refine CD.region ?_
  refine OD.still (wants_plain rfl) rfl (still_as rfl opd_const) ?_
  refine OD.wk (Wk.as_ (n := 44) (l' := [(0, _)]) (S' := []) rfl rfl ⟨(by (repeat (first | exact look_hit | (apply look_miss; focus rfl) | exact look_nil)); done), trivial⟩) ?_
  refine OD.nil ?_
  refine CD.seq ?_
  refine CD.region ?_
  refine OD.still (wants_plain rfl) rfl (still_mv rfl (opd_tmp rfl (by (repeat (first | exact look_hit | (apply look_miss; focus rfl) | exact look_nil)); done))) ?_
  refine OD.callP (wants_plain rfl) rfl rfl rfl Tryd.call14 (picked_vp _ n 400 h1 h2 (by decide)) ⟨(opd_tmp rfl (by (repeat (first | exact look_hit | (apply look_miss; focus rfl) | exact look_nil)); done)), opd_const, trivial⟩ ?_
  refine OD.still (wants_plain rfl) rfl (still_as rfl (opd_tmp rfl (by (repeat (first | exact look_hit | (apply look_miss; focus rfl) | exact look_nil)); done))) ?_
  refine OD.wk (Wk.as_ (n := 44) (l' := [(3, _)]) (S' := []) rfl rfl ⟨(by (repeat (first | exact look_hit | (apply look_miss; focus rfl) | exact look_nil)); done), trivial⟩) ?_
  refine OD.nil ?_
  refine CD.seq ?_
  refine CD.region ?_
  refine OD.alloc (ds := [_, _]) (wants_plain rfl) rfl rfl Tryd.zeroValue25 rfl (fun b4 => ?_)
  refine OD.wk (Wk.as_ (n := 44) (l' := [(3, _), (4, _)]) (S' := [⟨b4, 25, 2, [_, _]⟩]) rfl rfl ⟨(by (repeat (first | exact look_hit | (apply look_miss; focus rfl) | exact look_nil)); done), (by (repeat (first | exact look_hit | (apply look_miss; focus rfl) | exact look_nil)); done), trivial⟩) ?_
  refine OD.nil ?_
  refine CD.seq ?_
  refine CD.seq ?_
  refine CD.region ?_
  refine OD.still (wants_plain rfl) rfl (still_as rfl opd_const) ?_
  refine OD.wk (Wk.as_ (n := 44) (l' := [(3, _), (4, _), (5, _)]) (S' := [⟨b4, 25, 2, [_, _]⟩]) rfl rfl ⟨(by (repeat (first | exact look_hit | (apply look_miss; focus rfl) | exact look_nil)); done), (by (repeat (first | exact look_hit | (apply look_miss; focus rfl) | exact look_nil)); done), (by (repeat (first | exact look_hit | (apply look_miss; focus rfl) | exact look_nil)); done), trivial⟩) ?_
  refine OD.nil ?_
  refine CD.block ?_
  refine CD.wk (Wk.asS (n := 44) (l' := [(3, .v (.int .i64 (pickedF n 400))), (4, .v (.pointer (some ⟨b4, 0, none⟩))), (5, .v (.int .i64 ((((0) : Nat) : Int) + 1)))]) (S' := (⟨b4, 25, 2, [.v (.slice none (fullL (0)).length (0)), .v (.slice none 0 0)]⟩ :: ([]))) rfl (by repeat (first | exact List.Sublist.refl _ | apply List.Sublist.cons)) ⟨(by (repeat (first | exact look_hit | (apply look_at; focus (first | rfl | (simp; done) | (congr 2; omega))) | (apply look_miss; focus rfl))); done), (by (repeat (first | exact look_hit | (apply look_at; focus (first | rfl | (simp; done) | (congr 2; omega))) | (apply look_miss; focus rfl))); done), (by (repeat (first | exact look_hit | (apply look_at; focus (first | rfl | (simp; done) | (congr 2; omega))) | (apply look_miss; focus rfl))); done), trivial⟩) (CD.loop (fun (gh__ : Nat × Option Addr × Nat × List Blk) y__ => match gh__ with | (m, ad, cap, Sh) => (m ≤ 200) ∧ ((((m : Nat) : Int)) ≤ pickedF n 400) ∧ (OwnK (fullL m) ad cap Sh) ∧ y__ = (⟨44, [(3, .v (.int .i64 (pickedF n 400))), (4, .v (.pointer (some ⟨b4, 0, none⟩))), (5, .v (.int .i64 (((m : Nat) : Int) + 1)))], (⟨b4, 25, 2, [.v (.slice ad (fullL m).length cap), .v (.slice none 0 0)]⟩ :: Sh)⟩ : St)) (fun (gh__ : Nat × Option Addr × Nat × List Blk) => match gh__ with | (m, ad, cap, Sh) => 200 - m) (0, none, 0, []) ⟨(by omega), (by omega), own_nil, rfl⟩ ?_)
  rintro ⟨m, ad, cap, Sh⟩ _ ⟨hm, hmk, hoh, rfl⟩
  refine CD.seq ?_
  refine CD.seq ?_
  refine CD.region ?_
  refine OD.still (wants_plain rfl) rfl (still_mv rfl (opd_tmp rfl (by (repeat (first | exact look_hit | (apply look_miss; focus rfl) | exact look_nil)); done))) ?_
  refine OD.still (wants_plain rfl) rfl (still_mv rfl (opd_tmp rfl (by (repeat (first | exact look_hit | (apply look_miss; focus rfl) | exact look_nil)); done))) ?_
  refine OD.still (wants_plain rfl) rfl (still_minmax rfl (opd_tmp rfl (by (repeat (first | exact look_hit | (apply look_miss; focus rfl) | exact look_nil)); done)) opd_const mm_min) ?_
  refine OD.still (wants_plain rfl) rfl (still_bin rfl (opd_tmp rfl (by (repeat (first | exact look_hit | (apply look_miss; focus rfl) | exact look_nil)); done)) (opd_tmp rfl (by (repeat (first | exact look_hit | (apply look_miss; focus rfl) | exact look_nil)); done)) bin_leq) ?_
  refine OD.wk (Wk.as_ (n := 44) (l' := [(3, _), (4, _), (5, _), (14, _)]) (S' := (⟨b4, 25, 2, [_, _]⟩ :: Sh)) rfl rfl ⟨(by (repeat (first | exact look_hit | (apply look_miss; focus rfl) | exact look_nil)); done), (by (repeat (first | exact look_hit | (apply look_miss; focus rfl) | exact look_nil)); done), (by (repeat (first | exact look_hit | (apply look_miss; focus rfl) | exact look_nil)); done), (by (repeat (first | exact look_hit | (apply look_miss; focus rfl) | exact look_nil)); done), trivial⟩) ?_
  refine OD.nil ?_
  refine CD.cond (opd_tmp rfl (by (repeat (first | exact look_hit | (apply look_miss; focus rfl) | exact look_nil)); done)) (fun hc0 => ?_) (fun hc0 => ?_)
  · have hc0' := hc0
    (try simp only [decide_eq_true_eq, decide_eq_false_iff_not, beq_iff_eq, bne_iff_ne, Bool.not_eq_true', Bool.not_eq_false', Bool.not_eq_true, Bool.not_eq_false, beq_eq_false_iff_ne, ne_eq, bne_eq_false_iff_eq, Bool.and_eq_true, Bool.or_eq_true, Bool.not_not, Bool.and_eq_false_iff, Bool.or_eq_false_iff, Int.not_lt, Int.not_le] at hc0')
    refine CD.skip ?_
    refine CD.seq ?_
    refine CD.block ?_
    refine CD.region ?_
    refine OD.still (wants_plain rfl) rfl (still_r1 (mk := fun y => Op.fieldAddr 25 y 0) rfl (opd_tmp rfl (by (repeat (first | exact look_hit | (apply look_miss; focus rfl) | exact look_nil)); done)) (by first | exact fa_ptr (off := 0) Tryd.runUnderlying25 rfl Tryd.sizeOf23 rfl | exact fa_iptr (off := 0) Tryd.runUnderlying25 rfl Tryd.sizeOf23 rfl)) ?_
    refine OD.still (wants_plain rfl) rfl (still_r1 (mk := Op.load 23) rfl (opd_tmp rfl (by (repeat (first | exact look_hit | (apply look_miss; focus rfl) | exact look_nil)); done)) (by first | exact ld_blk (k := 0) rfl rfl Tryd.isAgg23 rfl | exact ld_fm cL_len Tryd.isAgg23 (by first | assumption | omega) rfl | exact ld_fm0 cL_len Tryd.isAgg23 (by first | assumption | omega) rfl | exact ld_row (k := 0) cL_len rfl rfl rfl Tryd.isAgg23 (by first | assumption | omega) rfl | exact ld_row0 (k := 0) cL_len rfl rfl rfl Tryd.isAgg23 (by first | assumption | omega) rfl | exact ld_i Tryd.isAgg23 rfl)) ?_
    refine OD.still (wants_plain rfl) rfl (still_mv rfl (opd_tmp rfl (by (repeat (first | exact look_hit | (apply look_miss; focus rfl) | exact look_nil)); done))) ?_
    refine OD.still (wants_plain rfl) rfl (still_bld (pl := [(0, _), (1, _), (2, _)]) (ds := [_, _, _]) rfl Tryd.zeroValue27 Tryd.runUnderlying27 places27_Lk6 ⟨rfl, (opd_tmp rfl (by (repeat (first | exact look_hit | (apply look_miss; focus rfl) | exact look_nil)); done)), rfl, opd_const, rfl, opd_const, trivial⟩ rfl rfl) ?_
    refine OD.bldS (pl := [(0, _)]) (zvs := [.int .i64 0, .string ⟨#[]⟩, .int .i64 0]) (ds := [_, _, _]) (wants_plain rfl) rfl rfl Tryd.zeroValue27 Tryd.runUnderlying23 Tryd.sizeOf27 rfl rfl (by kernel_rfl) ⟨rfl, (opd_tmp rfl (by (repeat (first | exact look_hit | (apply look_miss; focus rfl) | exact look_nil)); done)), trivial⟩ rfl rfl (fun b21 => ?_)
    refine OD.give (k := 0) (t := 21) (sz := 3) (m := 1) rfl (by (repeat (first | exact look_hit | (apply look_miss; focus rfl) | exact look_nil)); done) rfl rfl rfl (Nat.le_refl _) (by decide) ?_
    refine OD.appendG (ls := fullL m) (new := [⟨((m + 1 : Nat) : Int), (⟨#[97]⟩ : ByteArray), 1⟩]) (Sq := Sh) cL_len cL_one (wants_plain rfl) rfl rfl Tryd.underlying23 infoL rfl (by decide) (opd_tmp rfl (by (repeat (first | exact look_hit | (apply look_miss; focus rfl) | exact look_nil)); done)) hoh (List.perm_append_comm (l₁ := [_])) (opd_tmp rfl (by (repeat (first | exact look_hit | (apply look_miss; focus rfl) | exact look_nil)); done)) (by simp) (by rw [fullL_len]; unfold maxLen; simp; omega) (by rw [fullL_len]; simp; omega) (fun bq cq' hq1 hq2 => ?_)
    rw [← fullL_succ] at hq1 ⊢
    have hoq : OwnK (fullL (m + 1)) (some ⟨bq, 0, none⟩) cq' [⟨bq, 27, cq' * 3, (fullL (m + 1)).flatMap cL⟩] := .inr ⟨bq, rfl, hq1, hq2, rfl⟩
    refine OD.perm (List.Perm.swap _ _ _) ?_
    refine OD.still (wants_plain rfl) rfl (still_r1 (mk := fun y => Op.fieldAddr 25 y 0) rfl (opd_tmp rfl (by (repeat (first | exact look_hit | (apply look_miss; focus rfl) | exact look_nil)); done)) (by first | exact fa_ptr (off := 0) Tryd.runUnderlying25 rfl Tryd.sizeOf23 rfl | exact fa_iptr (off := 0) Tryd.runUnderlying25 rfl Tryd.sizeOf23 rfl)) ?_
    refine OD.store (k := 0) (cs' := [_, _]) (wants_plain rfl) rfl rfl (opd_tmp rfl (by (repeat (first | exact look_hit | (apply look_miss; focus rfl) | exact look_nil)); done)) rfl rfl (opd_tmp rfl (by (repeat (first | exact look_hit | (apply look_miss; focus rfl) | exact look_nil)); done)) rfl rfl Tryd.sizeOf23 rfl rfl rfl ?_
    refine OD.wk (Wk.as_ (n := 44) (l' := [(3, _), (4, _), (5, _)]) (S' := [⟨b4, 25, 2, [_, _]⟩, _]) rfl rfl ⟨(by (repeat (first | exact look_hit | (apply look_miss; focus rfl) | exact look_nil)); done), (by (repeat (first | exact look_hit | (apply look_miss; focus rfl) | exact look_nil)); done), (by (repeat (first | exact look_hit | (apply look_miss; focus rfl) | exact look_nil)); done), trivial⟩) ?_
    refine OD.nil ?_
    refine CD.region ?_
    refine OD.still (wants_plain rfl) rfl (still_mv rfl (opd_tmp rfl (by (repeat (first | exact look_hit | (apply look_miss; focus rfl) | exact look_nil)); done))) ?_
    refine OD.still (wants_plain rfl) rfl (still_bin rfl (opd_tmp rfl (by (repeat (first | exact look_hit | (apply look_miss; focus rfl) | exact look_nil)); done)) opd_const (bin_add (wrap_i64 (by omega) (by omega)))) ?_
    refine OD.still (wants_plain rfl) rfl (still_as rfl (opd_tmp rfl (by (repeat (first | exact look_hit | (apply look_miss; focus rfl) | exact look_nil)); done))) ?_
    refine OD.wk (Wk.as_ (n := 44) (l' := [(3, _), (4, _), (5, _)]) (S' := [⟨b4, 25, 2, [_, _]⟩, _]) rfl rfl ⟨(by (repeat (first | exact look_hit | (apply look_miss; focus rfl) | exact look_nil)); done), (by (repeat (first | exact look_hit | (apply look_miss; focus rfl) | exact look_nil)); done), (by (repeat (first | exact look_hit | (apply look_miss; focus rfl) | exact look_nil)); done), trivial⟩) ?_
    refine OD.nil ?_
    refine ⟨((m + 1), (some ⟨bq, 0, none⟩), cq', [⟨bq, 27, cq' * 3, (fullL (m + 1)).flatMap cL⟩]), ⟨44, [(3, .v (.int .i64 (pickedF n 400))), (4, .v (.pointer (some ⟨b4, 0, none⟩))), (5, .v (.int .i64 (((((m + 1)) : Nat) : Int) + 1)))], (⟨b4, 25, 2, [.v (.slice ((some ⟨bq, 0, none⟩)) (fullL ((m + 1))).length (cq')), .v (.slice none 0 0)]⟩ :: ([⟨bq, 27, cq' * 3, (fullL (m + 1)).flatMap cL⟩]))⟩, ?_, Wk.asS (n := 44) rfl (by repeat (first | exact List.Sublist.refl _ | apply List.Sublist.cons)) ⟨(by (repeat (first | exact look_hit | (apply look_at; focus (first | rfl | (simp; done) | (congr 2; omega))) | (apply look_miss; focus rfl))); done), (by (repeat (first | exact look_hit | (apply look_at; focus (first | rfl | (simp; done) | (congr 2; omega))) | (apply look_miss; focus rfl))); done), (by (repeat (first | exact look_hit | (apply look_at; focus (first | rfl | (simp; done) | (congr 2; omega))) | (apply look_miss; focus rfl))); done), trivial⟩, (by omega), (by omega), hoq, rfl⟩
    first | omega | (simp only []; omega)
  · have hc0' := hc0
    (try simp only [decide_eq_true_eq, decide_eq_false_iff_not, beq_iff_eq, bne_iff_ne, Bool.not_eq_true', Bool.not_eq_false', Bool.not_eq_true, Bool.not_eq_false, beq_eq_false_iff_ne, ne_eq, bne_eq_false_iff_eq, Bool.and_eq_true, Bool.or_eq_true, Bool.not_not, Bool.and_eq_false_iff, Bool.or_eq_false_iff, Int.not_lt, Int.not_le] at hc0')
    refine CD.exit ?_
    refine CD.seq ?_
    refine CD.region ?_
    refine OD.cover (A := ⟨b4, 25, 2, _⟩) (R := []) (Sd := Sh) (cs' := [locksD (fullL m), locksD []]) (List.Perm.refl _) ⟨view_own hoh (cells_len _) (fun B hB => hB), view_own own_nil (cells_len _) (fun B hB => by cases hB), trivial⟩ ?_
    obtain ⟨h', q', hask⟩ := full_ask hm
    rcases Nat.lt_or_ge m 200 with hl | hl
    · skip
      rw [if_pos hl] at hask
      refine OD.still (wants_plain rfl) rfl (still_r1 (mk := Op.load 25) rfl (opd_tmp rfl (by (repeat (first | exact look_hit | (apply look_miss; focus rfl) | exact look_nil)); done)) (by first | exact ld_blks (k := 0) (ds := [_, _]) rfl rfl Tryd.isAgg25 Tryd.sizeOf25 rfl rfl | exact ld_fms cL_len Tryd.isAgg25 Tryd.sizeOf25 (by first | assumption | omega) | exact ld_rows (k := 0) cL_len rfl rfl rfl Tryd.isAgg25 Tryd.sizeOf25 (by first | assumption | omega) | exact ld_is (ds := [_, _]) Tryd.isAgg25 Tryd.sizeOf25 rfl rfl)) ?_
      refine OD.still (wants_plain rfl) rfl (still_bld (pl := [(0, _), (1, _), (2, _)]) (ds := [_, _, _]) rfl Tryd.zeroValue27 Tryd.runUnderlying27 places27_Lk6 ⟨rfl, opd_const, rfl, opd_const, rfl, opd_const, trivial⟩ rfl rfl) ?_
      refine OD.callP (wants_plain rfl) rfl rfl rfl Tryd.call15 (ask_vp (fullL_good hm) hask) ⟨(opd_tmp rfl (by (repeat (first | exact look_hit | (apply look_miss; focus rfl) | exact look_nil)); done)), (opd_tmp rfl (by (repeat (first | exact look_hit | (apply look_miss; focus rfl) | exact look_nil)); done)), trivial⟩ ?_
      refine OD.still (wants_plain rfl) rfl (still_mv rfl (opd_tmp rfl (by (repeat (first | exact look_hit | (apply look_miss; focus rfl) | exact look_nil)); done))) ?_
      refine OD.still (wants_plain rfl) rfl (still_extract rfl (opd_tmp rfl (by (repeat (first | exact look_hit | (apply look_miss; focus rfl) | exact look_nil)); done)) rfl) ?_
      refine OD.still (wants_plain rfl) rfl (still_extract rfl (opd_tmp rfl (by (repeat (first | exact look_hit | (apply look_miss; focus rfl) | exact look_nil)); done)) rfl) ?_
      refine OD.still (wants_plain rfl) rfl (still_extract rfl (opd_tmp rfl (by (repeat (first | exact look_hit | (apply look_miss; focus rfl) | exact look_nil)); done)) rfl) ?_
      refine OD.alloc (ds := [_, _]) (wants_plain rfl) rfl rfl Tryd.zeroValue25 rfl (fun b6 => ?_)
      refine OD.store (k := 0) (cs' := [_, _]) (wants_plain rfl) rfl rfl (opd_tmp rfl (by (repeat (first | exact look_hit | (apply look_miss; focus rfl) | exact look_nil)); done)) rfl rfl (opd_tmp rfl (by (repeat (first | exact look_hit | (apply look_miss; focus rfl) | exact look_nil)); done)) rfl rfl Tryd.sizeOf25 rfl rfl rfl ?_
      refine OD.still (wants_plain rfl) rfl (still_as rfl (opd_tmp rfl (by (repeat (first | exact look_hit | (apply look_miss; focus rfl) | exact look_nil)); done))) ?_
      refine OD.still (wants_plain rfl) rfl (still_as rfl (opd_tmp rfl (by (repeat (first | exact look_hit | (apply look_miss; focus rfl) | exact look_nil)); done))) ?_
      refine OD.wk (Wk.as_ (n := 44) (l' := [(3, _), (7, _), (8, _)]) (S' := [⟨b6, 25, 2, [_, _]⟩, ⟨b4, 25, 2, [_, _]⟩]) rfl rfl ⟨(by (repeat (first | exact look_hit | (apply look_miss; focus rfl) | exact look_nil)); done), (by (repeat (first | exact look_hit | (apply look_miss; focus rfl) | exact look_nil)); done), (by (repeat (first | exact look_hit | (apply look_miss; focus rfl) | exact look_nil)); done), trivial⟩) ?_
      refine OD.nil ?_
      refine CD.seq ?_
      refine CD.seq ?_
      refine CD.region ?_
      refine OD.still (wants_plain rfl) rfl (still_mv rfl (opd_tmp rfl (by (repeat (first | exact look_hit | (apply look_miss; focus rfl) | exact look_nil)); done))) ?_
      refine OD.still (wants_plain rfl) rfl (still_bin rfl (opd_tmp rfl (by (repeat (first | exact look_hit | (apply look_miss; focus rfl) | exact look_nil)); done)) opd_const bin_geq) ?_
      refine OD.wk (Wk.as_ (n := 44) (l' := [(7, _), (8, _), (32, _)]) (S' := [⟨b6, 25, 2, [_, _]⟩, ⟨b4, 25, 2, [_, _]⟩]) rfl rfl ⟨(by (repeat (first | exact look_hit | (apply look_miss; focus rfl) | exact look_nil)); done), (by (repeat (first | exact look_hit | (apply look_miss; focus rfl) | exact look_nil)); done), (by (repeat (first | exact look_hit | (apply look_miss; focus rfl) | exact look_nil)); done), trivial⟩) ?_
      refine OD.nil ?_
      refine CD.cond (opd_tmp rfl (by (repeat (first | exact look_hit | (apply look_miss; focus rfl) | exact look_nil)); done)) (fun hc1 => ?_) (fun hc1 => ?_)
      · exact absurd hc1 (by simp at hc1; split at hc0' <;> omega)
      · have hc1' := hc1
        (try simp only [decide_eq_true_eq, decide_eq_false_iff_not, beq_iff_eq, bne_iff_ne, Bool.not_eq_true', Bool.not_eq_false', Bool.not_eq_true, Bool.not_eq_false, beq_eq_false_iff_ne, ne_eq, bne_eq_false_iff_eq, Bool.and_eq_true, Bool.or_eq_true, Bool.not_not, Bool.and_eq_false_iff, Bool.or_eq_false_iff, Int.not_lt, Int.not_le] at hc1')
        refine CD.skip ?_
        refine CD.seq ?_
        refine CD.region ?_
        refine OD.still (wants_plain rfl) rfl (still_mv rfl (opd_tmp rfl (by (repeat (first | exact look_hit | (apply look_miss; focus rfl) | exact look_nil)); done))) ?_
        refine OD.still (wants_plain rfl) rfl (still_bin rfl (opd_tmp rfl (by (repeat (first | exact look_hit | (apply look_miss; focus rfl) | exact look_nil)); done)) opd_const bin_eql) ?_
        refine OD.still (wants_plain rfl) rfl (still_mv rfl (opd_tmp rfl (by (repeat (first | exact look_hit | (apply look_miss; focus rfl) | exact look_nil)); done))) ?_
        refine OD.split (t := 41) (by (repeat (first | exact look_hit | (apply look_miss; focus rfl) | exact look_nil)); done) (fun hg41 => ?_) (fun hg41 => ?_)
        · have hg41' := hg41; simp only [decide_eq_true_eq, decide_eq_false_iff_not, beq_iff_eq, bne_iff_ne, Bool.not_eq_true', Bool.not_eq_false', Bool.not_eq_true, Bool.not_eq_false, beq_eq_false_iff_ne, ne_eq, bne_eq_false_iff_eq, Bool.and_eq_true, Bool.or_eq_true, Bool.not_not] at hg41'
          refine OD.still (wants_T rfl rfl rfl (by (repeat (first | exact look_hit | (apply look_miss; focus rfl) | exact look_nil)); done) (by first | rfl | assumption)) rfl (still_mv rfl (opd_tmp rfl (by (repeat (first | exact look_hit | (apply look_miss; focus rfl) | exact look_nil)); done))) ?_
          refine OD.still (wants_plain rfl) rfl (still_pickT rfl (opd_tmp rfl (by (repeat (first | exact look_hit | (apply look_miss; focus rfl) | exact look_nil)); done)) (by first | rfl | assumption) (opd_tmp rfl (by (repeat (first | exact look_hit | (apply look_miss; focus rfl) | exact look_nil)); done))) ?_
          refine OD.still (wants_plain rfl) rfl (still_as rfl (opd_tmp rfl (by (repeat (first | exact look_hit | (apply look_miss; focus rfl) | exact look_nil)); done))) ?_
          refine OD.wk (Wk.as_ (n := 44) (l' := [(2, _)]) (S' := [⟨b6, 25, 2, [_, _]⟩, ⟨b4, 25, 2, [_, _]⟩]) rfl rfl ⟨(by (repeat (first | exact look_hit | (apply look_miss; focus rfl) | exact look_nil)); done), trivial⟩) ?_
          refine OD.nil ?_
          refine CD.ret ?_
          refine ⟨.inr rfl, _, [], List.nil_sublist _, ret_one Tryd.results3 (res_tmp (Nat.le_of_ble_eq_true rfl) (by (repeat (first | exact look_hit | (apply look_miss; focus rfl) | exact look_nil)); done)), ?_⟩
          exact ⟨by first | rfl | (simp [*]; done), rfl⟩
        · exact absurd hg41 (by decide)
    · skip
      rw [if_neg (by omega)] at hask
      refine OD.still (wants_plain rfl) rfl (still_r1 (mk := Op.load 25) rfl (opd_tmp rfl (by (repeat (first | exact look_hit | (apply look_miss; focus rfl) | exact look_nil)); done)) (by first | exact ld_blks (k := 0) (ds := [_, _]) rfl rfl Tryd.isAgg25 Tryd.sizeOf25 rfl rfl | exact ld_fms cL_len Tryd.isAgg25 Tryd.sizeOf25 (by first | assumption | omega) | exact ld_rows (k := 0) cL_len rfl rfl rfl Tryd.isAgg25 Tryd.sizeOf25 (by first | assumption | omega) | exact ld_is (ds := [_, _]) Tryd.isAgg25 Tryd.sizeOf25 rfl rfl)) ?_
      refine OD.still (wants_plain rfl) rfl (still_bld (pl := [(0, _), (1, _), (2, _)]) (ds := [_, _, _]) rfl Tryd.zeroValue27 Tryd.runUnderlying27 places27_Lk6 ⟨rfl, opd_const, rfl, opd_const, rfl, opd_const, trivial⟩ rfl rfl) ?_
      refine OD.callP (wants_plain rfl) rfl rfl rfl Tryd.call15 (ask_vp (fullL_good hm) hask) ⟨(opd_tmp rfl (by (repeat (first | exact look_hit | (apply look_miss; focus rfl) | exact look_nil)); done)), (opd_tmp rfl (by (repeat (first | exact look_hit | (apply look_miss; focus rfl) | exact look_nil)); done)), trivial⟩ ?_
      refine OD.still (wants_plain rfl) rfl (still_mv rfl (opd_tmp rfl (by (repeat (first | exact look_hit | (apply look_miss; focus rfl) | exact look_nil)); done))) ?_
      refine OD.still (wants_plain rfl) rfl (still_extract rfl (opd_tmp rfl (by (repeat (first | exact look_hit | (apply look_miss; focus rfl) | exact look_nil)); done)) rfl) ?_
      refine OD.still (wants_plain rfl) rfl (still_extract rfl (opd_tmp rfl (by (repeat (first | exact look_hit | (apply look_miss; focus rfl) | exact look_nil)); done)) rfl) ?_
      refine OD.still (wants_plain rfl) rfl (still_extract rfl (opd_tmp rfl (by (repeat (first | exact look_hit | (apply look_miss; focus rfl) | exact look_nil)); done)) rfl) ?_
      refine OD.alloc (ds := [_, _]) (wants_plain rfl) rfl rfl Tryd.zeroValue25 rfl (fun b6 => ?_)
      refine OD.store (k := 0) (cs' := [_, _]) (wants_plain rfl) rfl rfl (opd_tmp rfl (by (repeat (first | exact look_hit | (apply look_miss; focus rfl) | exact look_nil)); done)) rfl rfl (opd_tmp rfl (by (repeat (first | exact look_hit | (apply look_miss; focus rfl) | exact look_nil)); done)) rfl rfl Tryd.sizeOf25 rfl rfl rfl ?_
      refine OD.still (wants_plain rfl) rfl (still_as rfl (opd_tmp rfl (by (repeat (first | exact look_hit | (apply look_miss; focus rfl) | exact look_nil)); done))) ?_
      refine OD.still (wants_plain rfl) rfl (still_as rfl (opd_tmp rfl (by (repeat (first | exact look_hit | (apply look_miss; focus rfl) | exact look_nil)); done))) ?_
      refine OD.wk (Wk.as_ (n := 44) (l' := [(3, _), (7, _), (8, _)]) (S' := [⟨b6, 25, 2, [_, _]⟩, ⟨b4, 25, 2, [_, _]⟩]) rfl rfl ⟨(by (repeat (first | exact look_hit | (apply look_miss; focus rfl) | exact look_nil)); done), (by (repeat (first | exact look_hit | (apply look_miss; focus rfl) | exact look_nil)); done), (by (repeat (first | exact look_hit | (apply look_miss; focus rfl) | exact look_nil)); done), trivial⟩) ?_
      refine OD.nil ?_
      refine CD.seq ?_
      refine CD.seq ?_
      refine CD.region ?_
      refine OD.still (wants_plain rfl) rfl (still_mv rfl (opd_tmp rfl (by (repeat (first | exact look_hit | (apply look_miss; focus rfl) | exact look_nil)); done))) ?_
      refine OD.still (wants_plain rfl) rfl (still_bin rfl (opd_tmp rfl (by (repeat (first | exact look_hit | (apply look_miss; focus rfl) | exact look_nil)); done)) opd_const bin_geq) ?_
      refine OD.wk (Wk.as_ (n := 44) (l' := [(7, _), (8, _), (32, _)]) (S' := [⟨b6, 25, 2, [_, _]⟩, ⟨b4, 25, 2, [_, _]⟩]) rfl rfl ⟨(by (repeat (first | exact look_hit | (apply look_miss; focus rfl) | exact look_nil)); done), (by (repeat (first | exact look_hit | (apply look_miss; focus rfl) | exact look_nil)); done), (by (repeat (first | exact look_hit | (apply look_miss; focus rfl) | exact look_nil)); done), trivial⟩) ?_
      refine OD.nil ?_
      refine CD.cond (opd_tmp rfl (by (repeat (first | exact look_hit | (apply look_miss; focus rfl) | exact look_nil)); done)) (fun hc1 => ?_) (fun hc1 => ?_)
      · have hc1' := hc1
        (try simp only [decide_eq_true_eq, decide_eq_false_iff_not, beq_iff_eq, bne_iff_ne, Bool.not_eq_true', Bool.not_eq_false', Bool.not_eq_true, Bool.not_eq_false, beq_eq_false_iff_ne, ne_eq, bne_eq_false_iff_eq, Bool.and_eq_true, Bool.or_eq_true, Bool.not_not, Bool.and_eq_false_iff, Bool.or_eq_false_iff, Int.not_lt, Int.not_le] at hc1')
        refine CD.seq ?_
        refine CD.region ?_
        refine OD.still (wants_plain rfl) rfl (still_mv rfl (opd_tmp rfl (by (repeat (first | exact look_hit | (apply look_miss; focus rfl) | exact look_nil)); done))) ?_
        refine OD.still (wants_plain rfl) rfl (still_bin rfl (opd_tmp rfl (by (repeat (first | exact look_hit | (apply look_miss; focus rfl) | exact look_nil)); done)) opd_const bin_eql) ?_
        refine OD.still (wants_plain rfl) rfl (still_mv rfl (opd_tmp rfl (by (repeat (first | exact look_hit | (apply look_miss; focus rfl) | exact look_nil)); done))) ?_
        refine OD.split (t := 35) (by (repeat (first | exact look_hit | (apply look_miss; focus rfl) | exact look_nil)); done) (fun hg35 => ?_) (fun hg35 => ?_)
        · have hg35' := hg35; simp only [decide_eq_true_eq, decide_eq_false_iff_not, beq_iff_eq, bne_iff_ne, Bool.not_eq_true', Bool.not_eq_false', Bool.not_eq_true, Bool.not_eq_false, beq_eq_false_iff_ne, ne_eq, bne_eq_false_iff_eq, Bool.and_eq_true, Bool.or_eq_true, Bool.not_not] at hg35'
          refine OD.still (wants_T rfl rfl rfl (by (repeat (first | exact look_hit | (apply look_miss; focus rfl) | exact look_nil)); done) (by first | rfl | assumption)) rfl (still_mv rfl (opd_tmp rfl (by (repeat (first | exact look_hit | (apply look_miss; focus rfl) | exact look_nil)); done))) ?_
          refine OD.still (wants_T rfl rfl rfl (by (repeat (first | exact look_hit | (apply look_miss; focus rfl) | exact look_nil)); done) (by first | rfl | assumption)) rfl (still_un rfl (opd_tmp rfl (by (repeat (first | exact look_hit | (apply look_miss; focus rfl) | exact look_nil)); done)) un_not) ?_
          refine OD.still (wants_plain rfl) rfl (still_pickT rfl (opd_tmp rfl (by (repeat (first | exact look_hit | (apply look_miss; focus rfl) | exact look_nil)); done)) (by first | rfl | assumption) (opd_tmp rfl (by (repeat (first | exact look_hit | (apply look_miss; focus rfl) | exact look_nil)); done))) ?_
          refine OD.still (wants_plain rfl) rfl (still_as rfl (opd_tmp rfl (by (repeat (first | exact look_hit | (apply look_miss; focus rfl) | exact look_nil)); done))) ?_
          refine OD.wk (Wk.as_ (n := 44) (l' := [(2, _)]) (S' := [⟨b6, 25, 2, [_, _]⟩, ⟨b4, 25, 2, [_, _]⟩]) rfl rfl ⟨(by (repeat (first | exact look_hit | (apply look_miss; focus rfl) | exact look_nil)); done), trivial⟩) ?_
          refine OD.nil ?_
          refine CD.ret ?_
          refine ⟨.inr rfl, _, [], List.nil_sublist _, ret_one Tryd.results3 (res_tmp (Nat.le_of_ble_eq_true rfl) (by (repeat (first | exact look_hit | (apply look_miss; focus rfl) | exact look_nil)); done)), ?_⟩
          exact ⟨by first | rfl | (simp [*]; done), rfl⟩
        · exact absurd hg35 (by decide)
      · exact absurd hc1 (by simp at hc1; split at hc0' <;> omega)

def FitsTab (w : World) : Prop := Tab.TabAt w 1 fitsC
def JoinsTab (w : World) : Prop := Tab.TabAt w 0 joinsC
theorem tabs {w : World} (h1 : FitsTab w) (h2 : JoinsTab w) : ∀ g ∈ TG, g.2 ≠ [] ∧ Tab.TabAt w g.1 g.2 := by
  intro g hg
  rcases List.mem_cons.1 hg with rfl | hg
  · exact ⟨by decide, h1⟩
  · rcases List.mem_cons.1 hg with rfl | hg
    · exact ⟨by decide, h2⟩
    · cases hg
theorem walkAskFull (a : Int) (wa : (Lit.int .i64 a).wf = true) (w : World) (h1 : FitsTab w) (h2 : JoinsTab w) : Calls Tryd.prog 3 #[.int .i64 a] w fun e w' => e = .returned (.bool true) ∧ Below w.heap.size w w' :=
  (askfull_vp a (wf_bd wa).1 (wf_bd wa).2).run (tabs h1 h2) (RepL.vs w _ [_])

end Go.Proofs.YtcogdagfcndbfaaDoor.Lk
