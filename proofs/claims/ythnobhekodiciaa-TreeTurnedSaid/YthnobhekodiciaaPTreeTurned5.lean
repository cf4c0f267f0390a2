/-
  What the proof of TreeTurned leans on, part 5 of 5: walks of the program's functions at the level of values, and plain facts of what they compute.
-/
import Derived.Test.YthnobhekodiciaaPTreeTurned4
namespace Go.Proofs.Ythnobhekodiciaa.Tw
open Go.RowKit V Go.Proofs.Ythnobhekodiciaa.Tr Pk
set_option linter.unusedVariables false
set_option linter.unusedSimpArgs false

theorem keyM_inj {m m' : Nat} (h : m < 90) (h' : m' < 90) (e : keyM m = keyM m') : m = m' := by
 unfold keyM at e
 simp only [List.cons.injEq, and_true] at e
 have e1 := congrArg UInt8.toNat e.1
 have e2 := congrArg UInt8.toNat e.2
 rw [UInt8.toNat_ofNat', UInt8.toNat_ofNat'] at e1 e2
 omega
theorem keyN_small {x : Int} (h : 0 ≤ x ∧ x < 90) : keyN x = keyM x.toNat := by
 unfold keyN pickedF
 rw [if_neg (by omega), Int.tmod_eq_of_lt h.1 h.2]
theorem keyN_inj {x y : Int} (h : 0 ≤ x ∧ x < 90) (h' : 0 ≤ y ∧ y < 90) (e : keyN x = keyN y) : x = y := by
 rw [keyN_small h, keyN_small h'] at e
 have := keyM_inj (by omega) (by omega) e
 omega
/-- A tree into which just these numbers were put. -/
structure BuiltT (t : TreeL) (n : Nat) (S : List Int) : Prop where
  good : GoodT t n
  mem : ∀ x, x ∈ entsOf t ↔ ∃ m ∈ S, x = (keyN m, m)
theorem built_new : BuiltT newT 0 [] := ⟨good_new, fun x => by rw [ents_new]; simp⟩
theorem built_step {t : TreeL} {n : Nat} {S : List Int} {m : Int} (b : BuiltT t n S) (hn : n ≤ 300) (hS : ∀ m ∈ S, 0 ≤ m ∧ m < 90) (hm : 0 ≤ m ∧ m < 90) (hno : m ∉ S) : thereB t (keyN m) (hOf t) = false ∧ BuiltT (insT t (hOf t) (keyN m) m) (n + 1) (S ++ [m]) := by
 have h0 : ∀ x ∈ entsOf t, x.1 ≠ keyN m := fun x hx e => by
  obtain ⟨q, hq, rfl⟩ := (b.mem x).1 hx
  exact hno (keyN_inj (hS q hq) hm e ▸ hq)
 obtain ⟨g2, _, he⟩ := good_ins b.good hn h0 (keyN_ok m) hm.1
 refine ⟨(there_no b.good).2 h0, g2, fun x => ?_⟩
 rw [he, b.mem]
 constructor
 ·rintro (rfl | ⟨q, hq, rfl⟩)
  ·exact ⟨m, by simp, rfl⟩
  ·exact ⟨q, List.mem_append_left _ hq, rfl⟩
 ·rintro ⟨q, hq, rfl⟩
  rcases List.mem_append.1 hq with hq | hq
  ·exact .inr ⟨q, hq, rfl⟩
  ·rw [List.mem_singleton] at hq; subst hq; exact .inl rfl
theorem built_eq {A B : TreeL} {n n' : Nat} {F F' : List Int} (a : BuiltT A n F) (b : BuiltT B n' F') (hF : ∀ x, x ∈ F ↔ x ∈ F') : entsOf A = entsOf B :=
 rise_ext (ents_rise a.good) (ents_rise b.good) fun x => by
  rw [a.mem, b.mem]
  exact ⟨fun ⟨m, h, e⟩ => ⟨m, (hF m).1 h, e⟩, fun ⟨m, h, e⟩ => ⟨m, (hF m).2 h, e⟩⟩
theorem built_len {A : TreeL} {n : Nat} {F : List Int} (a : BuiltT A n F) (hnd : F.Nodup) : (entsOf A).length = F.length := by
 have h1 : (entsOf A).Nodup := (ents_rise a.good).imp fun h e => by subst e; exact klt_irr _ h
 have h2 : (F.map fun m => (keyN m, m)).Nodup := List.pairwise_map.2 (hnd.imp fun h e => h (by injection e))
 have := ((List.perm_ext_iff_of_nodup h1 h2).2 fun x => by rw [a.mem]; simp only [List.mem_map]; exact ⟨fun ⟨m, h, e⟩ => ⟨m, h, e.symm⟩, fun ⟨m, h, e⟩ => ⟨m, h, e.symm⟩⟩).length_eq
 rw [this, List.length_map]
theorem old_T {F : List Int} {n : Int} {k : Nat} (h : decide (n ∈ F.take k) = true) : D.v (.bool true) = D.v (.bool (decide (n ∈ F.take (k + 1)))) := by
 have h := of_decide_eq_true h
 exact vb (decide_eq_true ((List.take_subset_take_left F (Nat.le_succ k)) h)).symm
theorem old_F {F : List Int} {n : Int} {k : Nat} (hk : k < F.length) (h : decide (n ∈ F.take k) = false) : D.v (.bool (F[k] == n)) = D.v (.bool (decide (n ∈ F.take (k + 1)))) := by
 have h := of_decide_eq_false h
 refine vb ?_
 have hiff : n ∈ F.take (k + 1) ↔ n = F[k] := by
  rw [List.take_succ_eq_append_getElem hk, List.mem_append, List.mem_singleton]
  exact ⟨fun h' => h'.resolve_left h, .inr⟩
 by_cases e : F[k] = n
 ·rw [decide_eq_true (hiff.2 e.symm)]; simp [e]
 ·rw [decide_eq_false (fun q => e (hiff.1 q).symm)]; simp [e]
theorem rev_take {F : List Int} {i : Nat} (hi : i < F.length) : F.reverse.take (i + 1) = F.reverse.take i ++ [F[F.length - 1 - i]'(by omega)] := by
 rw [List.take_succ_eq_append_getElem (by rw [List.length_reverse]; exact hi), List.getElem_reverse]
theorem rev_not {F : List Int} {i : Nat} (hnd : F.Nodup) (hi : i < F.length) : (F[F.length - 1 - i]'(by omega)) ∉ F.reverse.take i := by
 have hr : F.reverse.Nodup := List.pairwise_reverse.2 (hnd.imp fun h e => h e.symm)
 have h2 := List.take_append_drop i F.reverse
 have hd : F.reverse.drop i = F.reverse[i]'(by rw [List.length_reverse]; exact hi) :: F.reverse.drop (i + 1) := List.drop_eq_getElem_cons _
 rw [hd, List.getElem_reverse] at h2
 rw [← h2] at hr
 exact fun h => (List.nodup_append.1 hr).2.2 _ h _ List.mem_cons_self rfl
theorem take_not {F : List Int} {i : Nat} (hnd : F.Nodup) (hi : i < F.length) : F[i] ∉ F.take i := by
 have h2 := List.take_append_drop i F
 rw [List.drop_eq_getElem_cons hi] at h2
 rw [← h2] at hnd
 exact fun h => (List.nodup_append.1 hnd).2.2 _ h _ List.mem_cons_self rfl
variable {G : List (Nat × List Value)}

theorem info3_Twr : (Try.prog.info? 3).map (fun i => (i.zero, i.size, i.bytes)) = some (some (.int .i64 0), 1, 8) := by kernel_rfl

set_option maxHeartbeats 4000000 in
set_option maxRecDepth 100000 in
theorem turned_law (l : List Int) (hl : l.length ≤ maxLen) (hw : WfI l) : VP Try.prog G 3 [.list 1 (l.flatMap cI) l.length] (.v (.bool true)) := by
 refine VC.body Try.func3 rfl Try.ntmps3 (Nat.le_of_ble_eq_true rfl) fun X0 w0 S00 => ?_
 have hmx : maxLen = 9223372036854775807 := rfl
 have hnv := new_vp (G := G)
 unfold cT at hnv
 refine sr_ ?_
 refine os_ mv_ ?_
 refine nm_ [0] ?_
 refine sr_ ?_
 refine os_ mv_ ?_
 refine nm_ [0, 3] ?_
 refine CD.seq ?_
 refine sr_ ?_
 refine os_ mv_ ?_
 refine nm_ [0, 3, 4] ?_
 refine CD.block ?_
 refine CD.wk (Wk.asS (n := 170) (l' := [(0, .list 1 (l.flatMap cI) l.length), (3, .v (.slice none (([])).length (0))), (4, .v (.int .i64 ((0) : Nat)))]) (S' := (([]))) rfl (by repeat (first | exact List.Sublist.refl _ | apply List.Sublist.cons_cons | apply List.Sublist.cons)) ⟨(by (repeat (first | exact look_hit | (apply look_at; focus (first | rfl | (simp; done) | (congr 2; omega) | (apply row_eq; simp; done))) | (apply look_miss; focus rfl))); done), (by (repeat (first | exact look_hit | (apply look_at; focus (first | rfl | (simp; done) | (congr 2; omega) | (apply row_eq; simp; done))) | (apply look_miss; focus rfl))); done), (by (repeat (first | exact look_hit | (apply look_at; focus (first | rfl | (simp; done) | (congr 2; omega) | (apply row_eq; simp; done))) | (apply look_miss; focus rfl))); done), trivial⟩) (CD.loop (fun (gh__ : Nat × List Int × Option Addr × Nat × List Blk) y__ => match gh__ with | (i, F, adf, cpf, Sf) => (i ≤ l.length) ∧ (i ≤ 60) ∧ (List.Nodup F) ∧ (∀ x ∈ F, 0 ≤ x ∧ x < 90) ∧ (List.length F ≤ i) ∧ (OwnL 3 1 ((F).flatMap cI) (F).length adf cpf Sf) ∧ y__ = (⟨170, [(0, .list 1 (l.flatMap cI) l.length), (3, .v (.slice adf (F).length cpf)), (4, .v (.int .i64 (i : Nat)))], (Sf)⟩ : St)) (fun (gh__ : Nat × List Int × Option Addr × Nat × List Blk) => match gh__ with | (i, F, adf, cpf, Sf) => 60 - i) (0, [], none, 0, []) ⟨(Nat.zero_le _), (by omega), List.nodup_nil, (fun _ h => by cases h), (Nat.le_refl _), (OwnL.cast ownL_nil (by first | rfl | simp)), rfl⟩ ?_)
 rintro ⟨i, F, adf, cpf, Sf⟩ _ ⟨hi1, hi2, hnd, hF, hFl, hof, rfl⟩
 refine CD.seq ?_
 refine sr_ ?_
 refine os_ mv_ ?_
 refine os_ mv_ ?_
 refine os_ ln_ ?_
 refine os_ bn_ ?_
 refine os_ mv_ ?_
 refine OD.split (t := 24) lk (fun hg24 => ?_) (fun hg24 => ?_)
 ·have hg24' := hg24; (try simp only [V.cnd, ne_eq] at hg24')
  refine os_ mv_ ?_
  refine os_ bn_ ?_
  refine os_ pkT_ ?_
  refine nm_ [0, 3, 4, 27] ?_
  refine CD.cond ot (fun hc0 => ?_) (fun hc0 => ?_)
  ·have hc0' := hc0
   (try simp only [V.cnd, ne_eq] at hc0')
   have hil : i < l.length := by simp_all
   have hi60 : i < 60 := by simp_all; omega
   obtain ⟨x1, x2⟩ := hw _ (List.getElem_mem hil)
   have hpb := pickedF_bd l[i] (by decide : (1 : Int) ≤ 90)
   have hpk := picked_vp G l[i] 90 x1 x2 (by decide)
   refine CD.skip ?_
   refine CD.seq ?_
   refine CD.block ?_
   refine sr_ ?_
   refine os_ mv_ ?_
   refine os_ mv_ ?_
   refine os_ (ix_ 1 (h := by first | exact .l (j := i) rfl hil | exact .r (j := i) rfl hil)) ?_
   refine os_ ld_ ?_
   refine OD.callP (wants_plain rfl) rfl rfl rfl Try.call12 (hpk) ⟨ot, opd_const, trivial⟩ ?_
   refine os_ mv_ ?_
   refine OD.wk (Wk.as_ (n := 170) (l' := [(0, _), (3, _), (4, _), (5, _)]) (S' := (Sf)) rfl rfl ⟨lk, lk, lk, lk, trivial⟩) ?_
   refine OD.nil ?_
   refine sr_ ?_
   refine os_ mv_ ?_
   refine nm_ [0, 3, 4, 5, 6] ?_
   refine CD.seq ?_
   refine sr_ ?_
   refine os_ mv_ ?_
   refine nm_ [0, 3, 4, 5, 6, 7] ?_
   refine CD.block ?_
   refine CD.wk (Wk.asS (n := 170) (l' := [(0, .list 1 (l.flatMap cI) l.length), (3, .v (.slice adf F.length cpf)), (4, .v (.int .i64 (i : Nat))), (5, .v (.int .i64 (pickedF l[i] 90))), (6, .v (.bool (decide (pickedF l[i] 90 ∈ F.take (0))))), (7, .v (.int .i64 ((0) : Nat)))]) (S' := Sf) rfl (by repeat (first | exact List.Sublist.refl _ | apply List.Sublist.cons)) ⟨(by (repeat (first | exact look_hit | (apply look_at; focus (first | rfl | exact old_T hg42 | exact old_F hkl hg42 | (simp; done))) | (apply look_miss; focus rfl))); done), (by (repeat (first | exact look_hit | (apply look_at; focus (first | rfl | exact old_T hg42 | exact old_F hkl hg42 | (simp; done))) | (apply look_miss; focus rfl))); done), (by (repeat (first | exact look_hit | (apply look_at; focus (first | rfl | exact old_T hg42 | exact old_F hkl hg42 | (simp; done))) | (apply look_miss; focus rfl))); done), (by (repeat (first | exact look_hit | (apply look_at; focus (first | rfl | exact old_T hg42 | exact old_F hkl hg42 | (simp; done))) | (apply look_miss; focus rfl))); done), (by (repeat (first | exact look_hit | (apply look_at; focus (first | rfl | exact old_T hg42 | exact old_F hkl hg42 | (simp; done))) | (apply look_miss; focus rfl))); done), (by (repeat (first | exact look_hit | (apply look_at; focus (first | rfl | exact old_T hg42 | exact old_F hkl hg42 | (simp; done))) | (apply look_miss; focus rfl))); done), trivial⟩) (CD.loop (fun (k : Nat) y__ => (k ≤ F.length) ∧ y__ = (⟨170, [(0, .list 1 (l.flatMap cI) l.length), (3, .v (.slice adf F.length cpf)), (4, .v (.int .i64 (i : Nat))), (5, .v (.int .i64 (pickedF l[i] 90))), (6, .v (.bool (decide (pickedF l[i] 90 ∈ F.take k)))), (7, .v (.int .i64 (k : Nat)))], Sf⟩ : St)) (fun (k : Nat) => F.length - k) 0 ⟨(Nat.zero_le _), rfl⟩ ?_)
   rintro k _ ⟨hk, rfl⟩
   refine CD.seq ?_
   refine sr_ ?_
   refine os_ mv_ ?_
   refine os_ mv_ ?_
   refine os_ ln_ ?_
   refine os_ bn_ ?_
   refine nm_ [0, 3, 4, 5, 6, 7, 38] ?_
   refine CD.cond ot (fun hc1 => ?_) (fun hc1 => ?_)
   ·have hc1' := hc1
    (try simp only [V.cnd, ne_eq] at hc1')
    have hkl : k < F.length := by simp at hc1; omega
    obtain ⟨bf, hadf, hf1, hf2, hSf⟩ := hof.pos (by omega)
    refine CD.skip ?_
    refine CD.seq ?_
    refine CD.block ?_
    refine CD.region ?_
    refine os_ mv_ ?_
    refine os_ mv_ ?_
    refine OD.split (t := 42) lk (fun hg42 => ?_) (fun hg42 => ?_)
    ·have hg42' := hg42; (try simp only [V.cnd, ne_eq] at hg42')
     refine sk_ ?_
     refine sk_ ?_
     refine sk_ ?_
     refine sk_ ?_
     refine sk_ ?_
     refine sk_ ?_
     refine os_ pkT_ ?_
     refine os_ mv_ ?_
     refine nm_ [0, 3, 4, 5, 6, 7] ?_
     refine CD.region ?_
     refine os_ mv_ ?_
     refine os_ bn_ ?_
     refine os_ mv_ ?_
     refine nm_ [0, 3, 4, 5, 6, 7] ?_
     refine ⟨(k + 1), ⟨170, [(0, .list 1 (l.flatMap cI) l.length), (3, .v (.slice adf F.length cpf)), (4, .v (.int .i64 (i : Nat))), (5, .v (.int .i64 (pickedF l[i] 90))), (6, .v (.bool (decide (pickedF l[i] 90 ∈ F.take ((k + 1)))))), (7, .v (.int .i64 (((k + 1)) : Nat)))], Sf⟩, ?_, Wk.asS (n := 170) rfl (by repeat (first | exact List.Sublist.refl _ | apply List.Sublist.cons)) ⟨(by (repeat (first | exact look_hit | (apply look_at; focus (first | rfl | exact old_T hg42 | exact old_F hkl hg42 | (simp; done))) | (apply look_miss; focus rfl))); done), (by (repeat (first | exact look_hit | (apply look_at; focus (first | rfl | exact old_T hg42 | exact old_F hkl hg42 | (simp; done))) | (apply look_miss; focus rfl))); done), (by (repeat (first | exact look_hit | (apply look_at; focus (first | rfl | exact old_T hg42 | exact old_F hkl hg42 | (simp; done))) | (apply look_miss; focus rfl))); done), (by (repeat (first | exact look_hit | (apply look_at; focus (first | rfl | exact old_T hg42 | exact old_F hkl hg42 | (simp; done))) | (apply look_miss; focus rfl))); done), (by (repeat (first | exact look_hit | (apply look_at; focus (first | rfl | exact old_T hg42 | exact old_F hkl hg42 | (simp; done))) | (apply look_miss; focus rfl))); done), (by (repeat (first | exact look_hit | (apply look_at; focus (first | rfl | exact old_T hg42 | exact old_F hkl hg42 | (simp; done))) | (apply look_miss; focus rfl))); done), trivial⟩, (by omega), rfl⟩
     first | omega | (simp only []; omega)
    ·have hg42' := hg42; (try simp only [V.cnd, ne_eq] at hg42')
     refine os_ mv_ ?_
     refine os_ mv_ ?_
     refine OD.still (wants_T rfl rfl rfl lk (by first | rfl | assumption)) rfl (still_r2 (mk := Op.indexAddr 22) rfl ot ot (by have := ix_row (P := Try.prog) (G := G) (S := Sf) (t := 22) (len := F.length) (cap := cpf) (b := bf) (o' := 0) (k := .i64) (i := (k : Nat)) (j := k) Try.runUnderlying22 Try.sizeOf3 rfl hkl; rw [← hadf] at this; exact this)) ?_
     refine OD.still (wants_T rfl rfl rfl lk (by first | rfl | assumption)) rfl (still_r1 (mk := Op.load 3) rfl ot (by exact ld_row0 (k := 0) (ls := F) cI_len (by show Sf[0]? = _; rw [hSf]; rfl) rfl rfl Try.isAgg3 hkl rfl)) ?_
     refine os_ mv_ ?_
     refine os_ bn_ ?_
     refine os_ pkF_ ?_
     refine os_ mv_ ?_
     refine OD.wk (Wk.as_ (n := 170) (l' := [(0, _), (3, _), (4, _), (5, _), (6, _), (7, _)]) (S' := (Sf)) rfl rfl ⟨lk, lk, lk, lk, lk, lk, trivial⟩) ?_
     refine OD.nil ?_
     refine CD.region ?_
     refine os_ mv_ ?_
     refine os_ bn_ ?_
     refine os_ mv_ ?_
     refine nm_ [0, 3, 4, 5, 6, 7] ?_
     refine ⟨(k + 1), ⟨170, [(0, .list 1 (l.flatMap cI) l.length), (3, .v (.slice adf F.length cpf)), (4, .v (.int .i64 (i : Nat))), (5, .v (.int .i64 (pickedF l[i] 90))), (6, .v (.bool (decide (pickedF l[i] 90 ∈ F.take ((k + 1)))))), (7, .v (.int .i64 (((k + 1)) : Nat)))], Sf⟩, ?_, Wk.asS (n := 170) rfl (by repeat (first | exact List.Sublist.refl _ | apply List.Sublist.cons)) ⟨(by (repeat (first | exact look_hit | (apply look_at; focus (first | rfl | exact old_T hg42 | exact old_F hkl hg42 | (simp; done))) | (apply look_miss; focus rfl))); done), (by (repeat (first | exact look_hit | (apply look_at; focus (first | rfl | exact old_T hg42 | exact old_F hkl hg42 | (simp; done))) | (apply look_miss; focus rfl))); done), (by (repeat (first | exact look_hit | (apply look_at; focus (first | rfl | exact old_T hg42 | exact old_F hkl hg42 | (simp; done))) | (apply look_miss; focus rfl))); done), (by (repeat (first | exact look_hit | (apply look_at; focus (first | rfl | exact old_T hg42 | exact old_F hkl hg42 | (simp; done))) | (apply look_miss; focus rfl))); done), (by (repeat (first | exact look_hit | (apply look_at; focus (first | rfl | exact old_T hg42 | exact old_F hkl hg42 | (simp; done))) | (apply look_miss; focus rfl))); done), (by (repeat (first | exact look_hit | (apply look_at; focus (first | rfl | exact old_T hg42 | exact old_F hkl hg42 | (simp; done))) | (apply look_miss; focus rfl))); done), trivial⟩, (by omega), rfl⟩
     first | omega | (simp only []; omega)
   ·have hc1' := hc1
    (try simp only [V.cnd, ne_eq] at hc1')
    have hke : k = F.length := by simp at hc1; omega
    subst hke
    simp only [List.take_length]
    refine CD.exit ?_
    refine sr_ ?_
    refine os_ mv_ ?_
    refine os_ un_ ?_
    refine nm_ [0, 3, 4, 5, 51] ?_
    refine CD.cond ot (fun hc2 => ?_) (fun hc2 => ?_)
    ·have hc2' := hc2
     (try simp only [V.cnd, ne_eq] at hc2')
     have hnot : pickedF l[i] 90 ∉ F := by simpa using hc2
     refine CD.region ?_
     refine os_ mv_ ?_
     refine os_ mv_ ?_
     refine OD.bldS (pl := numD 0 [_]) (zvs := [.int .i64 0]) (ds := [_]) (wants_plain rfl) rfl rfl Try.zeroValue3 Try.runUnderlying22 Try.sizeOf3 rfl rfl (by kernel_rfl) ⟨rfl, ot, trivial⟩ (by exact rfl) (fill_full (by exact rfl) (by exact rfl) (by exact rfl)) (fun b54 => ?_)
     refine OD.give (k := 0) (t := 54) (sz := 1) (m := 1) rfl lk rfl rfl rfl (Nat.le_refl _) (by decide) ?_
     refine OD.appendG (ls := (F)) (new := [pickedF l[i] 90]) (Sq := Sf) cI_len cI_one (wants_plain rfl) rfl rfl Try.underlying22 info3_Twr rfl (by decide) ot hof (perm_r11 (A := [])) ot (by simp) (by simp only [maxLen, List.length_append, List.length_cons, List.length_nil] at *; omega) (by simp only [maxLen, List.length_append, List.length_cons, List.length_nil] at *; omega) (fun b55 cp55 h155 h255 => ?_)
     refine OD.perm (perm_q11 (S1 := [⟨b55, 3, cp55 * 1, List.flatMap cI ((F) ++ [pickedF l[i] 90])⟩]) (A := [])) ?_
     refine os_ mv_ ?_
     refine OD.wk (Wk.as_ (n := 170) (l' := [(0, _), (3, _), (4, _)]) (S' := ([⟨b55, 3, cp55 * 1, List.flatMap cI ((F) ++ [pickedF l[i] 90])⟩])) rfl rfl ⟨lk, lk, lk, trivial⟩) ?_
     refine OD.nil ?_
     refine CD.region ?_
     refine os_ mv_ ?_
     refine os_ bn_ ?_
     refine os_ mv_ ?_
     refine nm_ [0, 3, 4] ?_
     refine ⟨((i + 1), (F ++ [pickedF l[i] 90]), (some ⟨b55, 0, none⟩), cp55, [⟨b55, 3, cp55 * 1, List.flatMap cI ((F) ++ [pickedF l[i] 90])⟩]), ⟨170, [(0, .list 1 (l.flatMap cI) l.length), (3, .v (.slice ((some ⟨b55, 0, none⟩)) (((F ++ [pickedF l[i] 90]))).length cp55)), (4, .v (.int .i64 (((i + 1)) : Nat)))], (([⟨b55, 3, cp55 * 1, List.flatMap cI ((F) ++ [pickedF l[i] 90])⟩]))⟩, ?_, Wk.asS (n := 170) rfl (by repeat (first | exact List.Sublist.refl _ | apply List.Sublist.cons_cons | apply List.Sublist.cons)) ⟨(by (repeat (first | exact look_hit | (apply look_at; focus (first | rfl | (simp; done) | (congr 2; omega) | (apply row_eq; simp; done))) | (apply look_miss; focus rfl))); done), (by (repeat (first | exact look_hit | (apply look_at; focus (first | rfl | (simp; done) | (congr 2; omega) | (apply row_eq; simp; done))) | (apply look_miss; focus rfl))); done), (by (repeat (first | exact look_hit | (apply look_at; focus (first | rfl | (simp; done) | (congr 2; omega) | (apply row_eq; simp; done))) | (apply look_miss; focus rfl))); done), trivial⟩, (by omega), (by omega), (List.nodup_append.2 ⟨hnd, by simp, fun a ha b hb e => by rw [List.mem_singleton] at hb; subst hb; subst e; exact hnot ha⟩), (fun x hx => by rcases List.mem_append.1 hx with hx | hx; exact hF x hx; rw [List.mem_singleton] at hx; subst hx; exact hpb), (by rw [List.length_append]; simp; omega), (OwnL.cast (ownL_row h155 h255) (by first | rfl | simp)), rfl⟩
     first | omega | (simp only []; omega)
    ·have hc2' := hc2
     (try simp only [V.cnd, ne_eq] at hc2')
     refine CD.skip ?_
     refine CD.region ?_
     refine os_ mv_ ?_
     refine os_ bn_ ?_
     refine os_ mv_ ?_
     refine nm_ [0, 3, 4] ?_
     refine ⟨((i + 1), F, adf, cpf, Sf), ⟨170, [(0, .list 1 (l.flatMap cI) l.length), (3, .v (.slice adf (F).length cpf)), (4, .v (.int .i64 (((i + 1)) : Nat)))], (Sf)⟩, ?_, Wk.asS (n := 170) rfl (by repeat (first | exact List.Sublist.refl _ | apply List.Sublist.cons_cons | apply List.Sublist.cons)) ⟨(by (repeat (first | exact look_hit | (apply look_at; focus (first | rfl | (simp; done) | (congr 2; omega) | (apply row_eq; simp; done))) | (apply look_miss; focus rfl))); done), (by (repeat (first | exact look_hit | (apply look_at; focus (first | rfl | (simp; done) | (congr 2; omega) | (apply row_eq; simp; done))) | (apply look_miss; focus rfl))); done), (by (repeat (first | exact look_hit | (apply look_at; focus (first | rfl | (simp; done) | (congr 2; omega) | (apply row_eq; simp; done))) | (apply look_miss; focus rfl))); done), trivial⟩, (by omega), (by omega), hnd, hF, (by show F.length ≤ i + 1; omega), (OwnL.cast hof (by first | rfl | simp)), rfl⟩
     first | omega | (simp only []; omega)
  ·have hc0' := hc0
   (try simp only [V.cnd, ne_eq] at hc0')
   refine CD.exit ?_
   refine CD.seq ?_
   refine CD.giveL (t := 3) (Sq := Sf) lk hof (fm_len cI_len _) (perm_r11 (A := [])) ?_
   refine CD.region ?_
   refine OD.callP (wants_plain rfl) rfl rfl rfl Try.call13 (hnv) trivial ?_
   refine OD.alloc (ds := [_, _]) (wants_plain rfl) rfl rfl Try.zeroValue26 rfl (fun b8 => ?_)
   refine OD.store (k := 0) (cs' := [_, _]) (wants_plain rfl) rfl rfl ot rfl rfl ot rfl rfl Try.sizeOf26 rfl rfl rfl ?_
   refine OD.wk (Wk.as_ (n := 170) (l' := [(3, _), (8, _)]) (S' := [⟨b8, 26, 2, [_, _]⟩]) rfl rfl ⟨lk, lk, trivial⟩) ?_
   refine OD.nil ?_
   refine sr_ ?_
   refine OD.callP (wants_plain rfl) rfl rfl rfl Try.call13 (hnv) trivial ?_
   refine OD.alloc (ds := [_, _]) (wants_plain rfl) rfl rfl Try.zeroValue26 rfl (fun b9 => ?_)
   refine OD.store (k := 0) (cs' := [_, _]) (wants_plain rfl) rfl rfl ot rfl rfl ot rfl rfl Try.sizeOf26 rfl rfl rfl ?_
   refine OD.wk (Wk.as_ (n := 170) (l' := [(3, _), (8, _), (9, _)]) (S' := [⟨b9, 26, 2, [_, _]⟩, ⟨b8, 26, 2, [_, _]⟩]) rfl rfl ⟨lk, lk, lk, trivial⟩) ?_
   refine OD.nil ?_
   refine CD.seq ?_
   refine sr_ ?_
   refine os_ mv_ ?_
   refine nm_ [3, 8, 9, 10] ?_
   refine CD.block ?_
   refine CD.wk (Wk.asS (n := 170) (l' := [(3, .list 1 (F.flatMap cI) F.length), (8, .v (.pointer (some ⟨b8, 0, none⟩))), (9, .v (.pointer (some ⟨b9, 0, none⟩))), (10, .v (.int .i64 ((0) : Nat)))]) (S' := [⟨b9, 26, 2, [.list 5 ((newT).pages.flatMap cP) (newT).pages.length, .v (.int .i64 (newT).root)]⟩, ⟨b8, 26, 2, [.list 5 ((newT).pages.flatMap cP) (newT).pages.length, .v (.int .i64 (newT).root)]⟩]) rfl (by repeat (first | exact List.Sublist.refl _ | apply List.Sublist.cons)) ⟨lq_, lq_, lq_, lq_, trivial⟩) (CD.loop (fun (gh__ : Nat × TreeL × TreeL) y__ => match gh__ with | (i, A, B) => (i ≤ F.length) ∧ (BuiltT A i (F.take i)) ∧ (BuiltT B i (F.reverse.take i)) ∧ y__ = (⟨170, [(3, .list 1 (F.flatMap cI) F.length), (8, .v (.pointer (some ⟨b8, 0, none⟩))), (9, .v (.pointer (some ⟨b9, 0, none⟩))), (10, .v (.int .i64 (i : Nat)))], [⟨b9, 26, 2, [.list 5 ((B).pages.flatMap cP) (B).pages.length, .v (.int .i64 (B).root)]⟩, ⟨b8, 26, 2, [.list 5 ((A).pages.flatMap cP) (A).pages.length, .v (.int .i64 (A).root)]⟩]⟩ : St)) (fun (gh__ : Nat × TreeL × TreeL) => match gh__ with | (i, A, B) => F.length - i) (0, newT, newT) ⟨(Nat.zero_le _), built_new, built_new, rfl⟩ ?_)
   rintro ⟨i, A, B⟩ _ ⟨hi, hA, hB, rfl⟩
   refine CD.seq ?_
   refine sr_ ?_
   refine os_ mv_ ?_
   refine os_ mv_ ?_
   refine os_ ln_ ?_
   refine os_ bn_ ?_
   refine nm_ [3, 8, 9, 10, 61] ?_
   refine CD.cond ot (fun hc3 => ?_) (fun hc3 => ?_)
   ·have hc3' := hc3
    (try simp only [V.cnd, ne_eq] at hc3')
    have hlt : i < F.length := by simp at hc3; omega
    have hi300 : i ≤ 300 := by omega
    have hm1 := hF _ (List.getElem_mem hlt)
    have hm2 : 0 ≤ (F[F.length - 1 - i]'(by omega)) ∧ (F[F.length - 1 - i]'(by omega)) < 90 := hF _ (List.getElem_mem _)
    obtain ⟨htA, hA2⟩ := built_step hA hi300 (fun m hm => hF m (List.mem_of_mem_take hm)) hm1 (take_not hnd hlt)
    obtain ⟨htB, hB2⟩ := built_step hB hi300 (fun m hm => hF m (List.mem_reverse.1 (List.mem_of_mem_take hm))) hm2 (rev_not hnd hlt)
    have hia := insert_g (G := G) hA.good (keyN F[i]) F[i]
    rw [ins_no hA.good hi300 (keyN_ok _) hm1.1 htA] at hia
    have hib := insert_g (G := G) hB.good (keyN (F[F.length - 1 - i]'(by omega))) (F[F.length - 1 - i]'(by omega))
    rw [ins_no hB.good hi300 (keyN_ok _) hm2.1 htB] at hib
    dsimp only at hia hib
    unfold cT at hia hib
    refine CD.skip ?_
    refine CD.seq ?_
    refine CD.block ?_
    refine CD.seq ?_
    refine CD.mono (Q := fun e__ y__ => e__ = Exit.normal ∧ ∃ (b11 : Nat), (True) ∧ Wk y__ (⟨170, [(3, .list 1 (F.flatMap cI) F.length), (8, .v (.pointer (some ⟨b8, 0, none⟩))), (9, .v (.pointer (some ⟨b9, 0, none⟩))), (10, .v (.int .i64 (i : Nat))), (11, .v (.pointer (some ⟨b11, 0, none⟩))), (12, .v (.int .i64 0))], [⟨b11, 26, 2, [.list 5 (((insT A (hOf A) (keyN F[i]) F[i])).pages.flatMap cP) ((insT A (hOf A) (keyN F[i]) F[i])).pages.length, .v (.int .i64 ((insT A (hOf A) (keyN F[i]) F[i])).root)]⟩, ⟨b9, 26, 2, [.list 5 ((B).pages.flatMap cP) (B).pages.length, .v (.int .i64 (B).root)]⟩, ⟨b8, 26, 2, [.list 5 ((A).pages.flatMap cP) (A).pages.length, .v (.int .i64 (A).root)]⟩]⟩ : St)) ?_ ?_
    ·skip
     refine CD.draw (bks _) (by kernel_rfl) (fun _ h => h) ?_
     refine a0_ 0 rfl (lab_ 1 [_, _]) ?_
     refine a0_ 1 rfl mv_ ?_
     refine a0_ 2 rfl mv_ ?_
     refine a0_ 3 rfl (ix_ 1 (h := by first | exact .l (j := i) rfl hlt | exact .r (j := i) rfl hlt)) ?_
     refine a0_ 4 rfl ld_ ?_
     refine a0_ 6 rfl mv_ ?_
     refine a0_ 7 rfl mv_ ?_
     refine a0_ 8 rfl (ix_ 1 (h := by first | exact .l (j := i) rfl hlt | exact .r (j := i) rfl hlt)) ?_
     refine a0_ 9 rfl ld_ ?_
     refine AD0.later rfl ?_
     refine AD.two (i := 5) (j := 14) (by kernel_rfl) ?_ ?_
     ·skip
      refine AStep.callP rfl (wants_plain rfl) rfl rfl rfl Try.call15 (key_vpN F[i] (by omega) (by omega)) ⟨ot, trivial⟩ ?_
      refine AD.two (i := 10) (j := 14) (by kernel_rfl) ?_ ?_
      ·skip
       refine AStep.callP rfl (wants_plain rfl) rfl rfl rfl Try.call14 (hia) ⟨ot, ot, ot, trivial⟩ ?_
       refine a1_ 11 rfl mv_ ?_
       refine a1_ 12 rfl ex_ ?_
       refine a1_ 13 rfl ex_ ?_
       refine AD.one (i := 14) (by kernel_rfl) ?_
       refine AStep.alloc (ds := [_, _]) rfl (wants_plain rfl) rfl rfl Try.zeroValue26 rfl (fun b11 => ?_)
       refine AD.one (i := 15) (by kernel_rfl) ?_
       refine AStep.store (k := 0) (cs' := [_, _]) rfl (wants_plain rfl) rfl rfl ot rfl rfl ot rfl rfl Try.sizeOf26 rfl rfl rfl (by intro b hb; simp [bks, St.put] at hb ⊢; try first | exact hb | simp [hb] | (rcases hb with hb | hb <;> simp [hb]) | (rcases hb with hb | hb | hb <;> simp [hb])) ?_
       refine a1_ 16 rfl mv_ ?_
       refine AD.wk (y := ⟨170, [(3, _), (8, _), (9, _), (10, _), (11, _), (12, _)], [⟨b11, 26, 2, [_, _]⟩, ⟨b9, 26, 2, [_, _]⟩, ⟨b8, 26, 2, [_, _]⟩]⟩) (Wk.as_ rfl rfl ⟨lk, lk, lk, lk, lk, lk, trivial⟩) rfl ?_
       refine AD.done (by kernel_rfl) ?_
       exact ⟨rfl, _, trivial, Wk.refl _⟩
      ·skip
       refine AStep.alloc (ds := [_, _]) rfl (wants_plain rfl) rfl rfl Try.zeroValue26 rfl (fun b11 => ?_)
       refine AD.one (i := 10) (by kernel_rfl) ?_
       refine AStep.callP rfl (wants_plain rfl) rfl rfl rfl Try.call14 (hia) ⟨ot, ot, ot, trivial⟩ ?_
       refine a1_ 11 rfl mv_ ?_
       refine a1_ 12 rfl ex_ ?_
       refine a1_ 13 rfl ex_ ?_
       refine AD.one (i := 15) (by kernel_rfl) ?_
       refine AStep.store (k := 0) (cs' := [_, _]) rfl (wants_plain rfl) rfl rfl ot rfl rfl ot rfl rfl Try.sizeOf26 rfl rfl rfl (by intro b hb; simp [bks, St.put] at hb ⊢; try first | exact hb | simp [hb] | (rcases hb with hb | hb <;> simp [hb]) | (rcases hb with hb | hb | hb <;> simp [hb])) ?_
       refine a1_ 16 rfl mv_ ?_
       refine AD.wk (y := ⟨170, [(3, _), (8, _), (9, _), (10, _), (11, _), (12, _)], [⟨b11, 26, 2, [_, _]⟩, ⟨b9, 26, 2, [_, _]⟩, ⟨b8, 26, 2, [_, _]⟩]⟩) (Wk.as_ rfl rfl ⟨lk, lk, lk, lk, lk, lk, trivial⟩) rfl ?_
       refine AD.done (by kernel_rfl) ?_
       exact ⟨rfl, _, trivial, Wk.refl _⟩
     ·skip
      refine AStep.alloc (ds := [_, _]) rfl (wants_plain rfl) rfl rfl Try.zeroValue26 rfl (fun b11 => ?_)
      refine AD.one (i := 5) (by kernel_rfl) ?_
      refine AStep.callP rfl (wants_plain rfl) rfl rfl rfl Try.call15 (key_vpN F[i] (by omega) (by omega)) ⟨ot, trivial⟩ ?_
      refine AD.one (i := 10) (by kernel_rfl) ?_
      refine AStep.callP rfl (wants_plain rfl) rfl rfl rfl Try.call14 (hia) ⟨ot, ot, ot, trivial⟩ ?_
      refine a1_ 11 rfl mv_ ?_
      refine a1_ 12 rfl ex_ ?_
      refine a1_ 13 rfl ex_ ?_
      refine AD.one (i := 15) (by kernel_rfl) ?_
      refine AStep.store (k := 0) (cs' := [_, _]) rfl (wants_plain rfl) rfl rfl ot rfl rfl ot rfl rfl Try.sizeOf26 rfl rfl rfl (by intro b hb; simp [bks, St.put] at hb ⊢; try first | exact hb | simp [hb] | (rcases hb with hb | hb <;> simp [hb]) | (rcases hb with hb | hb | hb <;> simp [hb])) ?_
      refine a1_ 16 rfl mv_ ?_
      refine AD.wk (y := ⟨170, [(3, _), (8, _), (9, _), (10, _), (11, _), (12, _)], [⟨b11, 26, 2, [_, _]⟩, ⟨b9, 26, 2, [_, _]⟩, ⟨b8, 26, 2, [_, _]⟩]⟩) (Wk.as_ rfl rfl ⟨lk, lk, lk, lk, lk, lk, trivial⟩) rfl ?_
      refine AD.done (by kernel_rfl) ?_
      exact ⟨rfl, _, trivial, Wk.refl _⟩
    ·skip
     rintro _ _ ⟨rfl, b11, _, hwk__⟩
     refine CD.wk hwk__ ?_
     refine CD.seq ?_
     refine CD.mono (Q := fun e__ y__ => e__ = Exit.normal ∧ ∃ (b13 : Nat), (True) ∧ Wk y__ (⟨170, [(3, .list 1 (F.flatMap cI) F.length), (8, .v (.pointer (some ⟨b8, 0, none⟩))), (9, .v (.pointer (some ⟨b9, 0, none⟩))), (10, .v (.int .i64 (i : Nat))), (11, .v (.pointer (some ⟨b11, 0, none⟩))), (12, .v (.int .i64 0)), (13, .v (.pointer (some ⟨b13, 0, none⟩))), (14, .v (.int .i64 0))], [⟨b13, 26, 2, [.list 5 (((insT B (hOf B) (keyN (F[F.length - 1 - i]'(by omega))) (F[F.length - 1 - i]'(by omega)))).pages.flatMap cP) ((insT B (hOf B) (keyN (F[F.length - 1 - i]'(by omega))) (F[F.length - 1 - i]'(by omega)))).pages.length, .v (.int .i64 ((insT B (hOf B) (keyN (F[F.length - 1 - i]'(by omega))) (F[F.length - 1 - i]'(by omega)))).root)]⟩, ⟨b11, 26, 2, [.list 5 (((insT A (hOf A) (keyN F[i]) F[i])).pages.flatMap cP) ((insT A (hOf A) (keyN F[i]) F[i])).pages.length, .v (.int .i64 ((insT A (hOf A) (keyN F[i]) F[i])).root)]⟩, ⟨b9, 26, 2, [.list 5 ((B).pages.flatMap cP) (B).pages.length, .v (.int .i64 (B).root)]⟩, ⟨b8, 26, 2, [.list 5 ((A).pages.flatMap cP) (A).pages.length, .v (.int .i64 (A).root)]⟩]⟩ : St)) ?_ ?_
     ·skip
      refine CD.draw (bks _) (by kernel_rfl) (fun _ h => h) ?_
      refine a0_ 0 rfl (lab_ 1 [_, _]) ?_
      refine a0_ 1 rfl mv_ ?_
      refine a0_ 2 rfl mv_ ?_
      refine a0_ 3 rfl ln_ ?_
      refine a0_ 4 rfl bn_ ?_
      refine a0_ 5 rfl mv_ ?_
      refine a0_ 6 rfl bn_ ?_
      refine a0_ 7 rfl (ix_ 1 (h := by first | exact .l (j := F.length - 1 - i) (by omega) (by omega) | exact .r (j := F.length - 1 - i) (by omega) (by omega))) ?_
      refine a0_ 8 rfl ld_ ?_
      refine a0_ 10 rfl mv_ ?_
      refine a0_ 11 rfl mv_ ?_
      refine a0_ 12 rfl ln_ ?_
      refine a0_ 13 rfl bn_ ?_
      refine a0_ 14 rfl mv_ ?_
      refine a0_ 15 rfl bn_ ?_
      refine a0_ 16 rfl (ix_ 1 (h := by first | exact .l (j := F.length - 1 - i) (by omega) (by omega) | exact .r (j := F.length - 1 - i) (by omega) (by omega))) ?_
      refine a0_ 17 rfl ld_ ?_
      refine AD0.later rfl ?_
      refine AD.two (i := 9) (j := 22) (by kernel_rfl) ?_ ?_
      ·skip
       refine AStep.callP rfl (wants_plain rfl) rfl rfl rfl Try.call15 (key_vpN (F[F.length - 1 - i]'(by omega)) (by omega) (by omega)) ⟨ot, trivial⟩ ?_
       refine AD.two (i := 18) (j := 22) (by kernel_rfl) ?_ ?_
       ·skip
        refine AStep.callP rfl (wants_plain rfl) rfl rfl rfl Try.call14 (hib) ⟨ot, ot, ot, trivial⟩ ?_
        refine a1_ 19 rfl mv_ ?_
        refine a1_ 20 rfl ex_ ?_
        refine a1_ 21 rfl ex_ ?_
        refine AD.one (i := 22) (by kernel_rfl) ?_
        refine AStep.alloc (ds := [_, _]) rfl (wants_plain rfl) rfl rfl Try.zeroValue26 rfl (fun b13 => ?_)
        refine AD.one (i := 23) (by kernel_rfl) ?_
        refine AStep.store (k := 0) (cs' := [_, _]) rfl (wants_plain rfl) rfl rfl ot rfl rfl ot rfl rfl Try.sizeOf26 rfl rfl rfl (by intro b hb; simp [bks, St.put] at hb ⊢; try first | exact hb | simp [hb] | (rcases hb with hb | hb <;> simp [hb]) | (rcases hb with hb | hb | hb <;> simp [hb])) ?_
        refine a1_ 24 rfl mv_ ?_
        refine AD.wk (y := ⟨170, [(3, _), (8, _), (9, _), (10, _), (11, _), (12, _), (13, _), (14, _)], [⟨b13, 26, 2, [_, _]⟩, ⟨b11, 26, 2, [_, _]⟩, ⟨b9, 26, 2, [_, _]⟩, ⟨b8, 26, 2, [_, _]⟩]⟩) (Wk.as_ rfl rfl ⟨lk, lk, lk, lk, lk, lk, lk, lk, trivial⟩) rfl ?_
        refine AD.done (by kernel_rfl) ?_
        exact ⟨rfl, _, trivial, Wk.refl _⟩
       ·skip
        refine AStep.alloc (ds := [_, _]) rfl (wants_plain rfl) rfl rfl Try.zeroValue26 rfl (fun b13 => ?_)
        refine AD.one (i := 18) (by kernel_rfl) ?_
        refine AStep.callP rfl (wants_plain rfl) rfl rfl rfl Try.call14 (hib) ⟨ot, ot, ot, trivial⟩ ?_
        refine a1_ 19 rfl mv_ ?_
        refine a1_ 20 rfl ex_ ?_
        refine a1_ 21 rfl ex_ ?_
        refine AD.one (i := 23) (by kernel_rfl) ?_
        refine AStep.store (k := 0) (cs' := [_, _]) rfl (wants_plain rfl) rfl rfl ot rfl rfl ot rfl rfl Try.sizeOf26 rfl rfl rfl (by intro b hb; simp [bks, St.put] at hb ⊢; try first | exact hb | simp [hb] | (rcases hb with hb | hb <;> simp [hb]) | (rcases hb with hb | hb | hb <;> simp [hb])) ?_
        refine a1_ 24 rfl mv_ ?_
        refine AD.wk (y := ⟨170, [(3, _), (8, _), (9, _), (10, _), (11, _), (12, _), (13, _), (14, _)], [⟨b13, 26, 2, [_, _]⟩, ⟨b11, 26, 2, [_, _]⟩, ⟨b9, 26, 2, [_, _]⟩, ⟨b8, 26, 2, [_, _]⟩]⟩) (Wk.as_ rfl rfl ⟨lk, lk, lk, lk, lk, lk, lk, lk, trivial⟩) rfl ?_
        refine AD.done (by kernel_rfl) ?_
        exact ⟨rfl, _, trivial, Wk.refl _⟩
      ·skip
       refine AStep.alloc (ds := [_, _]) rfl (wants_plain rfl) rfl rfl Try.zeroValue26 rfl (fun b13 => ?_)
       refine AD.one (i := 9) (by kernel_rfl) ?_
       refine AStep.callP rfl (wants_plain rfl) rfl rfl rfl Try.call15 (key_vpN (F[F.length - 1 - i]'(by omega)) (by omega) (by omega)) ⟨ot, trivial⟩ ?_
       refine AD.one (i := 18) (by kernel_rfl) ?_
       refine AStep.callP rfl (wants_plain rfl) rfl rfl rfl Try.call14 (hib) ⟨ot, ot, ot, trivial⟩ ?_
       refine a1_ 19 rfl mv_ ?_
       refine a1_ 20 rfl ex_ ?_
       refine a1_ 21 rfl ex_ ?_
       refine AD.one (i := 23) (by kernel_rfl) ?_
       refine AStep.store (k := 0) (cs' := [_, _]) rfl (wants_plain rfl) rfl rfl ot rfl rfl ot rfl rfl Try.sizeOf26 rfl rfl rfl (by intro b hb; simp [bks, St.put] at hb ⊢; try first | exact hb | simp [hb] | (rcases hb with hb | hb <;> simp [hb]) | (rcases hb with hb | hb | hb <;> simp [hb])) ?_
       refine a1_ 24 rfl mv_ ?_
       refine AD.wk (y := ⟨170, [(3, _), (8, _), (9, _), (10, _), (11, _), (12, _), (13, _), (14, _)], [⟨b13, 26, 2, [_, _]⟩, ⟨b11, 26, 2, [_, _]⟩, ⟨b9, 26, 2, [_, _]⟩, ⟨b8, 26, 2, [_, _]⟩]⟩) (Wk.as_ rfl rfl ⟨lk, lk, lk, lk, lk, lk, lk, lk, trivial⟩) rfl ?_
       refine AD.done (by kernel_rfl) ?_
       exact ⟨rfl, _, trivial, Wk.refl _⟩
     ·skip
      rintro _ _ ⟨rfl, b13, _, hwk__⟩
      refine CD.wk hwk__ ?_
      refine CD.seq ?_
      refine sr_ ?_
      refine os_ mv_ ?_
      refine os_ bn_ ?_
      refine os_ mv_ ?_
      refine OD.split (t := 102) lk (fun hg102 => ?_) (fun hg102 => ?_)
      ·exact absurd hg102 (by simp at hg102)
      ·have hg102' := hg102; (try simp only [V.cnd, ne_eq] at hg102')
       refine os_ mv_ ?_
       refine os_ bn_ ?_
       refine os_ pkF_ ?_
       refine nm_ [3, 8, 9, 10, 11, 13, 105] ?_
       refine CD.cond ot (fun hc4 => ?_) (fun hc4 => ?_)
       ·exact absurd hc4 (by simp at hc4)
       ·have hc4' := hc4
        (try simp only [V.cnd, ne_eq] at hc4')
        refine CD.skip ?_
        refine sr_ ?_
        refine os_ (lab_ 1 [_, _]) ?_
        refine OD.store (k := 3) (cs' := [_, _]) (wants_plain rfl) rfl rfl ot rfl rfl ot rfl rfl Try.sizeOf26 rfl rfl rfl ?_
        refine OD.wk (Wk.as_ (n := 170) (l' := [(3, _), (8, _), (9, _), (10, _), (13, _)]) (S' := [⟨b13, 26, 2, [_, _]⟩, ⟨b11, 26, 2, [_, _]⟩, ⟨b9, 26, 2, [_, _]⟩, ⟨b8, 26, 2, [_, _]⟩]) rfl rfl ⟨lk, lk, lk, lk, lk, trivial⟩) ?_
        refine OD.nil ?_
        refine CD.region ?_
        refine os_ (lab_ 0 [_, _]) ?_
        refine OD.store (k := 2) (cs' := [_, _]) (wants_plain rfl) rfl rfl ot rfl rfl ot rfl rfl Try.sizeOf26 rfl rfl rfl ?_
        refine OD.wk (Wk.as_ (n := 170) (l' := [(3, _), (8, _), (9, _), (10, _)]) (S' := [⟨b13, 26, 2, [_, _]⟩, ⟨b11, 26, 2, [_, _]⟩, ⟨b9, 26, 2, [_, _]⟩, ⟨b8, 26, 2, [_, _]⟩]) rfl rfl ⟨lk, lk, lk, lk, trivial⟩) ?_
        refine OD.nil ?_
        refine CD.region ?_
        refine os_ mv_ ?_
        refine os_ bn_ ?_
        refine os_ mv_ ?_
        refine nm_ [3, 8, 9, 10] ?_
        refine ⟨((i + 1), (insT A (hOf A) (keyN F[i]) F[i]), (insT B (hOf B) (keyN (F[F.length - 1 - i]'(by omega))) (F[F.length - 1 - i]'(by omega)))), ⟨170, [(3, .list 1 (F.flatMap cI) F.length), (8, .v (.pointer (some ⟨b8, 0, none⟩))), (9, .v (.pointer (some ⟨b9, 0, none⟩))), (10, .v (.int .i64 (((i + 1)) : Nat)))], [⟨b9, 26, 2, [.list 5 ((((insT B (hOf B) (keyN (F[F.length - 1 - i]'(by omega))) (F[F.length - 1 - i]'(by omega))))).pages.flatMap cP) (((insT B (hOf B) (keyN (F[F.length - 1 - i]'(by omega))) (F[F.length - 1 - i]'(by omega))))).pages.length, .v (.int .i64 (((insT B (hOf B) (keyN (F[F.length - 1 - i]'(by omega))) (F[F.length - 1 - i]'(by omega))))).root)]⟩, ⟨b8, 26, 2, [.list 5 ((((insT A (hOf A) (keyN F[i]) F[i]))).pages.flatMap cP) (((insT A (hOf A) (keyN F[i]) F[i]))).pages.length, .v (.int .i64 (((insT A (hOf A) (keyN F[i]) F[i]))).root)]⟩]⟩, ?_, Wk.asS (n := 170) rfl (by repeat (first | exact List.Sublist.refl _ | apply List.Sublist.cons)) ⟨lq_, lq_, lq_, lq_, trivial⟩, (by omega), (by rw [List.take_succ_eq_append_getElem hlt]; exact hA2), (by rw [rev_take hlt]; exact hB2), rfl⟩
        first | omega | (simp only []; omega)
   ·have hc3' := hc3
    (try simp only [V.cnd, ne_eq] at hc3')
    have hie : i = F.length := by simp at hc3; omega
    subst hie
    rw [List.take_length] at hA
    rw [List.take_of_length_le (by rw [List.length_reverse]; exact Nat.le_refl _)] at hB
    have hsa := scan_n2 (G := G) hA.good
    have hsb := scan_n2 (G := G) hB.good
    rw [span_all] at hsa hsb
    rw [← built_eq hA hB (fun x => List.mem_reverse.symm)] at hsb
    have hel := built_len hA hnd
    generalize entsOf A = es at hsa hsb hel
    unfold cT at hsa hsb
    refine CD.exit ?_
    refine sr_ ?_
    refine os_ (lab_ 1 [_, _]) ?_
    refine OD.callP (wants_plain rfl) rfl rfl rfl Try.call16 (hsa) ⟨ot, opd_const, opd_const, trivial⟩ ?_
    refine os_ mv_ ?_
    refine os_ ex_ ?_
    refine os_ ex_ ?_
    refine os_ mv_ ?_
    refine os_ mv_ ?_
    refine OD.wk (Wk.as_ (n := 170) (l' := [(3, _), (9, _), (15, _), (16, _)]) (S' := [⟨b9, 26, 2, [_, _]⟩, ⟨b8, 26, 2, [_, _]⟩]) rfl rfl ⟨lk, lk, lk, lk, trivial⟩) ?_
    refine OD.nil ?_
    refine sr_ ?_
    refine os_ (lab_ 0 [_, _]) ?_
    refine OD.callP (wants_plain rfl) rfl rfl rfl Try.call16 (hsb) ⟨ot, opd_const, opd_const, trivial⟩ ?_
    refine os_ mv_ ?_
    refine os_ ex_ ?_
    refine os_ ex_ ?_
    refine os_ mv_ ?_
    refine os_ mv_ ?_
    refine OD.wk (Wk.as_ (n := 170) (l' := [(3, _), (15, _), (16, _), (17, _), (18, _)]) (S' := [⟨b9, 26, 2, [_, _]⟩, ⟨b8, 26, 2, [_, _]⟩]) rfl rfl ⟨lk, lk, lk, lk, lk, trivial⟩) ?_
    refine OD.nil ?_
    refine CD.seq ?_
    refine sr_ ?_
    refine os_ mv_ ?_
    refine os_ bn_ ?_
    refine os_ mv_ ?_
    refine OD.split (t := 120) lk (fun hg120 => ?_) (fun hg120 => ?_)
    ·exact absurd hg120 (by simp at hg120)
    ·have hg120' := hg120; (try simp only [V.cnd, ne_eq] at hg120')
     refine os_ mv_ ?_
     refine os_ bn_ ?_
     refine os_ pkF_ ?_
     refine os_ mv_ ?_
     refine OD.split (t := 124) lk (fun hg124 => ?_) (fun hg124 => ?_)
     ·exact absurd hg124 (by simp at hg124)
     ·have hg124' := hg124; (try simp only [V.cnd, ne_eq] at hg124')
      refine os_ mv_ ?_
      refine os_ ln_ ?_
      refine os_ mv_ ?_
      refine os_ ln_ ?_
      refine os_ bn_ ?_
      refine os_ pkF_ ?_
      refine os_ mv_ ?_
      refine OD.split (t := 131) lk (fun hg131 => ?_) (fun hg131 => ?_)
      ·exact absurd hg131 (by simp [hel] at hg131)
      ·have hg131' := hg131; (try simp only [V.cnd, ne_eq] at hg131')
       refine os_ mv_ ?_
       refine os_ ln_ ?_
       refine os_ mv_ ?_
       refine os_ ln_ ?_
       refine os_ bn_ ?_
       refine os_ pkF_ ?_
       refine nm_ [15, 17, 137] ?_
       refine CD.cond ot (fun hc5 => ?_) (fun hc5 => ?_)
       ·exact absurd hc5 (by simp [hel] at hc5)
       ·have hc5' := hc5
        (try simp only [V.cnd, ne_eq] at hc5')
        refine CD.skip ?_
        refine CD.seq ?_
        refine sr_ ?_
        refine os_ mv_ ?_
        refine nm_ [15, 17, 19] ?_
        refine CD.block ?_
        refine CD.wk (Wk.asS (n := 170) (l' := [(15, .list 2 (es.flatMap cE) es.length), (17, .list 2 (es.flatMap cE) es.length), (19, .v (.int .i64 ((0) : Nat)))]) (S' := []) rfl (by repeat (first | exact List.Sublist.refl _ | apply List.Sublist.cons)) ⟨lq_, lq_, lq_, trivial⟩) (CD.loop (fun (x : Nat) y__ => (x ≤ es.length) ∧ y__ = (⟨170, [(15, .list 2 (es.flatMap cE) es.length), (17, .list 2 (es.flatMap cE) es.length), (19, .v (.int .i64 (x : Nat)))], []⟩ : St)) (fun (x : Nat) => es.length - x) 0 ⟨(Nat.zero_le _), rfl⟩ ?_)
        rintro x _ ⟨hx, rfl⟩
        refine CD.seq ?_
        refine sr_ ?_
        refine os_ mv_ ?_
        refine os_ mv_ ?_
        refine os_ ln_ ?_
        refine os_ bn_ ?_
        refine nm_ [15, 17, 19, 141] ?_
        refine CD.cond ot (fun hc6 => ?_) (fun hc6 => ?_)
        ·have hc6' := hc6
         (try simp only [V.cnd, ne_eq] at hc6')
         have hlt : x < es.length := by simp at hc6; omega
         refine CD.skip ?_
         refine CD.seq ?_
         refine CD.block ?_
         refine CD.seq ?_
         refine CD.draw (bks _) (by kernel_rfl) (fun _ h => h) ?_
         refine a0_ 0 rfl mv_ ?_
         refine a0_ 1 rfl mv_ ?_
         refine a0_ 2 rfl (ix_ 2 (h := by first | exact .l (j := x) rfl hlt | exact .r (j := x) rfl hlt)) ?_
         refine a0_ 3 rfl (fa_ 0) ?_
         refine a0_ 4 rfl ld_ ?_
         refine a0_ 5 rfl sb_ ?_
         refine a0_ 6 rfl mv_ ?_
         refine a0_ 7 rfl mv_ ?_
         refine a0_ 8 rfl (ix_ 2 (h := by first | exact .l (j := x) rfl hlt | exact .r (j := x) rfl hlt)) ?_
         refine a0_ 9 rfl (fa_ 0) ?_
         refine a0_ 10 rfl ld_ ?_
         refine a0_ 11 rfl sb_ ?_
         refine a0_ 12 rfl bn_ ?_
         refine a0_ 13 rfl mv_ ?_
         refine AD0.split (t := 157) lk (fun hg157 => ?_) (fun hg157 => ?_)
         ·exact absurd hg157 (by simp at hg157)
         ·have hg157' := hg157; (try simp only [V.cnd, ne_eq] at hg157')
          refine a0_ 14 rfl mv_ ?_
          refine a0_ 15 rfl mv_ ?_
          refine a0_ 16 rfl (ix_ 2 (h := by first | exact .l (j := x) rfl hlt | exact .r (j := x) rfl hlt)) ?_
          refine a0_ 17 rfl (fa_ 1) ?_
          refine a0_ 18 rfl ld_ ?_
          refine a0_ 19 rfl mv_ ?_
          refine a0_ 20 rfl mv_ ?_
          refine a0_ 21 rfl (ix_ 2 (h := by first | exact .l (j := x) rfl hlt | exact .r (j := x) rfl hlt)) ?_
          refine a0_ 22 rfl (fa_ 1) ?_
          refine a0_ 23 rfl ld_ ?_
          refine a0_ 24 rfl bn_ ?_
          refine a0_ 25 rfl pkF_ ?_
          refine AD0.later rfl ?_
          refine AD.wk (y := ⟨170, [(15, _), (17, _), (19, _), (169, _)], []⟩) (Wk.as_ rfl rfl ⟨lk, lk, lk, lk, trivial⟩) rfl ?_
          refine AD.done (by kernel_rfl) ?_
          refine CD.cond ot (fun hc7 => ?_) (fun hc7 => ?_)
          ·exact absurd hc7 (by simp at hc7)
          ·have hc7' := hc7
           (try simp only [V.cnd, ne_eq] at hc7')
           refine CD.skip ?_
           refine CD.region ?_
           refine os_ mv_ ?_
           refine os_ bn_ ?_
           refine os_ mv_ ?_
           refine nm_ [15, 17, 19] ?_
           refine ⟨(x + 1), ⟨170, [(15, .list 2 (es.flatMap cE) es.length), (17, .list 2 (es.flatMap cE) es.length), (19, .v (.int .i64 (((x + 1)) : Nat)))], []⟩, ?_, Wk.asS (n := 170) rfl (by repeat (first | exact List.Sublist.refl _ | apply List.Sublist.cons)) ⟨lq_, lq_, lq_, trivial⟩, (by omega), rfl⟩
           first | omega | (simp only []; omega)
        ·have hc6' := hc6
         (try simp only [V.cnd, ne_eq] at hc6')
         refine CD.exit ?_
         refine sr_ ?_
         refine os_ mv_ ?_
         refine nm_ [2] ?_
         refine CD.ret ?_
         refine r1_ ?_
         exact ⟨rfl, rfl⟩
 ·have hg24' := hg24; (try simp only [V.cnd, ne_eq] at hg24')
  refine sk_ ?_
  refine sk_ ?_
  refine os_ pkF_ ?_
  refine nm_ [0, 3, 4, 27] ?_
  refine CD.condF ot (by first | rfl | assumption) ?_
  refine CD.exit ?_
  refine CD.seq ?_
  refine CD.giveL (t := 3) (Sq := Sf) lk hof (fm_len cI_len _) (perm_r11 (A := [])) ?_
  refine CD.region ?_
  refine OD.callP (wants_plain rfl) rfl rfl rfl Try.call13 (hnv) trivial ?_
  refine OD.alloc (ds := [_, _]) (wants_plain rfl) rfl rfl Try.zeroValue26 rfl (fun b8 => ?_)
  refine OD.store (k := 0) (cs' := [_, _]) (wants_plain rfl) rfl rfl ot rfl rfl ot rfl rfl Try.sizeOf26 rfl rfl rfl ?_
  refine OD.wk (Wk.as_ (n := 170) (l' := [(3, _), (8, _)]) (S' := [⟨b8, 26, 2, [_, _]⟩]) rfl rfl ⟨lk, lk, trivial⟩) ?_
  refine OD.nil ?_
  refine sr_ ?_
  refine OD.callP (wants_plain rfl) rfl rfl rfl Try.call13 (hnv) trivial ?_
  refine OD.alloc (ds := [_, _]) (wants_plain rfl) rfl rfl Try.zeroValue26 rfl (fun b9 => ?_)
  refine OD.store (k := 0) (cs' := [_, _]) (wants_plain rfl) rfl rfl ot rfl rfl ot rfl rfl Try.sizeOf26 rfl rfl rfl ?_
  refine OD.wk (Wk.as_ (n := 170) (l' := [(3, _), (8, _), (9, _)]) (S' := [⟨b9, 26, 2, [_, _]⟩, ⟨b8, 26, 2, [_, _]⟩]) rfl rfl ⟨lk, lk, lk, trivial⟩) ?_
  refine OD.nil ?_
  refine CD.seq ?_
  refine sr_ ?_
  refine os_ mv_ ?_
  refine nm_ [3, 8, 9, 10] ?_
  refine CD.block ?_
  refine CD.wk (Wk.asS (n := 170) (l' := [(3, .list 1 (F.flatMap cI) F.length), (8, .v (.pointer (some ⟨b8, 0, none⟩))), (9, .v (.pointer (some ⟨b9, 0, none⟩))), (10, .v (.int .i64 ((0) : Nat)))]) (S' := [⟨b9, 26, 2, [.list 5 ((newT).pages.flatMap cP) (newT).pages.length, .v (.int .i64 (newT).root)]⟩, ⟨b8, 26, 2, [.list 5 ((newT).pages.flatMap cP) (newT).pages.length, .v (.int .i64 (newT).root)]⟩]) rfl (by repeat (first | exact List.Sublist.refl _ | apply List.Sublist.cons)) ⟨lq_, lq_, lq_, lq_, trivial⟩) (CD.loop (fun (gh__ : Nat × TreeL × TreeL) y__ => match gh__ with | (i, A, B) => (i ≤ F.length) ∧ (BuiltT A i (F.take i)) ∧ (BuiltT B i (F.reverse.take i)) ∧ y__ = (⟨170, [(3, .list 1 (F.flatMap cI) F.length), (8, .v (.pointer (some ⟨b8, 0, none⟩))), (9, .v (.pointer (some ⟨b9, 0, none⟩))), (10, .v (.int .i64 (i : Nat)))], [⟨b9, 26, 2, [.list 5 ((B).pages.flatMap cP) (B).pages.length, .v (.int .i64 (B).root)]⟩, ⟨b8, 26, 2, [.list 5 ((A).pages.flatMap cP) (A).pages.length, .v (.int .i64 (A).root)]⟩]⟩ : St)) (fun (gh__ : Nat × TreeL × TreeL) => match gh__ with | (i, A, B) => F.length - i) (0, newT, newT) ⟨(Nat.zero_le _), built_new, built_new, rfl⟩ ?_)
  rintro ⟨i, A, B⟩ _ ⟨hi, hA, hB, rfl⟩
  refine CD.seq ?_
  refine sr_ ?_
  refine os_ mv_ ?_
  refine os_ mv_ ?_
  refine os_ ln_ ?_
  refine os_ bn_ ?_
  refine nm_ [3, 8, 9, 10, 61] ?_
  refine CD.cond ot (fun hc3 => ?_) (fun hc3 => ?_)
  ·have hc3' := hc3
   (try simp only [V.cnd, ne_eq] at hc3')
   have hlt : i < F.length := by simp at hc3; omega
   have hi300 : i ≤ 300 := by omega
   have hm1 := hF _ (List.getElem_mem hlt)
   have hm2 : 0 ≤ (F[F.length - 1 - i]'(by omega)) ∧ (F[F.length - 1 - i]'(by omega)) < 90 := hF _ (List.getElem_mem _)
   obtain ⟨htA, hA2⟩ := built_step hA hi300 (fun m hm => hF m (List.mem_of_mem_take hm)) hm1 (take_not hnd hlt)
   obtain ⟨htB, hB2⟩ := built_step hB hi300 (fun m hm => hF m (List.mem_reverse.1 (List.mem_of_mem_take hm))) hm2 (rev_not hnd hlt)
   have hia := insert_g (G := G) hA.good (keyN F[i]) F[i]
   rw [ins_no hA.good hi300 (keyN_ok _) hm1.1 htA] at hia
   have hib := insert_g (G := G) hB.good (keyN (F[F.length - 1 - i]'(by omega))) (F[F.length - 1 - i]'(by omega))
   rw [ins_no hB.good hi300 (keyN_ok _) hm2.1 htB] at hib
   dsimp only at hia hib
   unfold cT at hia hib
   refine CD.skip ?_
   refine CD.seq ?_
   refine CD.block ?_
   refine CD.seq ?_
   refine CD.mono (Q := fun e__ y__ => e__ = Exit.normal ∧ ∃ (b11 : Nat), (True) ∧ Wk y__ (⟨170, [(3, .list 1 (F.flatMap cI) F.length), (8, .v (.pointer (some ⟨b8, 0, none⟩))), (9, .v (.pointer (some ⟨b9, 0, none⟩))), (10, .v (.int .i64 (i : Nat))), (11, .v (.pointer (some ⟨b11, 0, none⟩))), (12, .v (.int .i64 0))], [⟨b11, 26, 2, [.list 5 (((insT A (hOf A) (keyN F[i]) F[i])).pages.flatMap cP) ((insT A (hOf A) (keyN F[i]) F[i])).pages.length, .v (.int .i64 ((insT A (hOf A) (keyN F[i]) F[i])).root)]⟩, ⟨b9, 26, 2, [.list 5 ((B).pages.flatMap cP) (B).pages.length, .v (.int .i64 (B).root)]⟩, ⟨b8, 26, 2, [.list 5 ((A).pages.flatMap cP) (A).pages.length, .v (.int .i64 (A).root)]⟩]⟩ : St)) ?_ ?_
   ·skip
    refine CD.draw (bks _) (by kernel_rfl) (fun _ h => h) ?_
    refine a0_ 0 rfl (lab_ 1 [_, _]) ?_
    refine a0_ 1 rfl mv_ ?_
    refine a0_ 2 rfl mv_ ?_
    refine a0_ 3 rfl (ix_ 1 (h := by first | exact .l (j := i) rfl hlt | exact .r (j := i) rfl hlt)) ?_
    refine a0_ 4 rfl ld_ ?_
    refine a0_ 6 rfl mv_ ?_
    refine a0_ 7 rfl mv_ ?_
    refine a0_ 8 rfl (ix_ 1 (h := by first | exact .l (j := i) rfl hlt | exact .r (j := i) rfl hlt)) ?_
    refine a0_ 9 rfl ld_ ?_
    refine AD0.later rfl ?_
    refine AD.two (i := 5) (j := 14) (by kernel_rfl) ?_ ?_
    ·skip
     refine AStep.callP rfl (wants_plain rfl) rfl rfl rfl Try.call15 (key_vpN F[i] (by omega) (by omega)) ⟨ot, trivial⟩ ?_
     refine AD.two (i := 10) (j := 14) (by kernel_rfl) ?_ ?_
     ·skip
      refine AStep.callP rfl (wants_plain rfl) rfl rfl rfl Try.call14 (hia) ⟨ot, ot, ot, trivial⟩ ?_
      refine a1_ 11 rfl mv_ ?_
      refine a1_ 12 rfl ex_ ?_
      refine a1_ 13 rfl ex_ ?_
      refine AD.one (i := 14) (by kernel_rfl) ?_
      refine AStep.alloc (ds := [_, _]) rfl (wants_plain rfl) rfl rfl Try.zeroValue26 rfl (fun b11 => ?_)
      refine AD.one (i := 15) (by kernel_rfl) ?_
      refine AStep.store (k := 0) (cs' := [_, _]) rfl (wants_plain rfl) rfl rfl ot rfl rfl ot rfl rfl Try.sizeOf26 rfl rfl rfl (by intro b hb; simp [bks, St.put] at hb ⊢; try first | exact hb | simp [hb] | (rcases hb with hb | hb <;> simp [hb]) | (rcases hb with hb | hb | hb <;> simp [hb])) ?_
      refine a1_ 16 rfl mv_ ?_
      refine AD.wk (y := ⟨170, [(3, _), (8, _), (9, _), (10, _), (11, _), (12, _)], [⟨b11, 26, 2, [_, _]⟩, ⟨b9, 26, 2, [_, _]⟩, ⟨b8, 26, 2, [_, _]⟩]⟩) (Wk.as_ rfl rfl ⟨lk, lk, lk, lk, lk, lk, trivial⟩) rfl ?_
      refine AD.done (by kernel_rfl) ?_
      exact ⟨rfl, _, trivial, Wk.refl _⟩
     ·skip
      refine AStep.alloc (ds := [_, _]) rfl (wants_plain rfl) rfl rfl Try.zeroValue26 rfl (fun b11 => ?_)
      refine AD.one (i := 10) (by kernel_rfl) ?_
      refine AStep.callP rfl (wants_plain rfl) rfl rfl rfl Try.call14 (hia) ⟨ot, ot, ot, trivial⟩ ?_
      refine a1_ 11 rfl mv_ ?_
      refine a1_ 12 rfl ex_ ?_
      refine a1_ 13 rfl ex_ ?_
      refine AD.one (i := 15) (by kernel_rfl) ?_
      refine AStep.store (k := 0) (cs' := [_, _]) rfl (wants_plain rfl) rfl rfl ot rfl rfl ot rfl rfl Try.sizeOf26 rfl rfl rfl (by intro b hb; simp [bks, St.put] at hb ⊢; try first | exact hb | simp [hb] | (rcases hb with hb | hb <;> simp [hb]) | (rcases hb with hb | hb | hb <;> simp [hb])) ?_
      refine a1_ 16 rfl mv_ ?_
      refine AD.wk (y := ⟨170, [(3, _), (8, _), (9, _), (10, _), (11, _), (12, _)], [⟨b11, 26, 2, [_, _]⟩, ⟨b9, 26, 2, [_, _]⟩, ⟨b8, 26, 2, [_, _]⟩]⟩) (Wk.as_ rfl rfl ⟨lk, lk, lk, lk, lk, lk, trivial⟩) rfl ?_
      refine AD.done (by kernel_rfl) ?_
      exact ⟨rfl, _, trivial, Wk.refl _⟩
    ·skip
     refine AStep.alloc (ds := [_, _]) rfl (wants_plain rfl) rfl rfl Try.zeroValue26 rfl (fun b11 => ?_)
     refine AD.one (i := 5) (by kernel_rfl) ?_
     refine AStep.callP rfl (wants_plain rfl) rfl rfl rfl Try.call15 (key_vpN F[i] (by omega) (by omega)) ⟨ot, trivial⟩ ?_
     refine AD.one (i := 10) (by kernel_rfl) ?_
     refine AStep.callP rfl (wants_plain rfl) rfl rfl rfl Try.call14 (hia) ⟨ot, ot, ot, trivial⟩ ?_
     refine a1_ 11 rfl mv_ ?_
     refine a1_ 12 rfl ex_ ?_
     refine a1_ 13 rfl ex_ ?_
     refine AD.one (i := 15) (by kernel_rfl) ?_
     refine AStep.store (k := 0) (cs' := [_, _]) rfl (wants_plain rfl) rfl rfl ot rfl rfl ot rfl rfl Try.sizeOf26 rfl rfl rfl (by intro b hb; simp [bks, St.put] at hb ⊢; try first | exact hb | simp [hb] | (rcases hb with hb | hb <;> simp [hb]) | (rcases hb with hb | hb | hb <;> simp [hb])) ?_
     refine a1_ 16 rfl mv_ ?_
     refine AD.wk (y := ⟨170, [(3, _), (8, _), (9, _), (10, _), (11, _), (12, _)], [⟨b11, 26, 2, [_, _]⟩, ⟨b9, 26, 2, [_, _]⟩, ⟨b8, 26, 2, [_, _]⟩]⟩) (Wk.as_ rfl rfl ⟨lk, lk, lk, lk, lk, lk, trivial⟩) rfl ?_
     refine AD.done (by kernel_rfl) ?_
     exact ⟨rfl, _, trivial, Wk.refl _⟩
   ·skip
    rintro _ _ ⟨rfl, b11, _, hwk__⟩
    refine CD.wk hwk__ ?_
    refine CD.seq ?_
    refine CD.mono (Q := fun e__ y__ => e__ = Exit.normal ∧ ∃ (b13 : Nat), (True) ∧ Wk y__ (⟨170, [(3, .list 1 (F.flatMap cI) F.length), (8, .v (.pointer (some ⟨b8, 0, none⟩))), (9, .v (.pointer (some ⟨b9, 0, none⟩))), (10, .v (.int .i64 (i : Nat))), (11, .v (.pointer (some ⟨b11, 0, none⟩))), (12, .v (.int .i64 0)), (13, .v (.pointer (some ⟨b13, 0, none⟩))), (14, .v (.int .i64 0))], [⟨b13, 26, 2, [.list 5 (((insT B (hOf B) (keyN (F[F.length - 1 - i]'(by omega))) (F[F.length - 1 - i]'(by omega)))).pages.flatMap cP) ((insT B (hOf B) (keyN (F[F.length - 1 - i]'(by omega))) (F[F.length - 1 - i]'(by omega)))).pages.length, .v (.int .i64 ((insT B (hOf B) (keyN (F[F.length - 1 - i]'(by omega))) (F[F.length - 1 - i]'(by omega)))).root)]⟩, ⟨b11, 26, 2, [.list 5 (((insT A (hOf A) (keyN F[i]) F[i])).pages.flatMap cP) ((insT A (hOf A) (keyN F[i]) F[i])).pages.length, .v (.int .i64 ((insT A (hOf A) (keyN F[i]) F[i])).root)]⟩, ⟨b9, 26, 2, [.list 5 ((B).pages.flatMap cP) (B).pages.length, .v (.int .i64 (B).root)]⟩, ⟨b8, 26, 2, [.list 5 ((A).pages.flatMap cP) (A).pages.length, .v (.int .i64 (A).root)]⟩]⟩ : St)) ?_ ?_
    ·skip
     refine CD.draw (bks _) (by kernel_rfl) (fun _ h => h) ?_
     refine a0_ 0 rfl (lab_ 1 [_, _]) ?_
     refine a0_ 1 rfl mv_ ?_
     refine a0_ 2 rfl mv_ ?_
     refine a0_ 3 rfl ln_ ?_
     refine a0_ 4 rfl bn_ ?_
     refine a0_ 5 rfl mv_ ?_
     refine a0_ 6 rfl bn_ ?_
     refine a0_ 7 rfl (ix_ 1 (h := by first | exact .l (j := F.length - 1 - i) (by omega) (by omega) | exact .r (j := F.length - 1 - i) (by omega) (by omega))) ?_
     refine a0_ 8 rfl ld_ ?_
     refine a0_ 10 rfl mv_ ?_
     refine a0_ 11 rfl mv_ ?_
     refine a0_ 12 rfl ln_ ?_
     refine a0_ 13 rfl bn_ ?_
     refine a0_ 14 rfl mv_ ?_
     refine a0_ 15 rfl bn_ ?_
     refine a0_ 16 rfl (ix_ 1 (h := by first | exact .l (j := F.length - 1 - i) (by omega) (by omega) | exact .r (j := F.length - 1 - i) (by omega) (by omega))) ?_
     refine a0_ 17 rfl ld_ ?_
     refine AD0.later rfl ?_
     refine AD.two (i := 9) (j := 22) (by kernel_rfl) ?_ ?_
     ·skip
      refine AStep.callP rfl (wants_plain rfl) rfl rfl rfl Try.call15 (key_vpN (F[F.length - 1 - i]'(by omega)) (by omega) (by omega)) ⟨ot, trivial⟩ ?_
      refine AD.two (i := 18) (j := 22) (by kernel_rfl) ?_ ?_
      ·skip
       refine AStep.callP rfl (wants_plain rfl) rfl rfl rfl Try.call14 (hib) ⟨ot, ot, ot, trivial⟩ ?_
       refine a1_ 19 rfl mv_ ?_
       refine a1_ 20 rfl ex_ ?_
       refine a1_ 21 rfl ex_ ?_
       refine AD.one (i := 22) (by kernel_rfl) ?_
       refine AStep.alloc (ds := [_, _]) rfl (wants_plain rfl) rfl rfl Try.zeroValue26 rfl (fun b13 => ?_)
       refine AD.one (i := 23) (by kernel_rfl) ?_
       refine AStep.store (k := 0) (cs' := [_, _]) rfl (wants_plain rfl) rfl rfl ot rfl rfl ot rfl rfl Try.sizeOf26 rfl rfl rfl (by intro b hb; simp [bks, St.put] at hb ⊢; try first | exact hb | simp [hb] | (rcases hb with hb | hb <;> simp [hb]) | (rcases hb with hb | hb | hb <;> simp [hb])) ?_
       refine a1_ 24 rfl mv_ ?_
       refine AD.wk (y := ⟨170, [(3, _), (8, _), (9, _), (10, _), (11, _), (12, _), (13, _), (14, _)], [⟨b13, 26, 2, [_, _]⟩, ⟨b11, 26, 2, [_, _]⟩, ⟨b9, 26, 2, [_, _]⟩, ⟨b8, 26, 2, [_, _]⟩]⟩) (Wk.as_ rfl rfl ⟨lk, lk, lk, lk, lk, lk, lk, lk, trivial⟩) rfl ?_
       refine AD.done (by kernel_rfl) ?_
       exact ⟨rfl, _, trivial, Wk.refl _⟩
      ·skip
       refine AStep.alloc (ds := [_, _]) rfl (wants_plain rfl) rfl rfl Try.zeroValue26 rfl (fun b13 => ?_)
       refine AD.one (i := 18) (by kernel_rfl) ?_
       refine AStep.callP rfl (wants_plain rfl) rfl rfl rfl Try.call14 (hib) ⟨ot, ot, ot, trivial⟩ ?_
       refine a1_ 19 rfl mv_ ?_
       refine a1_ 20 rfl ex_ ?_
       refine a1_ 21 rfl ex_ ?_
       refine AD.one (i := 23) (by kernel_rfl) ?_
       refine AStep.store (k := 0) (cs' := [_, _]) rfl (wants_plain rfl) rfl rfl ot rfl rfl ot rfl rfl Try.sizeOf26 rfl rfl rfl (by intro b hb; simp [bks, St.put] at hb ⊢; try first | exact hb | simp [hb] | (rcases hb with hb | hb <;> simp [hb]) | (rcases hb with hb | hb | hb <;> simp [hb])) ?_
       refine a1_ 24 rfl mv_ ?_
       refine AD.wk (y := ⟨170, [(3, _), (8, _), (9, _), (10, _), (11, _), (12, _), (13, _), (14, _)], [⟨b13, 26, 2, [_, _]⟩, ⟨b11, 26, 2, [_, _]⟩, ⟨b9, 26, 2, [_, _]⟩, ⟨b8, 26, 2, [_, _]⟩]⟩) (Wk.as_ rfl rfl ⟨lk, lk, lk, lk, lk, lk, lk, lk, trivial⟩) rfl ?_
       refine AD.done (by kernel_rfl) ?_
       exact ⟨rfl, _, trivial, Wk.refl _⟩
     ·skip
      refine AStep.alloc (ds := [_, _]) rfl (wants_plain rfl) rfl rfl Try.zeroValue26 rfl (fun b13 => ?_)
      refine AD.one (i := 9) (by kernel_rfl) ?_
      refine AStep.callP rfl (wants_plain rfl) rfl rfl rfl Try.call15 (key_vpN (F[F.length - 1 - i]'(by omega)) (by omega) (by omega)) ⟨ot, trivial⟩ ?_
      refine AD.one (i := 18) (by kernel_rfl) ?_
      refine AStep.callP rfl (wants_plain rfl) rfl rfl rfl Try.call14 (hib) ⟨ot, ot, ot, trivial⟩ ?_
      refine a1_ 19 rfl mv_ ?_
      refine a1_ 20 rfl ex_ ?_
      refine a1_ 21 rfl ex_ ?_
      refine AD.one (i := 23) (by kernel_rfl) ?_
      refine AStep.store (k := 0) (cs' := [_, _]) rfl (wants_plain rfl) rfl rfl ot rfl rfl ot rfl rfl Try.sizeOf26 rfl rfl rfl (by intro b hb; simp [bks, St.put] at hb ⊢; try first | exact hb | simp [hb] | (rcases hb with hb | hb <;> simp [hb]) | (rcases hb with hb | hb | hb <;> simp [hb])) ?_
      refine a1_ 24 rfl mv_ ?_
      refine AD.wk (y := ⟨170, [(3, _), (8, _), (9, _), (10, _), (11, _), (12, _), (13, _), (14, _)], [⟨b13, 26, 2, [_, _]⟩, ⟨b11, 26, 2, [_, _]⟩, ⟨b9, 26, 2, [_, _]⟩, ⟨b8, 26, 2, [_, _]⟩]⟩) (Wk.as_ rfl rfl ⟨lk, lk, lk, lk, lk, lk, lk, lk, trivial⟩) rfl ?_
      refine AD.done (by kernel_rfl) ?_
      exact ⟨rfl, _, trivial, Wk.refl _⟩
    ·skip
     rintro _ _ ⟨rfl, b13, _, hwk__⟩
     refine CD.wk hwk__ ?_
     refine CD.seq ?_
     refine sr_ ?_
     refine os_ mv_ ?_
     refine os_ bn_ ?_
     refine os_ mv_ ?_
     refine OD.split (t := 102) lk (fun hg102 => ?_) (fun hg102 => ?_)
     ·exact absurd hg102 (by simp at hg102)
     ·have hg102' := hg102; (try simp only [V.cnd, ne_eq] at hg102')
      refine os_ mv_ ?_
      refine os_ bn_ ?_
      refine os_ pkF_ ?_
      refine nm_ [3, 8, 9, 10, 11, 13, 105] ?_
      refine CD.cond ot (fun hc4 => ?_) (fun hc4 => ?_)
      ·exact absurd hc4 (by simp at hc4)
      ·have hc4' := hc4
       (try simp only [V.cnd, ne_eq] at hc4')
       refine CD.skip ?_
       refine sr_ ?_
       refine os_ (lab_ 1 [_, _]) ?_
       refine OD.store (k := 3) (cs' := [_, _]) (wants_plain rfl) rfl rfl ot rfl rfl ot rfl rfl Try.sizeOf26 rfl rfl rfl ?_
       refine OD.wk (Wk.as_ (n := 170) (l' := [(3, _), (8, _), (9, _), (10, _), (13, _)]) (S' := [⟨b13, 26, 2, [_, _]⟩, ⟨b11, 26, 2, [_, _]⟩, ⟨b9, 26, 2, [_, _]⟩, ⟨b8, 26, 2, [_, _]⟩]) rfl rfl ⟨lk, lk, lk, lk, lk, trivial⟩) ?_
       refine OD.nil ?_
       refine CD.region ?_
       refine os_ (lab_ 0 [_, _]) ?_
       refine OD.store (k := 2) (cs' := [_, _]) (wants_plain rfl) rfl rfl ot rfl rfl ot rfl rfl Try.sizeOf26 rfl rfl rfl ?_
       refine OD.wk (Wk.as_ (n := 170) (l' := [(3, _), (8, _), (9, _), (10, _)]) (S' := [⟨b13, 26, 2, [_, _]⟩, ⟨b11, 26, 2, [_, _]⟩, ⟨b9, 26, 2, [_, _]⟩, ⟨b8, 26, 2, [_, _]⟩]) rfl rfl ⟨lk, lk, lk, lk, trivial⟩) ?_
       refine OD.nil ?_
       refine CD.region ?_
       refine os_ mv_ ?_
       refine os_ bn_ ?_
       refine os_ mv_ ?_
       refine nm_ [3, 8, 9, 10] ?_
       refine ⟨((i + 1), (insT A (hOf A) (keyN F[i]) F[i]), (insT B (hOf B) (keyN (F[F.length - 1 - i]'(by omega))) (F[F.length - 1 - i]'(by omega)))), ⟨170, [(3, .list 1 (F.flatMap cI) F.length), (8, .v (.pointer (some ⟨b8, 0, none⟩))), (9, .v (.pointer (some ⟨b9, 0, none⟩))), (10, .v (.int .i64 (((i + 1)) : Nat)))], [⟨b9, 26, 2, [.list 5 ((((insT B (hOf B) (keyN (F[F.length - 1 - i]'(by omega))) (F[F.length - 1 - i]'(by omega))))).pages.flatMap cP) (((insT B (hOf B) (keyN (F[F.length - 1 - i]'(by omega))) (F[F.length - 1 - i]'(by omega))))).pages.length, .v (.int .i64 (((insT B (hOf B) (keyN (F[F.length - 1 - i]'(by omega))) (F[F.length - 1 - i]'(by omega))))).root)]⟩, ⟨b8, 26, 2, [.list 5 ((((insT A (hOf A) (keyN F[i]) F[i]))).pages.flatMap cP) (((insT A (hOf A) (keyN F[i]) F[i]))).pages.length, .v (.int .i64 (((insT A (hOf A) (keyN F[i]) F[i]))).root)]⟩]⟩, ?_, Wk.asS (n := 170) rfl (by repeat (first | exact List.Sublist.refl _ | apply List.Sublist.cons)) ⟨lq_, lq_, lq_, lq_, trivial⟩, (by omega), (by rw [List.take_succ_eq_append_getElem hlt]; exact hA2), (by rw [rev_take hlt]; exact hB2), rfl⟩
       first | omega | (simp only []; omega)
  ·have hc3' := hc3
   (try simp only [V.cnd, ne_eq] at hc3')
   have hie : i = F.length := by simp at hc3; omega
   subst hie
   rw [List.take_length] at hA
   rw [List.take_of_length_le (by rw [List.length_reverse]; exact Nat.le_refl _)] at hB
   have hsa := scan_n2 (G := G) hA.good
   have hsb := scan_n2 (G := G) hB.good
   rw [span_all] at hsa hsb
   rw [← built_eq hA hB (fun x => List.mem_reverse.symm)] at hsb
   have hel := built_len hA hnd
   generalize entsOf A = es at hsa hsb hel
   unfold cT at hsa hsb
   refine CD.exit ?_
   refine sr_ ?_
   refine os_ (lab_ 1 [_, _]) ?_
   refine OD.callP (wants_plain rfl) rfl rfl rfl Try.call16 (hsa) ⟨ot, opd_const, opd_const, trivial⟩ ?_
   refine os_ mv_ ?_
   refine os_ ex_ ?_
   refine os_ ex_ ?_
   refine os_ mv_ ?_
   refine os_ mv_ ?_
   refine OD.wk (Wk.as_ (n := 170) (l' := [(3, _), (9, _), (15, _), (16, _)]) (S' := [⟨b9, 26, 2, [_, _]⟩, ⟨b8, 26, 2, [_, _]⟩]) rfl rfl ⟨lk, lk, lk, lk, trivial⟩) ?_
   refine OD.nil ?_
   refine sr_ ?_
   refine os_ (lab_ 0 [_, _]) ?_
   refine OD.callP (wants_plain rfl) rfl rfl rfl Try.call16 (hsb) ⟨ot, opd_const, opd_const, trivial⟩ ?_
   refine os_ mv_ ?_
   refine os_ ex_ ?_
   refine os_ ex_ ?_
   refine os_ mv_ ?_
   refine os_ mv_ ?_
   refine OD.wk (Wk.as_ (n := 170) (l' := [(3, _), (15, _), (16, _), (17, _), (18, _)]) (S' := [⟨b9, 26, 2, [_, _]⟩, ⟨b8, 26, 2, [_, _]⟩]) rfl rfl ⟨lk, lk, lk, lk, lk, trivial⟩) ?_
   refine OD.nil ?_
   refine CD.seq ?_
   refine sr_ ?_
   refine os_ mv_ ?_
   refine os_ bn_ ?_
   refine os_ mv_ ?_
   refine OD.split (t := 120) lk (fun hg120 => ?_) (fun hg120 => ?_)
   ·exact absurd hg120 (by simp at hg120)
   ·have hg120' := hg120; (try simp only [V.cnd, ne_eq] at hg120')
    refine os_ mv_ ?_
    refine os_ bn_ ?_
    refine os_ pkF_ ?_
    refine os_ mv_ ?_
    refine OD.split (t := 124) lk (fun hg124 => ?_) (fun hg124 => ?_)
    ·exact absurd hg124 (by simp at hg124)
    ·have hg124' := hg124; (try simp only [V.cnd, ne_eq] at hg124')
     refine os_ mv_ ?_
     refine os_ ln_ ?_
     refine os_ mv_ ?_
     refine os_ ln_ ?_
     refine os_ bn_ ?_
     refine os_ pkF_ ?_
     refine os_ mv_ ?_
     refine OD.split (t := 131) lk (fun hg131 => ?_) (fun hg131 => ?_)
     ·exact absurd hg131 (by simp [hel] at hg131)
     ·have hg131' := hg131; (try simp only [V.cnd, ne_eq] at hg131')
      refine os_ mv_ ?_
      refine os_ ln_ ?_
      refine os_ mv_ ?_
      refine os_ ln_ ?_
      refine os_ bn_ ?_
      refine os_ pkF_ ?_
      refine nm_ [15, 17, 137] ?_
      refine CD.cond ot (fun hc5 => ?_) (fun hc5 => ?_)
      ·exact absurd hc5 (by simp [hel] at hc5)
      ·have hc5' := hc5
       (try simp only [V.cnd, ne_eq] at hc5')
       refine CD.skip ?_
       refine CD.seq ?_
       refine sr_ ?_
       refine os_ mv_ ?_
       refine nm_ [15, 17, 19] ?_
       refine CD.block ?_
       refine CD.wk (Wk.asS (n := 170) (l' := [(15, .list 2 (es.flatMap cE) es.length), (17, .list 2 (es.flatMap cE) es.length), (19, .v (.int .i64 ((0) : Nat)))]) (S' := []) rfl (by repeat (first | exact List.Sublist.refl _ | apply List.Sublist.cons)) ⟨lq_, lq_, lq_, trivial⟩) (CD.loop (fun (x : Nat) y__ => (x ≤ es.length) ∧ y__ = (⟨170, [(15, .list 2 (es.flatMap cE) es.length), (17, .list 2 (es.flatMap cE) es.length), (19, .v (.int .i64 (x : Nat)))], []⟩ : St)) (fun (x : Nat) => es.length - x) 0 ⟨(Nat.zero_le _), rfl⟩ ?_)
       rintro x _ ⟨hx, rfl⟩
       refine CD.seq ?_
       refine sr_ ?_
       refine os_ mv_ ?_
       refine os_ mv_ ?_
       refine os_ ln_ ?_
       refine os_ bn_ ?_
       refine nm_ [15, 17, 19, 141] ?_
       refine CD.cond ot (fun hc6 => ?_) (fun hc6 => ?_)
       ·have hc6' := hc6
        (try simp only [V.cnd, ne_eq] at hc6')
        have hlt : x < es.length := by simp at hc6; omega
        refine CD.skip ?_
        refine CD.seq ?_
        refine CD.block ?_
        refine CD.seq ?_
        refine CD.draw (bks _) (by kernel_rfl) (fun _ h => h) ?_
        refine a0_ 0 rfl mv_ ?_
        refine a0_ 1 rfl mv_ ?_
        refine a0_ 2 rfl (ix_ 2 (h := by first | exact .l (j := x) rfl hlt | exact .r (j := x) rfl hlt)) ?_
        refine a0_ 3 rfl (fa_ 0) ?_
        refine a0_ 4 rfl ld_ ?_
        refine a0_ 5 rfl sb_ ?_
        refine a0_ 6 rfl mv_ ?_
        refine a0_ 7 rfl mv_ ?_
        refine a0_ 8 rfl (ix_ 2 (h := by first | exact .l (j := x) rfl hlt | exact .r (j := x) rfl hlt)) ?_
        refine a0_ 9 rfl (fa_ 0) ?_
        refine a0_ 10 rfl ld_ ?_
        refine a0_ 11 rfl sb_ ?_
        refine a0_ 12 rfl bn_ ?_
        refine a0_ 13 rfl mv_ ?_
        refine AD0.split (t := 157) lk (fun hg157 => ?_) (fun hg157 => ?_)
        ·exact absurd hg157 (by simp at hg157)
        ·have hg157' := hg157; (try simp only [V.cnd, ne_eq] at hg157')
         refine a0_ 14 rfl mv_ ?_
         refine a0_ 15 rfl mv_ ?_
         refine a0_ 16 rfl (ix_ 2 (h := by first | exact .l (j := x) rfl hlt | exact .r (j := x) rfl hlt)) ?_
         refine a0_ 17 rfl (fa_ 1) ?_
         refine a0_ 18 rfl ld_ ?_
         refine a0_ 19 rfl mv_ ?_
         refine a0_ 20 rfl mv_ ?_
         refine a0_ 21 rfl (ix_ 2 (h := by first | exact .l (j := x) rfl hlt | exact .r (j := x) rfl hlt)) ?_
         refine a0_ 22 rfl (fa_ 1) ?_
         refine a0_ 23 rfl ld_ ?_
         refine a0_ 24 rfl bn_ ?_
         refine a0_ 25 rfl pkF_ ?_
         refine AD0.later rfl ?_
         refine AD.wk (y := ⟨170, [(15, _), (17, _), (19, _), (169, _)], []⟩) (Wk.as_ rfl rfl ⟨lk, lk, lk, lk, trivial⟩) rfl ?_
         refine AD.done (by kernel_rfl) ?_
         refine CD.cond ot (fun hc7 => ?_) (fun hc7 => ?_)
         ·exact absurd hc7 (by simp at hc7)
         ·have hc7' := hc7
          (try simp only [V.cnd, ne_eq] at hc7')
          refine CD.skip ?_
          refine CD.region ?_
          refine os_ mv_ ?_
          refine os_ bn_ ?_
          refine os_ mv_ ?_
          refine nm_ [15, 17, 19] ?_
          refine ⟨(x + 1), ⟨170, [(15, .list 2 (es.flatMap cE) es.length), (17, .list 2 (es.flatMap cE) es.length), (19, .v (.int .i64 (((x + 1)) : Nat)))], []⟩, ?_, Wk.asS (n := 170) rfl (by repeat (first | exact List.Sublist.refl _ | apply List.Sublist.cons)) ⟨lq_, lq_, lq_, trivial⟩, (by omega), rfl⟩
          first | omega | (simp only []; omega)
       ·have hc6' := hc6
        (try simp only [V.cnd, ne_eq] at hc6')
        refine CD.exit ?_
        refine sr_ ?_
        refine os_ mv_ ?_
        refine nm_ [2] ?_
        refine CD.ret ?_
        refine r1_ ?_
        exact ⟨rfl, rfl⟩

theorem walkTreeTurned (l : List Int) (v : Value) (ok : l.length ≤ maxLen ∧ WfI l) (w : World) (hv : Rep w (fun _ => False) (.list 1 (l.flatMap cI) l.length) v) : Calls Try.prog 3 #[v] w fun e w' => e = .returned (.bool true) ∧ Below w.heap.size w w' :=
 (turned_law (G := []) l ok.1 ok.2).runL (fun g hg => by cases hg) (vs := [v]) (RepL.cons hv (RepL.vs w _ []))

end Go.Proofs.Ythnobhekodiciaa.Tw
