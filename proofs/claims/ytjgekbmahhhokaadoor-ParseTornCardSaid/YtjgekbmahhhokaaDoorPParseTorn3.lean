/-
  What the proof of ParseTorn leans on, part 3 of 6: walks of the program's functions at the level of values, and plain facts of what they compute.
-/
import Derived.Test.YtjgekbmahhhokaaDoorPParseTorn2
set_option linter.unusedVariables false
set_option linter.unusedSimpArgs false
set_option maxRecDepth 100000
set_option maxHeartbeats 4000000
namespace Go.Proofs.YtjgekbmahhhokaaDoor.Pa
open Go.Proofs.Tryd
open Go.RowKit V Pk Go.Proofs.YtjgekbmahhhokaaDoor.Vl Go.Proofs.YtjgekbmahhhokaaDoor.Nm
variable {G : List (Nat × List Value)}
theorem F_ {b : Bool} (h : b = false) : ¬ b = true := by rw [h]; decide

theorem places37_Pa4 : ∀ w, ((#[{ name := "Kind", type := 3, offset := 0, embedded := false, tag := "", pkgPath := "", byteOffset := 0 }, { name := "Int", type := 3, offset := 1, embedded := false, tag := "", pkgPath := "", byteOffset := 8 }, { name := "Text", type := 9, offset := 2, embedded := false, tag := "", pkgPath := "", byteOffset := 16 }] : Array Field).mapM fun f => do pure (f.offset, ← sizeOf f.type) : Sem (Array (Nat × Nat))).run Tryd.prog w = .ok #[(0, 1), (1, 1), (2, 1)] w := fun w => by simp [sizeOf3, sizeOf9]

theorem literal_vx (l : List Tk) (hl : l.length ≤ 100) (ht : ∀ t ∈ l, t.s.size ≤ maxLen ∧ (t.k = 2 → 0 ≤ t.n ∧ t.n ≤ 9223372036854775807)) (p : Nat) (ad : Option Addr) (n cap br : Nat) : VX Tryd.prog G 76 [.v (.pointer (some ⟨br, 0, none⟩))] [⟨br, 70, 3, [.list 3 (l.flatMap cT) l.length, .v (.int .i64 ((p : Nat) : Int)), .v (.slice ad n cap)]⟩] (fun r S' => ∃ v ok q, (∀ ops, litP l p ops = .ok (v, ok) q ops) ∧ r = .tup [.agg (cV v), .v (.bool ok)] ∧ S' = [⟨br, 70, 3, [.list 3 (l.flatMap cT) l.length, .v (.int .i64 ((q : Nat) : Int)), .v (.slice ad n cap)]⟩]) (fun ch => ∃ q e, (∀ ops, litP l p ops = .no q e) ∧ ch = wrC q e) := by
 refine VX.body func76 rfl ntmps76 le_ fun X0 w0 S00 => ?_
 refine sr_ ?_
 refine OD.alloc (ds := [_, _, _]) wp_ rfl rfl zeroValue37 rfl (fun b2 => ?_)
 refine om_ ?_
 refine on_ [(0, _), (2, _)] [⟨b2, 37, 3, [_, _, _]⟩, ⟨br, 70, 3, [_, _, _]⟩] ?_
 refine CD.seq ?_
 refine CD.block ?_
 refine sr_ ?_
 refine om_ ?_
 refine OD.call wp_ rfl rfl rfl call43 (eat_vc l hl p 1 wNULL ad n cap br) ⟨ot, opd_const, opd_const, trivial⟩ (List.Perm.swap _ _ _) ?_
 rintro _ _ ⟨rfl, rfl⟩
 refine OD.perm (S' := [⟨b2, 37, 3, [_, _, _]⟩, ⟨br, 70, 3, [.list 3 (l.flatMap cT) l.length, .v (.int .i64 (((if isQ l p 1 wNULL = true then p + 1 else p) : Nat) : Int)), .v (.slice ad n cap)]⟩]) (List.Perm.swap _ _ _) ?_
 refine om_ ?_
 refine on_ [(0, _), (2, _), (5, _)] [⟨b2, 37, 3, [_, _, _]⟩, ⟨br, 70, 3, [_, _, _]⟩] ?_
 refine CD.cond ot (fun hc0 => ?_) (fun hc0 => ?_)
 ·have hc0' := hc0
  (try simp only [V.cnd, ne_eq] at hc0')
  have nat : isQ l p 1 wNULL = true := hc0
  rw [nat]
  simp only [if_true]
  refine sr_ ?_
  refine os_ (still_bld (pl := []) (ds := [_, _, _]) rfl zeroValue37 runUnderlying37 places37_Pa4 trivial rfl rfl) ?_
  refine ot_ 0 [_, _, _] sizeOf37 ?_
  refine om_ ?_
  refine on_ [(2, _), (3, _)] [⟨b2, 37, 3, [_, _, _]⟩, ⟨br, 70, 3, [_, _, _]⟩] ?_
  refine CD.ret ?_
  refine Or.inl ?_
  refine ⟨.inr rfl, _, [⟨br, 70, 3, [.list 3 (l.flatMap cT) l.length, .v (.int .i64 (((p + 1) : Nat) : Int)), .v (.slice ad n cap)]⟩], su_, ret_two results76 (res_cells (k := 0) (ds := [_, _, _]) le_ lk rfl rfl isAgg37 sizeOf37 rfl rfl) (res_tmp le_ lk), ?_⟩
  exact ⟨noVl, true, (p + 1), fun ops => by unfold litP; rw [if_pos nat], rfl, rfl⟩
 have hc0' := hc0
 (try simp only [V.cnd, ne_eq] at hc0')
 have naf : isQ l p 1 wNULL = false := hc0
 rw [naf]
 simp only [Bool.false_eq_true, if_false]
 refine sr_ ?_
 refine om_ ?_
 refine OD.call wp_ rfl rfl rfl call43 (eat_vc l hl p 1 wTRUE ad n cap br) ⟨ot, opd_const, opd_const, trivial⟩ (List.Perm.swap _ _ _) ?_
 rintro _ _ ⟨rfl, rfl⟩
 refine OD.perm (S' := [⟨b2, 37, 3, [_, _, _]⟩, ⟨br, 70, 3, [.list 3 (l.flatMap cT) l.length, .v (.int .i64 (((if isQ l p 1 wTRUE = true then p + 1 else p) : Nat) : Int)), .v (.slice ad n cap)]⟩]) (List.Perm.swap _ _ _) ?_
 refine om_ ?_
 refine on_ [(0, _), (2, _), (9, _)] [⟨b2, 37, 3, [_, _, _]⟩, ⟨br, 70, 3, [_, _, _]⟩] ?_
 refine CD.cond ot (fun hc1 => ?_) (fun hc1 => ?_)
 ·have hc1' := hc1
  (try simp only [V.cnd, ne_eq] at hc1')
  have trt : isQ l p 1 wTRUE = true := hc1
  rw [trt]
  simp only [if_true]
  refine sr_ ?_
  refine os_ (still_bld (pl := [(0, _), (1, _)]) (ds := [_, _, _]) rfl zeroValue37 runUnderlying37 places37_Pa4 ⟨rfl, opd_const, rfl, opd_const, trivial⟩ rfl rfl) ?_
  refine ot_ 0 [_, _, _] sizeOf37 ?_
  refine om_ ?_
  refine on_ [(2, _), (3, _)] [⟨b2, 37, 3, [_, _, _]⟩, ⟨br, 70, 3, [_, _, _]⟩] ?_
  refine CD.ret ?_
  refine Or.inl ?_
  refine ⟨.inr rfl, _, [⟨br, 70, 3, [.list 3 (l.flatMap cT) l.length, .v (.int .i64 (((p + 1) : Nat) : Int)), .v (.slice ad n cap)]⟩], su_, ret_two results76 (res_cells (k := 0) (ds := [_, _, _]) le_ lk rfl rfl isAgg37 sizeOf37 rfl rfl) (res_tmp le_ lk), ?_⟩
  exact ⟨⟨1, 1, ⟨#[]⟩⟩, true, (p + 1), fun ops => by unfold litP; rw [if_neg (F_ naf), if_pos trt], rfl, rfl⟩
 have hc1' := hc1
 (try simp only [V.cnd, ne_eq] at hc1')
 have trf : isQ l p 1 wTRUE = false := hc1
 rw [trf]
 simp only [Bool.false_eq_true, if_false]
 refine sr_ ?_
 refine om_ ?_
 refine OD.call wp_ rfl rfl rfl call43 (eat_vc l hl p 1 wFALSE ad n cap br) ⟨ot, opd_const, opd_const, trivial⟩ (List.Perm.swap _ _ _) ?_
 rintro _ _ ⟨rfl, rfl⟩
 refine OD.perm (S' := [⟨b2, 37, 3, [_, _, _]⟩, ⟨br, 70, 3, [.list 3 (l.flatMap cT) l.length, .v (.int .i64 (((if isQ l p 1 wFALSE = true then p + 1 else p) : Nat) : Int)), .v (.slice ad n cap)]⟩]) (List.Perm.swap _ _ _) ?_
 refine om_ ?_
 refine on_ [(0, _), (2, _), (13, _)] [⟨b2, 37, 3, [_, _, _]⟩, ⟨br, 70, 3, [_, _, _]⟩] ?_
 refine CD.cond ot (fun hc2 => ?_) (fun hc2 => ?_)
 ·have hc2' := hc2
  (try simp only [V.cnd, ne_eq] at hc2')
  have fat : isQ l p 1 wFALSE = true := hc2
  rw [fat]
  simp only [if_true]
  refine sr_ ?_
  refine os_ (still_bld (pl := [(0, _)]) (ds := [_, _, _]) rfl zeroValue37 runUnderlying37 places37_Pa4 ⟨rfl, opd_const, trivial⟩ rfl rfl) ?_
  refine ot_ 0 [_, _, _] sizeOf37 ?_
  refine om_ ?_
  refine on_ [(2, _), (3, _)] [⟨b2, 37, 3, [_, _, _]⟩, ⟨br, 70, 3, [_, _, _]⟩] ?_
  refine CD.ret ?_
  refine Or.inl ?_
  refine ⟨.inr rfl, _, [⟨br, 70, 3, [.list 3 (l.flatMap cT) l.length, .v (.int .i64 (((p + 1) : Nat) : Int)), .v (.slice ad n cap)]⟩], su_, ret_two results76 (res_cells (k := 0) (ds := [_, _, _]) le_ lk rfl rfl isAgg37 sizeOf37 rfl rfl) (res_tmp le_ lk), ?_⟩
  exact ⟨⟨1, 0, ⟨#[]⟩⟩, true, (p + 1), fun ops => by unfold litP; rw [if_neg (F_ naf), if_neg (F_ trf), if_pos fat], rfl, rfl⟩
 have hc2' := hc2
 (try simp only [V.cnd, ne_eq] at hc2')
 have faf : isQ l p 1 wFALSE = false := hc2
 rw [faf]
 simp only [Bool.false_eq_true, if_false]
 refine CD.seq ?_
 refine CD.draw (bks _) kr_ (fun _ h => h) ?_
 refine a0_ 0 rfl mv_ ?_
 refine a0_ 1 rfl nc_ ?_
 refine a0_ 2 rfl (fa_ 1) ?_
 refine a0_ 3 rfl (lb_ 1) ?_
 refine a0_ 4 rfl mv_ ?_
 refine a0_ 5 rfl nc_ ?_
 refine a0_ 6 rfl (fa_ 0) ?_
 refine a0_ 7 rfl (lb_ 1) ?_
 refine a0_ 8 rfl ln_ ?_
 refine a0_ 9 rfl bn_ ?_
 refine a0_ 10 rfl mv_ ?_
 refine AD0.split (t := 28) lk (fun hg28 => ?_) (fun hg28 => ?_)
 ·have hg28' := hg28; (try simp only [V.cnd, ne_eq] at hg28')
  refine a0_ 11 rfl mv_ ?_
  refine a0_ 12 rfl nc_ ?_
  refine a0_ 13 rfl (fa_ 0) ?_
  refine a0_ 14 rfl (lb_ 1) ?_
  refine a0_ 15 rfl mv_ ?_
  refine a0_ 16 rfl nc_ ?_
  refine a0_ 17 rfl (fa_ 1) ?_
  refine a0_ 18 rfl (lb_ 1) ?_
  refine a0_ 19 rfl (ix_ 3 (h := by first | exact .l (j := p) rfl (by simp at hg28; exact hg28) | exact .r (j := p) rfl (by simp at hg28; exact hg28))) ?_
  refine a0_ 20 rfl (fa_ 0) ?_
  refine a0_ 21 rfl (still_r1 (mk := Op.load 3) rfl ot (by exact ld_fm0 cT_len isAgg3 (by simp at hg28; exact hg28) rfl)) ?_
  refine a0_ 22 rfl bn_ ?_
  refine a0_ 23 rfl pkT_ ?_
  refine a0_ 24 rfl mv_ ?_
  refine AD0.later rfl ?_
  refine aw_ [(0, _), (2, _), (17, _)] [⟨b2, 37, 3, [_, _, _]⟩, ⟨br, 70, 3, [_, _, _]⟩] ?_
  refine AD.done kr_ ?_
  refine CD.cond ot (fun hc3 => ?_) (fun hc3 => ?_)
  ·have hc3' := hc3
   (try simp only [V.cnd, ne_eq] at hc3')
   have hlt : p < l.length := by simp at hg28; exact hg28
   have hk3 : (l.getD p ⟨0, ⟨#[]⟩, 0⟩).k = 3 := by rw [tk_at hlt]; simpa using hc3
   refine CD.seq ?_
   refine CD.seq ?_
   refine CD.draw (bks _) kr_ (fun _ h => h) ?_
   refine a0_ 0 rfl mv_ ?_
   refine a0_ 1 rfl nc_ ?_
   refine a0_ 2 rfl (fa_ 0) ?_
   refine a0_ 3 rfl (lb_ 1) ?_
   refine a0_ 4 rfl mv_ ?_
   refine a0_ 5 rfl nc_ ?_
   refine a0_ 6 rfl (fa_ 1) ?_
   refine a0_ 7 rfl (lb_ 1) ?_
   refine a0_ 8 rfl (ix_ 3 (h := by first | exact .l (j := p) rfl hlt | exact .r (j := p) rfl hlt)) ?_
   refine a0_ 9 rfl (fa_ 1) ?_
   refine a0_ 10 rfl (still_r1 (mk := Op.load 9) rfl ot (by exact ld_fm (j := 1) cT_len isAgg9 hlt rfl)) ?_
   refine a0_ 11 rfl (still_slen rfl rfl ot runUnderlying9) ?_
   refine a0_ 12 rfl bn_ ?_
   refine AD0.later rfl ?_
   refine aw_ [(0, _), (2, _), (54, _)] [⟨b2, 37, 3, [_, _, _]⟩, ⟨br, 70, 3, [_, _, _]⟩] ?_
   refine AD.done kr_ ?_
   refine CD.cond ot (fun hc4 => ?_) (fun hc4 => ?_)
   ·have hc4' := hc4
    (try simp only [V.cnd, ne_eq] at hc4')
    have hs20 : l[p].s.size > 20 := by simp at hc4; omega
    refine CD.region ?_
    refine om_ ?_
    exact OD.callX wp_ rfl rfl rfl call26 (give_vx l hl p 1 ad n cap br) ⟨ot, opd_const, trivial⟩ (List.Perm.swap _ _ _) (fun ch hch => (Or.inr ⟨ch, rfl, ⟨_, _, fun ops => by unfold litP; rw [if_neg (F_ naf), if_neg (F_ trf), if_neg (F_ faf), dif_pos ⟨hlt, hk3⟩, if_pos hs20]; rfl, hch⟩⟩ : BodyX _ _ _ _ _ _)) (fun r S' h => h.elim)
   have hc4' := hc4
   (try simp only [V.cnd, ne_eq] at hc4')
   have hs20 : ¬ l[p].s.size > 20 := by simp at hc4; omega
   refine CD.skip ?_
   refine sr_ ?_
   refine om_ ?_
   refine os_ nc_ ?_
   refine os_ (fa_ 1) ?_
   refine os_ (lb_ 1) ?_
   refine os_ bn_ ?_
   refine os_ nc_ ?_
   refine os_ (fa_ 1) ?_
   refine ot_ 1 [_, _, _] sizeOf3 ?_
   refine on_ [(0, _), (2, _)] [⟨b2, 37, 3, [_, _, _]⟩, ⟨br, 70, 3, [_, _, _]⟩] ?_
   refine CD.seq ?_
   refine CD.draw (bks (List.eraseIdx _ 0)) kr_ (fun _ h => (List.Sublist.map _ (List.eraseIdx_sublist _ 0)).subset h) ?_
   refine a0_ 0 rfl mv_ ?_
   refine a0_ 1 rfl nc_ ?_
   refine a0_ 2 rfl (fa_ 0) ?_
   refine a0_ 3 rfl (lb_ 1) ?_
   refine a0_ 4 rfl mv_ ?_
   refine a0_ 5 rfl nc_ ?_
   refine a0_ 6 rfl (fa_ 1) ?_
   refine a0_ 7 rfl (lb_ 1) ?_
   refine a0_ 8 rfl bn_ ?_
   refine a0_ 9 rfl (ix_ 3 (h := by first | exact .l (j := p) (by omega) hlt | exact .r (j := p) (by omega) hlt)) ?_
   refine a0_ 10 rfl (fa_ 1) ?_
   refine a0_ 11 rfl (still_r1 (mk := Op.load 9) rfl ot (by exact ld_fm (j := 1) cT_len isAgg9 hlt rfl)) ?_
   refine a0_ 12 rfl (still_bld (pl := [(0, _), (2, _)]) (ds := [_, _, _]) rfl zeroValue37 runUnderlying37 places37_Pa4 ⟨rfl, opd_const, rfl, ot, trivial⟩ rfl rfl) ?_
   refine AD0.later rfl ?_
   refine AD.one (i := 13) kr_ ?_
   refine AStep.store (k := 0) (cs' := [_, _, _]) rfl wp_ rfl rfl ot rfl rfl ot rfl rfl sizeOf37 rfl rfl rfl (by intro b hb; simp [bks, St.put] at hb ⊢; try first | exact hb | simp [hb] | (rcases hb with hb | hb <;> simp [hb]) | (rcases hb with hb | hb | hb <;> simp [hb])) ?_
   refine a1_ 14 rfl mv_ ?_
   refine aw_ [(2, _), (3, _)] [⟨b2, 37, 3, [_, _, _]⟩, ⟨br, 70, 3, [_, _, _]⟩] ?_
   refine AD.done kr_ ?_
   refine CD.ret ?_
   refine Or.inl ?_
   refine ⟨.inr rfl, _, [⟨br, 70, 3, [.list 3 (l.flatMap cT) l.length, .v (.int .i64 (((p + 1) : Nat) : Int)), .v (.slice ad n cap)]⟩], su_, ret_two results76 (res_cells (k := 0) (ds := [_, _, _]) le_ lk rfl rfl isAgg37 sizeOf37 rfl rfl) (res_tmp le_ lk), ?_⟩
   exact ⟨⟨3, 0, l[p].s⟩, true, (p + 1), fun ops => by unfold litP; rw [if_neg (F_ naf), if_neg (F_ trf), if_neg (F_ faf), dif_pos ⟨hlt, hk3⟩, if_neg hs20], rfl, rfl⟩
  have hc3' := hc3
  (try simp only [V.cnd, ne_eq] at hc3')
  have hk3 : ¬ (p < l.length ∧ (l.getD p ⟨0, ⟨#[]⟩, 0⟩).k = 3) := by first | exact (fun h => by simp at hg28; omega) | exact (fun h => by rw [tk_at h.1] at h; have := h.2; simp at hc3; exact hc3 this)
  refine CD.skip ?_
  refine sr_ ?_
  refine om_ ?_
  refine nm_ [0, 2, 4] ?_
  refine CD.seq ?_
  refine sr_ ?_
  refine om_ ?_
  refine OD.call wp_ rfl rfl rfl call43 (eat_vc l hl p 4 ⟨#[45]⟩ ad n cap br) ⟨ot, opd_const, opd_const, trivial⟩ (List.Perm.swap _ _ _) ?_
  rintro _ _ ⟨rfl, rfl⟩
  refine OD.perm (S' := [⟨b2, 37, 3, [_, _, _]⟩, ⟨br, 70, 3, [.list 3 (l.flatMap cT) l.length, .v (.int .i64 (((if isQ l p 4 ⟨#[45]⟩ = true then p + 1 else p) : Nat) : Int)), .v (.slice ad n cap)]⟩]) (List.Perm.swap _ _ _) ?_
  refine on_ [(0, _), (2, _), (4, _), (78, _)] [⟨b2, 37, 3, [_, _, _]⟩, ⟨br, 70, 3, [_, _, _]⟩] ?_
  refine CD.cond ot (fun hc5 => ?_) (fun hc5 => ?_)
  ·have hc5' := hc5
   (try simp only [V.cnd, ne_eq] at hc5')
   have mit : isQ l p 4 ⟨#[45]⟩ = true := hc5
   rw [mit]
   simp only [if_true]
   refine CD.region ?_
   refine om_ ?_
   refine nm_ [0, 2, 4] ?_
   refine CD.seq ?_
   refine CD.seq ?_
   refine CD.draw (bks _) kr_ (fun _ h => h) ?_
   refine a0_ 0 rfl mv_ ?_
   refine a0_ 1 rfl nc_ ?_
   refine a0_ 2 rfl (fa_ 1) ?_
   refine a0_ 3 rfl (lb_ 1) ?_
   refine a0_ 4 rfl mv_ ?_
   refine a0_ 5 rfl nc_ ?_
   refine a0_ 6 rfl (fa_ 0) ?_
   refine a0_ 7 rfl (lb_ 1) ?_
   refine a0_ 8 rfl ln_ ?_
   refine a0_ 9 rfl bn_ ?_
   refine a0_ 10 rfl mv_ ?_
   refine AD0.split (t := 89) lk (fun hg89 => ?_) (fun hg89 => ?_)
   ·have hg89' := hg89; (try simp only [V.cnd, ne_eq] at hg89')
    refine a0_ 11 rfl mv_ ?_
    refine a0_ 12 rfl nc_ ?_
    refine a0_ 13 rfl (fa_ 0) ?_
    refine a0_ 14 rfl (lb_ 1) ?_
    refine a0_ 15 rfl mv_ ?_
    refine a0_ 16 rfl nc_ ?_
    refine a0_ 17 rfl (fa_ 1) ?_
    refine a0_ 18 rfl (lb_ 1) ?_
    refine a0_ 19 rfl (ix_ 3 (h := by first | exact .l (j := _) rfl (by simp at hg89; omega) | exact .r (j := _) rfl (by simp at hg89; omega))) ?_
    refine a0_ 20 rfl (fa_ 0) ?_
    refine a0_ 21 rfl (still_r1 (mk := Op.load 3) rfl ot (by exact ld_fm0 cT_len isAgg3 (by simp at hg89; omega) rfl)) ?_
    refine a0_ 22 rfl bn_ ?_
    refine a0_ 23 rfl pkT_ ?_
    refine AD0.later rfl ?_
    refine aw_ [(0, _), (2, _), (4, _), (102, _)] [⟨b2, 37, 3, [_, _, _]⟩, ⟨br, 70, 3, [_, _, _]⟩] ?_
    refine AD.done kr_ ?_
    refine CD.cond ot (fun hc6 => ?_) (fun hc6 => ?_)
    ·have hc6' := hc6
     (try simp only [V.cnd, ne_eq] at hc6')
     have hq6 : True := trivial
     refine CD.seq ?_
     have hlq : p + 1 < l.length := by simp at hg89; omega
     have hk2 : (l.getD (p + 1) ⟨0, ⟨#[]⟩, 0⟩).k = 2 := by rw [tk_at hlq]; simpa using hc6
     have hnb := (ht l[p + 1] (List.getElem_mem hlq)).2 (by rw [← tk_at hlq]; exact hk2)
     refine CD.region ?_
     refine om_ ?_
     refine os_ nc_ ?_
     refine os_ (fa_ 1) ?_
     refine os_ (lb_ 1) ?_
     refine os_ bn_ ?_
     refine os_ nc_ ?_
     refine os_ (fa_ 1) ?_
     refine ot_ 1 [_, _, _] sizeOf3 ?_
     refine on_ [(0, _), (2, _), (4, _)] [⟨b2, 37, 3, [_, _, _]⟩, ⟨br, 70, 3, [_, _, _]⟩] ?_
     refine CD.seq ?_
     refine CD.draw (bks (List.eraseIdx _ 0)) kr_ (fun _ h => (List.Sublist.map _ (List.eraseIdx_sublist _ 0)).subset h) ?_
     refine a0_ 0 rfl mv_ ?_
     refine a0_ 1 rfl mv_ ?_
     refine a0_ 2 rfl nc_ ?_
     refine a0_ 3 rfl (fa_ 0) ?_
     refine a0_ 4 rfl (lb_ 1) ?_
     refine a0_ 5 rfl mv_ ?_
     refine a0_ 6 rfl nc_ ?_
     refine a0_ 7 rfl (fa_ 1) ?_
     refine a0_ 8 rfl (lb_ 1) ?_
     refine a0_ 9 rfl bn_ ?_
     first | refine a0_ 10 rfl (still_r2 (mk := Op.indexAddr 26) rfl ot ot (by exact ix_list (j := p + 1) runUnderlying26 sizeOf24 (by omega) hlq)) ?_ | refine a0_ 10 rfl (still_r2 (mk := Op.indexAddr 26) rfl ot ot (by exact ix_list (j := p) runUnderlying26 sizeOf24 (by omega) hlq)) ?_
     refine a0_ 11 rfl (fa_ 2) ?_
     refine a0_ 12 rfl (still_r1 (mk := Op.load 3) rfl ot (by exact ld_fm (j := 2) cT_len isAgg3 hlq rfl)) ?_
     refine a0_ 13 rfl (still_bin rfl ot ot (bin_mul (wrap_i64 (by omega) (by omega)))) ?_
     refine a0_ 14 rfl (still_bld (pl := [(0, _), (1, _)]) (ds := [_, _, _]) rfl zeroValue37 runUnderlying37 places37_Pa4 ⟨rfl, opd_const, rfl, ot, trivial⟩ rfl rfl) ?_
     refine AD0.later rfl ?_
     refine AD.one (i := 15) kr_ ?_
     refine AStep.store (k := 0) (cs' := [_, _, _]) rfl wp_ rfl rfl ot rfl rfl ot rfl rfl sizeOf37 rfl rfl rfl (by intro b hb; simp [bks, St.put] at hb ⊢; try first | exact hb | simp [hb] | (rcases hb with hb | hb <;> simp [hb]) | (rcases hb with hb | hb | hb <;> simp [hb])) ?_
     refine a1_ 16 rfl mv_ ?_
     refine aw_ [(2, _), (3, _)] [⟨b2, 37, 3, [_, _, _]⟩, ⟨br, 70, 3, [_, _, _]⟩] ?_
     refine AD.done kr_ ?_
     refine CD.ret ?_
     refine Or.inl ?_
     refine ⟨.inr rfl, _, [⟨br, 70, 3, [.list 3 (l.flatMap cT) l.length, .v (.int .i64 (((p + 2) : Nat) : Int)), .v (.slice ad n cap)]⟩], su_, ret_two results76 (res_cells (k := 0) (ds := [_, _, _]) le_ lk rfl rfl isAgg37 sizeOf37 rfl rfl) (res_tmp le_ lk), ?_⟩
     exact ⟨⟨2, -l[p + 1].n, ⟨#[]⟩⟩, true, (p + 2), fun ops => by unfold litP; rw [if_neg (F_ naf), if_neg (F_ trf), if_neg (F_ faf), dif_neg hk3, if_pos mit, dif_pos ⟨hlq, hk2⟩], (by rw [show (-1 : Int) * l[p + 1].n = -l[p + 1].n by omega]; rfl), rfl⟩
    have hc6' := hc6
    (try simp only [V.cnd, ne_eq] at hc6')
    have hq6 : True := trivial
    refine CD.skip ?_
    refine CD.seq ?_
    refine CD.seq ?_
    have hk2 : ¬ (p + 1 < l.length ∧ (l.getD (p + 1) ⟨0, ⟨#[]⟩, 0⟩).k = 2) := by first | exact (fun h => by simp at hg89; omega) | exact (fun h => by rw [tk_at h.1] at h; have := h.2; simp at hc6; exact hc6 this)
    refine CD.region ?_
    refine om_ ?_
    refine os_ bn_ ?_
    refine nm_ [0, 2, 126] ?_
    refine CD.condT ot (by first | rfl | assumption) ?_
    refine CD.region ?_
    refine om_ ?_
    exact OD.callX wp_ rfl rfl rfl call26 (give_vx l hl (p + 1) 6 ad n cap br) ⟨ot, opd_const, trivial⟩ (List.Perm.swap _ _ _) (fun ch hch => (Or.inr ⟨ch, rfl, ⟨_, _, fun ops => by unfold litP; rw [if_neg (F_ naf), if_neg (F_ trf), if_neg (F_ faf), dif_neg hk3, if_pos mit, dif_neg hk2]; rfl, hch⟩⟩ : BodyX _ _ _ _ _ _)) (fun r S' h => h.elim)
   have hg89' := hg89; (try simp only [V.cnd, ne_eq] at hg89')
   refine s0_ 11 rfl ?_
   refine s0_ 12 rfl ?_
   refine s0_ 13 rfl ?_
   refine s0_ 14 rfl ?_
   refine s0_ 15 rfl ?_
   refine s0_ 16 rfl ?_
   refine s0_ 17 rfl ?_
   refine s0_ 18 rfl ?_
   refine s0_ 19 rfl ?_
   refine s0_ 20 rfl ?_
   refine s0_ 21 rfl ?_
   refine s0_ 22 rfl ?_
   refine a0_ 23 rfl pkF_ ?_
   refine AD0.later rfl ?_
   refine aw_ [(0, _), (2, _), (4, _), (102, _)] [⟨b2, 37, 3, [_, _, _]⟩, ⟨br, 70, 3, [_, _, _]⟩] ?_
   refine AD.done kr_ ?_
   refine CD.condF ot (by first | rfl | assumption) ?_
   have hq6 : True := trivial
   refine CD.skip ?_
   refine CD.seq ?_
   refine CD.seq ?_
   have hk2 : ¬ (p + 1 < l.length ∧ (l.getD (p + 1) ⟨0, ⟨#[]⟩, 0⟩).k = 2) := by first | exact (fun h => by simp at hg89; omega) | exact (fun h => by rw [tk_at h.1] at h; have := h.2; simp at hc6; exact hc6 this)
   refine CD.region ?_
   refine om_ ?_
   refine os_ bn_ ?_
   refine nm_ [0, 2, 126] ?_
   refine CD.condT ot (by first | rfl | assumption) ?_
   refine CD.region ?_
   refine om_ ?_
   exact OD.callX wp_ rfl rfl rfl call26 (give_vx l hl (p + 1) 6 ad n cap br) ⟨ot, opd_const, trivial⟩ (List.Perm.swap _ _ _) (fun ch hch => (Or.inr ⟨ch, rfl, ⟨_, _, fun ops => by unfold litP; rw [if_neg (F_ naf), if_neg (F_ trf), if_neg (F_ faf), dif_neg hk3, if_pos mit, dif_neg hk2]; rfl, hch⟩⟩ : BodyX _ _ _ _ _ _)) (fun r S' h => h.elim)
  have hc5' := hc5
  (try simp only [V.cnd, ne_eq] at hc5')
  have mif : isQ l p 4 ⟨#[45]⟩ = false := hc5
  rw [mif]
  simp only [Bool.false_eq_true, if_false]
  refine CD.skip ?_
  refine CD.seq ?_
  refine CD.seq ?_
  refine CD.draw (bks _) kr_ (fun _ h => h) ?_
  refine a0_ 0 rfl mv_ ?_
  refine a0_ 1 rfl nc_ ?_
  refine a0_ 2 rfl (fa_ 1) ?_
  refine a0_ 3 rfl (lb_ 1) ?_
  refine a0_ 4 rfl mv_ ?_
  refine a0_ 5 rfl nc_ ?_
  refine a0_ 6 rfl (fa_ 0) ?_
  refine a0_ 7 rfl (lb_ 1) ?_
  refine a0_ 8 rfl ln_ ?_
  refine a0_ 9 rfl bn_ ?_
  refine a0_ 10 rfl mv_ ?_
  refine AD0.split (t := 89) lk (fun hg89 => ?_) (fun hg89 => ?_)
  ·have hg89' := hg89; (try simp only [V.cnd, ne_eq] at hg89')
   refine a0_ 11 rfl mv_ ?_
   refine a0_ 12 rfl nc_ ?_
   refine a0_ 13 rfl (fa_ 0) ?_
   refine a0_ 14 rfl (lb_ 1) ?_
   refine a0_ 15 rfl mv_ ?_
   refine a0_ 16 rfl nc_ ?_
   refine a0_ 17 rfl (fa_ 1) ?_
   refine a0_ 18 rfl (lb_ 1) ?_
   refine a0_ 19 rfl (ix_ 3 (h := by first | exact .l (j := _) rfl (by simp at hg89; omega) | exact .r (j := _) rfl (by simp at hg89; omega))) ?_
   refine a0_ 20 rfl (fa_ 0) ?_
   refine a0_ 21 rfl (still_r1 (mk := Op.load 3) rfl ot (by exact ld_fm0 cT_len isAgg3 (by simp at hg89; omega) rfl)) ?_
   refine a0_ 22 rfl bn_ ?_
   refine a0_ 23 rfl pkT_ ?_
   refine AD0.later rfl ?_
   refine aw_ [(0, _), (2, _), (4, _), (102, _)] [⟨b2, 37, 3, [_, _, _]⟩, ⟨br, 70, 3, [_, _, _]⟩] ?_
   refine AD.done kr_ ?_
   refine CD.cond ot (fun hc6 => ?_) (fun hc6 => ?_)
   ·have hc6' := hc6
    (try simp only [V.cnd, ne_eq] at hc6')
    have hq6 : True := trivial
    refine CD.seq ?_
    have hlq : p < l.length := by simp at hg89; omega
    have hk2 : (l.getD (p) ⟨0, ⟨#[]⟩, 0⟩).k = 2 := by rw [tk_at hlq]; simpa using hc6
    have hnb := (ht l[p] (List.getElem_mem hlq)).2 (by rw [← tk_at hlq]; exact hk2)
    refine CD.region ?_
    refine om_ ?_
    refine os_ nc_ ?_
    refine os_ (fa_ 1) ?_
    refine os_ (lb_ 1) ?_
    refine os_ bn_ ?_
    refine os_ nc_ ?_
    refine os_ (fa_ 1) ?_
    refine ot_ 1 [_, _, _] sizeOf3 ?_
    refine on_ [(0, _), (2, _), (4, _)] [⟨b2, 37, 3, [_, _, _]⟩, ⟨br, 70, 3, [_, _, _]⟩] ?_
    refine CD.seq ?_
    refine CD.draw (bks (List.eraseIdx _ 0)) kr_ (fun _ h => (List.Sublist.map _ (List.eraseIdx_sublist _ 0)).subset h) ?_
    refine a0_ 0 rfl mv_ ?_
    refine a0_ 1 rfl mv_ ?_
    refine a0_ 2 rfl nc_ ?_
    refine a0_ 3 rfl (fa_ 0) ?_
    refine a0_ 4 rfl (lb_ 1) ?_
    refine a0_ 5 rfl mv_ ?_
    refine a0_ 6 rfl nc_ ?_
    refine a0_ 7 rfl (fa_ 1) ?_
    refine a0_ 8 rfl (lb_ 1) ?_
    refine a0_ 9 rfl bn_ ?_
    first | refine a0_ 10 rfl (still_r2 (mk := Op.indexAddr 26) rfl ot ot (by exact ix_list (j := p + 1) runUnderlying26 sizeOf24 (by omega) hlq)) ?_ | refine a0_ 10 rfl (still_r2 (mk := Op.indexAddr 26) rfl ot ot (by exact ix_list (j := p) runUnderlying26 sizeOf24 (by omega) hlq)) ?_
    refine a0_ 11 rfl (fa_ 2) ?_
    refine a0_ 12 rfl (still_r1 (mk := Op.load 3) rfl ot (by exact ld_fm (j := 2) cT_len isAgg3 hlq rfl)) ?_
    refine a0_ 13 rfl (still_bin rfl ot ot (bin_mul (wrap_i64 (by omega) (by omega)))) ?_
    refine a0_ 14 rfl (still_bld (pl := [(0, _), (1, _)]) (ds := [_, _, _]) rfl zeroValue37 runUnderlying37 places37_Pa4 ⟨rfl, opd_const, rfl, ot, trivial⟩ rfl rfl) ?_
    refine AD0.later rfl ?_
    refine AD.one (i := 15) kr_ ?_
    refine AStep.store (k := 0) (cs' := [_, _, _]) rfl wp_ rfl rfl ot rfl rfl ot rfl rfl sizeOf37 rfl rfl rfl (by intro b hb; simp [bks, St.put] at hb ⊢; try first | exact hb | simp [hb] | (rcases hb with hb | hb <;> simp [hb]) | (rcases hb with hb | hb | hb <;> simp [hb])) ?_
    refine a1_ 16 rfl mv_ ?_
    refine aw_ [(2, _), (3, _)] [⟨b2, 37, 3, [_, _, _]⟩, ⟨br, 70, 3, [_, _, _]⟩] ?_
    refine AD.done kr_ ?_
    refine CD.ret ?_
    refine Or.inl ?_
    refine ⟨.inr rfl, _, [⟨br, 70, 3, [.list 3 (l.flatMap cT) l.length, .v (.int .i64 (((p + 1) : Nat) : Int)), .v (.slice ad n cap)]⟩], su_, ret_two results76 (res_cells (k := 0) (ds := [_, _, _]) le_ lk rfl rfl isAgg37 sizeOf37 rfl rfl) (res_tmp le_ lk), ?_⟩
    exact ⟨⟨2, l[p].n, ⟨#[]⟩⟩, true, (p + 1), fun ops => by unfold litP; rw [if_neg (F_ naf), if_neg (F_ trf), if_neg (F_ faf), dif_neg hk3, if_neg (F_ mif), dif_pos ⟨hlq, hk2⟩], (by rw [show (1 : Int) * l[p].n = l[p].n by omega]; rfl), rfl⟩
   have hc6' := hc6
   (try simp only [V.cnd, ne_eq] at hc6')
   have hq6 : True := trivial
   refine CD.skip ?_
   refine CD.seq ?_
   refine CD.seq ?_
   have hk2 : ¬ (p < l.length ∧ (l.getD (p) ⟨0, ⟨#[]⟩, 0⟩).k = 2) := by first | exact (fun h => by simp at hg89; omega) | exact (fun h => by rw [tk_at h.1] at h; have := h.2; simp at hc6; exact hc6 this)
   refine CD.region ?_
   refine om_ ?_
   refine os_ bn_ ?_
   refine nm_ [0, 2, 126] ?_
   refine CD.condF ot (by first | rfl | assumption) ?_
   refine CD.skip ?_
   refine sr_ ?_
   refine os_ (still_bld (pl := []) (ds := [_, _, _]) rfl zeroValue37 runUnderlying37 places37_Pa4 trivial rfl rfl) ?_
   refine ot_ 0 [_, _, _] sizeOf37 ?_
   refine om_ ?_
   refine on_ [(2, _), (3, _)] [⟨b2, 37, 3, [_, _, _]⟩, ⟨br, 70, 3, [_, _, _]⟩] ?_
   refine CD.ret ?_
   refine Or.inl ?_
   refine ⟨.inr rfl, _, [⟨br, 70, 3, [.list 3 (l.flatMap cT) l.length, .v (.int .i64 ((p : Nat) : Int)), .v (.slice ad n cap)]⟩], su_, ret_two results76 (res_cells (k := 0) (ds := [_, _, _]) le_ lk rfl rfl isAgg37 sizeOf37 rfl rfl) (res_tmp le_ lk), ?_⟩
   exact ⟨noVl, false, p, fun ops => by unfold litP; rw [if_neg (F_ naf), if_neg (F_ trf), if_neg (F_ faf), dif_neg hk3, if_neg (F_ mif), dif_neg hk2], rfl, rfl⟩
  have hg89' := hg89; (try simp only [V.cnd, ne_eq] at hg89')
  refine s0_ 11 rfl ?_
  refine s0_ 12 rfl ?_
  refine s0_ 13 rfl ?_
  refine s0_ 14 rfl ?_
  refine s0_ 15 rfl ?_
  refine s0_ 16 rfl ?_
  refine s0_ 17 rfl ?_
  refine s0_ 18 rfl ?_
  refine s0_ 19 rfl ?_
  refine s0_ 20 rfl ?_
  refine s0_ 21 rfl ?_
  refine s0_ 22 rfl ?_
  refine a0_ 23 rfl pkF_ ?_
  refine AD0.later rfl ?_
  refine aw_ [(0, _), (2, _), (4, _), (102, _)] [⟨b2, 37, 3, [_, _, _]⟩, ⟨br, 70, 3, [_, _, _]⟩] ?_
  refine AD.done kr_ ?_
  refine CD.condF ot (by first | rfl | assumption) ?_
  have hq6 : True := trivial
  refine CD.skip ?_
  refine CD.seq ?_
  refine CD.seq ?_
  have hk2 : ¬ (p < l.length ∧ (l.getD (p) ⟨0, ⟨#[]⟩, 0⟩).k = 2) := by first | exact (fun h => by simp at hg89; omega) | exact (fun h => by rw [tk_at h.1] at h; have := h.2; simp at hc6; exact hc6 this)
  refine CD.region ?_
  refine om_ ?_
  refine os_ bn_ ?_
  refine nm_ [0, 2, 126] ?_
  refine CD.condF ot (by first | rfl | assumption) ?_
  refine CD.skip ?_
  refine sr_ ?_
  refine os_ (still_bld (pl := []) (ds := [_, _, _]) rfl zeroValue37 runUnderlying37 places37_Pa4 trivial rfl rfl) ?_
  refine ot_ 0 [_, _, _] sizeOf37 ?_
  refine om_ ?_
  refine on_ [(2, _), (3, _)] [⟨b2, 37, 3, [_, _, _]⟩, ⟨br, 70, 3, [_, _, _]⟩] ?_
  refine CD.ret ?_
  refine Or.inl ?_
  refine ⟨.inr rfl, _, [⟨br, 70, 3, [.list 3 (l.flatMap cT) l.length, .v (.int .i64 ((p : Nat) : Int)), .v (.slice ad n cap)]⟩], su_, ret_two results76 (res_cells (k := 0) (ds := [_, _, _]) le_ lk rfl rfl isAgg37 sizeOf37 rfl rfl) (res_tmp le_ lk), ?_⟩
  exact ⟨noVl, false, p, fun ops => by unfold litP; rw [if_neg (F_ naf), if_neg (F_ trf), if_neg (F_ faf), dif_neg hk3, if_neg (F_ mif), dif_neg hk2], rfl, rfl⟩
 have hg28' := hg28; (try simp only [V.cnd, ne_eq] at hg28')
 refine s0_ 11 rfl ?_
 refine s0_ 12 rfl ?_
 refine s0_ 13 rfl ?_
 refine s0_ 14 rfl ?_
 refine s0_ 15 rfl ?_
 refine s0_ 16 rfl ?_
 refine s0_ 17 rfl ?_
 refine s0_ 18 rfl ?_
 refine s0_ 19 rfl ?_
 refine s0_ 20 rfl ?_
 refine s0_ 21 rfl ?_
 refine s0_ 22 rfl ?_
 refine a0_ 23 rfl pkF_ ?_
 refine a0_ 24 rfl mv_ ?_
 refine AD0.later rfl ?_
 refine aw_ [(0, _), (2, _), (17, _)] [⟨b2, 37, 3, [_, _, _]⟩, ⟨br, 70, 3, [_, _, _]⟩] ?_
 refine AD.done kr_ ?_
 refine CD.condF ot (by first | rfl | assumption) ?_
 have hk3 : ¬ (p < l.length ∧ (l.getD p ⟨0, ⟨#[]⟩, 0⟩).k = 3) := by first | exact (fun h => by simp at hg28; omega) | exact (fun h => by rw [tk_at h.1] at h; have := h.2; simp at hc3; exact hc3 this)
 refine CD.skip ?_
 refine sr_ ?_
 refine om_ ?_
 refine nm_ [0, 2, 4] ?_
 refine CD.seq ?_
 refine sr_ ?_
 refine om_ ?_
 refine OD.call wp_ rfl rfl rfl call43 (eat_vc l hl p 4 ⟨#[45]⟩ ad n cap br) ⟨ot, opd_const, opd_const, trivial⟩ (List.Perm.swap _ _ _) ?_
 rintro _ _ ⟨rfl, rfl⟩
 refine OD.perm (S' := [⟨b2, 37, 3, [_, _, _]⟩, ⟨br, 70, 3, [.list 3 (l.flatMap cT) l.length, .v (.int .i64 (((if isQ l p 4 ⟨#[45]⟩ = true then p + 1 else p) : Nat) : Int)), .v (.slice ad n cap)]⟩]) (List.Perm.swap _ _ _) ?_
 refine on_ [(0, _), (2, _), (4, _), (78, _)] [⟨b2, 37, 3, [_, _, _]⟩, ⟨br, 70, 3, [_, _, _]⟩] ?_
 refine CD.cond ot (fun hc5 => ?_) (fun hc5 => ?_)
 ·have hc5' := hc5
  (try simp only [V.cnd, ne_eq] at hc5')
  have mit : isQ l p 4 ⟨#[45]⟩ = true := hc5
  rw [mit]
  simp only [if_true]
  refine CD.region ?_
  refine om_ ?_
  refine nm_ [0, 2, 4] ?_
  refine CD.seq ?_
  refine CD.seq ?_
  refine CD.draw (bks _) kr_ (fun _ h => h) ?_
  refine a0_ 0 rfl mv_ ?_
  refine a0_ 1 rfl nc_ ?_
  refine a0_ 2 rfl (fa_ 1) ?_
  refine a0_ 3 rfl (lb_ 1) ?_
  refine a0_ 4 rfl mv_ ?_
  refine a0_ 5 rfl nc_ ?_
  refine a0_ 6 rfl (fa_ 0) ?_
  refine a0_ 7 rfl (lb_ 1) ?_
  refine a0_ 8 rfl ln_ ?_
  refine a0_ 9 rfl bn_ ?_
  refine a0_ 10 rfl mv_ ?_
  refine AD0.split (t := 89) lk (fun hg89 => ?_) (fun hg89 => ?_)
  ·have hg89' := hg89; (try simp only [V.cnd, ne_eq] at hg89')
   refine a0_ 11 rfl mv_ ?_
   refine a0_ 12 rfl nc_ ?_
   refine a0_ 13 rfl (fa_ 0) ?_
   refine a0_ 14 rfl (lb_ 1) ?_
   refine a0_ 15 rfl mv_ ?_
   refine a0_ 16 rfl nc_ ?_
   refine a0_ 17 rfl (fa_ 1) ?_
   refine a0_ 18 rfl (lb_ 1) ?_
   refine a0_ 19 rfl (ix_ 3 (h := by first | exact .l (j := _) rfl (by simp at hg89; omega) | exact .r (j := _) rfl (by simp at hg89; omega))) ?_
   refine a0_ 20 rfl (fa_ 0) ?_
   refine a0_ 21 rfl (still_r1 (mk := Op.load 3) rfl ot (by exact ld_fm0 cT_len isAgg3 (by simp at hg89; omega) rfl)) ?_
   refine a0_ 22 rfl bn_ ?_
   refine a0_ 23 rfl pkT_ ?_
   refine AD0.later rfl ?_
   refine aw_ [(0, _), (2, _), (4, _), (102, _)] [⟨b2, 37, 3, [_, _, _]⟩, ⟨br, 70, 3, [_, _, _]⟩] ?_
   refine AD.done kr_ ?_
   refine CD.cond ot (fun hc6 => ?_) (fun hc6 => ?_)
   ·have hc6' := hc6
    (try simp only [V.cnd, ne_eq] at hc6')
    have hq6 : True := trivial
    refine CD.seq ?_
    have hlq : p + 1 < l.length := by simp at hg89; omega
    have hk2 : (l.getD (p + 1) ⟨0, ⟨#[]⟩, 0⟩).k = 2 := by rw [tk_at hlq]; simpa using hc6
    have hnb := (ht l[p + 1] (List.getElem_mem hlq)).2 (by rw [← tk_at hlq]; exact hk2)
    refine CD.region ?_
    refine om_ ?_
    refine os_ nc_ ?_
    refine os_ (fa_ 1) ?_
    refine os_ (lb_ 1) ?_
    refine os_ bn_ ?_
    refine os_ nc_ ?_
    refine os_ (fa_ 1) ?_
    refine ot_ 1 [_, _, _] sizeOf3 ?_
    refine on_ [(0, _), (2, _), (4, _)] [⟨b2, 37, 3, [_, _, _]⟩, ⟨br, 70, 3, [_, _, _]⟩] ?_
    refine CD.seq ?_
    refine CD.draw (bks (List.eraseIdx _ 0)) kr_ (fun _ h => (List.Sublist.map _ (List.eraseIdx_sublist _ 0)).subset h) ?_
    refine a0_ 0 rfl mv_ ?_
    refine a0_ 1 rfl mv_ ?_
    refine a0_ 2 rfl nc_ ?_
    refine a0_ 3 rfl (fa_ 0) ?_
    refine a0_ 4 rfl (lb_ 1) ?_
    refine a0_ 5 rfl mv_ ?_
    refine a0_ 6 rfl nc_ ?_
    refine a0_ 7 rfl (fa_ 1) ?_
    refine a0_ 8 rfl (lb_ 1) ?_
    refine a0_ 9 rfl bn_ ?_
    first | refine a0_ 10 rfl (still_r2 (mk := Op.indexAddr 26) rfl ot ot (by exact ix_list (j := p + 1) runUnderlying26 sizeOf24 (by omega) hlq)) ?_ | refine a0_ 10 rfl (still_r2 (mk := Op.indexAddr 26) rfl ot ot (by exact ix_list (j := p) runUnderlying26 sizeOf24 (by omega) hlq)) ?_
    refine a0_ 11 rfl (fa_ 2) ?_
    refine a0_ 12 rfl (still_r1 (mk := Op.load 3) rfl ot (by exact ld_fm (j := 2) cT_len isAgg3 hlq rfl)) ?_
    refine a0_ 13 rfl (still_bin rfl ot ot (bin_mul (wrap_i64 (by omega) (by omega)))) ?_
    refine a0_ 14 rfl (still_bld (pl := [(0, _), (1, _)]) (ds := [_, _, _]) rfl zeroValue37 runUnderlying37 places37_Pa4 ⟨rfl, opd_const, rfl, ot, trivial⟩ rfl rfl) ?_
    refine AD0.later rfl ?_
    refine AD.one (i := 15) kr_ ?_
    refine AStep.store (k := 0) (cs' := [_, _, _]) rfl wp_ rfl rfl ot rfl rfl ot rfl rfl sizeOf37 rfl rfl rfl (by intro b hb; simp [bks, St.put] at hb ⊢; try first | exact hb | simp [hb] | (rcases hb with hb | hb <;> simp [hb]) | (rcases hb with hb | hb | hb <;> simp [hb])) ?_
    refine a1_ 16 rfl mv_ ?_
    refine aw_ [(2, _), (3, _)] [⟨b2, 37, 3, [_, _, _]⟩, ⟨br, 70, 3, [_, _, _]⟩] ?_
    refine AD.done kr_ ?_
    refine CD.ret ?_
    refine Or.inl ?_
    refine ⟨.inr rfl, _, [⟨br, 70, 3, [.list 3 (l.flatMap cT) l.length, .v (.int .i64 (((p + 2) : Nat) : Int)), .v (.slice ad n cap)]⟩], su_, ret_two results76 (res_cells (k := 0) (ds := [_, _, _]) le_ lk rfl rfl isAgg37 sizeOf37 rfl rfl) (res_tmp le_ lk), ?_⟩
    exact ⟨⟨2, -l[p + 1].n, ⟨#[]⟩⟩, true, (p + 2), fun ops => by unfold litP; rw [if_neg (F_ naf), if_neg (F_ trf), if_neg (F_ faf), dif_neg hk3, if_pos mit, dif_pos ⟨hlq, hk2⟩], (by rw [show (-1 : Int) * l[p + 1].n = -l[p + 1].n by omega]; rfl), rfl⟩
   have hc6' := hc6
   (try simp only [V.cnd, ne_eq] at hc6')
   have hq6 : True := trivial
   refine CD.skip ?_
   refine CD.seq ?_
   refine CD.seq ?_
   have hk2 : ¬ (p + 1 < l.length ∧ (l.getD (p + 1) ⟨0, ⟨#[]⟩, 0⟩).k = 2) := by first | exact (fun h => by simp at hg89; omega) | exact (fun h => by rw [tk_at h.1] at h; have := h.2; simp at hc6; exact hc6 this)
   refine CD.region ?_
   refine om_ ?_
   refine os_ bn_ ?_
   refine nm_ [0, 2, 126] ?_
   refine CD.condT ot (by first | rfl | assumption) ?_
   refine CD.region ?_
   refine om_ ?_
   exact OD.callX wp_ rfl rfl rfl call26 (give_vx l hl (p + 1) 6 ad n cap br) ⟨ot, opd_const, trivial⟩ (List.Perm.swap _ _ _) (fun ch hch => (Or.inr ⟨ch, rfl, ⟨_, _, fun ops => by unfold litP; rw [if_neg (F_ naf), if_neg (F_ trf), if_neg (F_ faf), dif_neg hk3, if_pos mit, dif_neg hk2]; rfl, hch⟩⟩ : BodyX _ _ _ _ _ _)) (fun r S' h => h.elim)
  have hg89' := hg89; (try simp only [V.cnd, ne_eq] at hg89')
  refine s0_ 11 rfl ?_
  refine s0_ 12 rfl ?_
  refine s0_ 13 rfl ?_
  refine s0_ 14 rfl ?_
  refine s0_ 15 rfl ?_
  refine s0_ 16 rfl ?_
  refine s0_ 17 rfl ?_
  refine s0_ 18 rfl ?_
  refine s0_ 19 rfl ?_
  refine s0_ 20 rfl ?_
  refine s0_ 21 rfl ?_
  refine s0_ 22 rfl ?_
  refine a0_ 23 rfl pkF_ ?_
  refine AD0.later rfl ?_
  refine aw_ [(0, _), (2, _), (4, _), (102, _)] [⟨b2, 37, 3, [_, _, _]⟩, ⟨br, 70, 3, [_, _, _]⟩] ?_
  refine AD.done kr_ ?_
  refine CD.condF ot (by first | rfl | assumption) ?_
  have hq6 : True := trivial
  refine CD.skip ?_
  refine CD.seq ?_
  refine CD.seq ?_
  have hk2 : ¬ (p + 1 < l.length ∧ (l.getD (p + 1) ⟨0, ⟨#[]⟩, 0⟩).k = 2) := by first | exact (fun h => by simp at hg89; omega) | exact (fun h => by rw [tk_at h.1] at h; have := h.2; simp at hc6; exact hc6 this)
  refine CD.region ?_
  refine om_ ?_
  refine os_ bn_ ?_
  refine nm_ [0, 2, 126] ?_
  refine CD.condT ot (by first | rfl | assumption) ?_
  refine CD.region ?_
  refine om_ ?_
  exact OD.callX wp_ rfl rfl rfl call26 (give_vx l hl (p + 1) 6 ad n cap br) ⟨ot, opd_const, trivial⟩ (List.Perm.swap _ _ _) (fun ch hch => (Or.inr ⟨ch, rfl, ⟨_, _, fun ops => by unfold litP; rw [if_neg (F_ naf), if_neg (F_ trf), if_neg (F_ faf), dif_neg hk3, if_pos mit, dif_neg hk2]; rfl, hch⟩⟩ : BodyX _ _ _ _ _ _)) (fun r S' h => h.elim)
 have hc5' := hc5
 (try simp only [V.cnd, ne_eq] at hc5')
 have mif : isQ l p 4 ⟨#[45]⟩ = false := hc5
 rw [mif]
 simp only [Bool.false_eq_true, if_false]
 refine CD.skip ?_
 refine CD.seq ?_
 refine CD.seq ?_
 refine CD.draw (bks _) kr_ (fun _ h => h) ?_
 refine a0_ 0 rfl mv_ ?_
 refine a0_ 1 rfl nc_ ?_
 refine a0_ 2 rfl (fa_ 1) ?_
 refine a0_ 3 rfl (lb_ 1) ?_
 refine a0_ 4 rfl mv_ ?_
 refine a0_ 5 rfl nc_ ?_
 refine a0_ 6 rfl (fa_ 0) ?_
 refine a0_ 7 rfl (lb_ 1) ?_
 refine a0_ 8 rfl ln_ ?_
 refine a0_ 9 rfl bn_ ?_
 refine a0_ 10 rfl mv_ ?_
 refine AD0.split (t := 89) lk (fun hg89 => ?_) (fun hg89 => ?_)
 ·have hg89' := hg89; (try simp only [V.cnd, ne_eq] at hg89')
  refine a0_ 11 rfl mv_ ?_
  refine a0_ 12 rfl nc_ ?_
  refine a0_ 13 rfl (fa_ 0) ?_
  refine a0_ 14 rfl (lb_ 1) ?_
  refine a0_ 15 rfl mv_ ?_
  refine a0_ 16 rfl nc_ ?_
  refine a0_ 17 rfl (fa_ 1) ?_
  refine a0_ 18 rfl (lb_ 1) ?_
  refine a0_ 19 rfl (ix_ 3 (h := by first | exact .l (j := _) rfl (by simp at hg89; omega) | exact .r (j := _) rfl (by simp at hg89; omega))) ?_
  refine a0_ 20 rfl (fa_ 0) ?_
  refine a0_ 21 rfl (still_r1 (mk := Op.load 3) rfl ot (by exact ld_fm0 cT_len isAgg3 (by simp at hg89; omega) rfl)) ?_
  refine a0_ 22 rfl bn_ ?_
  refine a0_ 23 rfl pkT_ ?_
  refine AD0.later rfl ?_
  refine aw_ [(0, _), (2, _), (4, _), (102, _)] [⟨b2, 37, 3, [_, _, _]⟩, ⟨br, 70, 3, [_, _, _]⟩] ?_
  refine AD.done kr_ ?_
  refine CD.cond ot (fun hc6 => ?_) (fun hc6 => ?_)
  ·have hc6' := hc6
   (try simp only [V.cnd, ne_eq] at hc6')
   have hq6 : True := trivial
   refine CD.seq ?_
   have hlq : p < l.length := by simp at hg89; omega
   have hk2 : (l.getD (p) ⟨0, ⟨#[]⟩, 0⟩).k = 2 := by rw [tk_at hlq]; simpa using hc6
   have hnb := (ht l[p] (List.getElem_mem hlq)).2 (by rw [← tk_at hlq]; exact hk2)
   refine CD.region ?_
   refine om_ ?_
   refine os_ nc_ ?_
   refine os_ (fa_ 1) ?_
   refine os_ (lb_ 1) ?_
   refine os_ bn_ ?_
   refine os_ nc_ ?_
   refine os_ (fa_ 1) ?_
   refine ot_ 1 [_, _, _] sizeOf3 ?_
   refine on_ [(0, _), (2, _), (4, _)] [⟨b2, 37, 3, [_, _, _]⟩, ⟨br, 70, 3, [_, _, _]⟩] ?_
   refine CD.seq ?_
   refine CD.draw (bks (List.eraseIdx _ 0)) kr_ (fun _ h => (List.Sublist.map _ (List.eraseIdx_sublist _ 0)).subset h) ?_
   refine a0_ 0 rfl mv_ ?_
   refine a0_ 1 rfl mv_ ?_
   refine a0_ 2 rfl nc_ ?_
   refine a0_ 3 rfl (fa_ 0) ?_
   refine a0_ 4 rfl (lb_ 1) ?_
   refine a0_ 5 rfl mv_ ?_
   refine a0_ 6 rfl nc_ ?_
   refine a0_ 7 rfl (fa_ 1) ?_
   refine a0_ 8 rfl (lb_ 1) ?_
   refine a0_ 9 rfl bn_ ?_
   first | refine a0_ 10 rfl (still_r2 (mk := Op.indexAddr 26) rfl ot ot (by exact ix_list (j := p + 1) runUnderlying26 sizeOf24 (by omega) hlq)) ?_ | refine a0_ 10 rfl (still_r2 (mk := Op.indexAddr 26) rfl ot ot (by exact ix_list (j := p) runUnderlying26 sizeOf24 (by omega) hlq)) ?_
   refine a0_ 11 rfl (fa_ 2) ?_
   refine a0_ 12 rfl (still_r1 (mk := Op.load 3) rfl ot (by exact ld_fm (j := 2) cT_len isAgg3 hlq rfl)) ?_
   refine a0_ 13 rfl (still_bin rfl ot ot (bin_mul (wrap_i64 (by omega) (by omega)))) ?_
   refine a0_ 14 rfl (still_bld (pl := [(0, _), (1, _)]) (ds := [_, _, _]) rfl zeroValue37 runUnderlying37 places37_Pa4 ⟨rfl, opd_const, rfl, ot, trivial⟩ rfl rfl) ?_
   refine AD0.later rfl ?_
   refine AD.one (i := 15) kr_ ?_
   refine AStep.store (k := 0) (cs' := [_, _, _]) rfl wp_ rfl rfl ot rfl rfl ot rfl rfl sizeOf37 rfl rfl rfl (by intro b hb; simp [bks, St.put] at hb ⊢; try first | exact hb | simp [hb] | (rcases hb with hb | hb <;> simp [hb]) | (rcases hb with hb | hb | hb <;> simp [hb])) ?_
   refine a1_ 16 rfl mv_ ?_
   refine aw_ [(2, _), (3, _)] [⟨b2, 37, 3, [_, _, _]⟩, ⟨br, 70, 3, [_, _, _]⟩] ?_
   refine AD.done kr_ ?_
   refine CD.ret ?_
   refine Or.inl ?_
   refine ⟨.inr rfl, _, [⟨br, 70, 3, [.list 3 (l.flatMap cT) l.length, .v (.int .i64 (((p + 1) : Nat) : Int)), .v (.slice ad n cap)]⟩], su_, ret_two results76 (res_cells (k := 0) (ds := [_, _, _]) le_ lk rfl rfl isAgg37 sizeOf37 rfl rfl) (res_tmp le_ lk), ?_⟩
   exact ⟨⟨2, l[p].n, ⟨#[]⟩⟩, true, (p + 1), fun ops => by unfold litP; rw [if_neg (F_ naf), if_neg (F_ trf), if_neg (F_ faf), dif_neg hk3, if_neg (F_ mif), dif_pos ⟨hlq, hk2⟩], (by rw [show (1 : Int) * l[p].n = l[p].n by omega]; rfl), rfl⟩
  have hc6' := hc6
  (try simp only [V.cnd, ne_eq] at hc6')
  have hq6 : True := trivial
  refine CD.skip ?_
  refine CD.seq ?_
  refine CD.seq ?_
  have hk2 : ¬ (p < l.length ∧ (l.getD (p) ⟨0, ⟨#[]⟩, 0⟩).k = 2) := by first | exact (fun h => by simp at hg89; omega) | exact (fun h => by rw [tk_at h.1] at h; have := h.2; simp at hc6; exact hc6 this)
  refine CD.region ?_
  refine om_ ?_
  refine os_ bn_ ?_
  refine nm_ [0, 2, 126] ?_
  refine CD.condF ot (by first | rfl | assumption) ?_
  refine CD.skip ?_
  refine sr_ ?_
  refine os_ (still_bld (pl := []) (ds := [_, _, _]) rfl zeroValue37 runUnderlying37 places37_Pa4 trivial rfl rfl) ?_
  refine ot_ 0 [_, _, _] sizeOf37 ?_
  refine om_ ?_
  refine on_ [(2, _), (3, _)] [⟨b2, 37, 3, [_, _, _]⟩, ⟨br, 70, 3, [_, _, _]⟩] ?_
  refine CD.ret ?_
  refine Or.inl ?_
  refine ⟨.inr rfl, _, [⟨br, 70, 3, [.list 3 (l.flatMap cT) l.length, .v (.int .i64 ((p : Nat) : Int)), .v (.slice ad n cap)]⟩], su_, ret_two results76 (res_cells (k := 0) (ds := [_, _, _]) le_ lk rfl rfl isAgg37 sizeOf37 rfl rfl) (res_tmp le_ lk), ?_⟩
  exact ⟨noVl, false, p, fun ops => by unfold litP; rw [if_neg (F_ naf), if_neg (F_ trf), if_neg (F_ faf), dif_neg hk3, if_neg (F_ mif), dif_neg hk2], rfl, rfl⟩
 have hg89' := hg89; (try simp only [V.cnd, ne_eq] at hg89')
 refine s0_ 11 rfl ?_
 refine s0_ 12 rfl ?_
 refine s0_ 13 rfl ?_
 refine s0_ 14 rfl ?_
 refine s0_ 15 rfl ?_
 refine s0_ 16 rfl ?_
 refine s0_ 17 rfl ?_
 refine s0_ 18 rfl ?_
 refine s0_ 19 rfl ?_
 refine s0_ 20 rfl ?_
 refine s0_ 21 rfl ?_
 refine s0_ 22 rfl ?_
 refine a0_ 23 rfl pkF_ ?_
 refine AD0.later rfl ?_
 refine aw_ [(0, _), (2, _), (4, _), (102, _)] [⟨b2, 37, 3, [_, _, _]⟩, ⟨br, 70, 3, [_, _, _]⟩] ?_
 refine AD.done kr_ ?_
 refine CD.condF ot (by first | rfl | assumption) ?_
 have hq6 : True := trivial
 refine CD.skip ?_
 refine CD.seq ?_
 refine CD.seq ?_
 have hk2 : ¬ (p < l.length ∧ (l.getD (p) ⟨0, ⟨#[]⟩, 0⟩).k = 2) := by first | exact (fun h => by simp at hg89; omega) | exact (fun h => by rw [tk_at h.1] at h; have := h.2; simp at hc6; exact hc6 this)
 refine CD.region ?_
 refine om_ ?_
 refine os_ bn_ ?_
 refine nm_ [0, 2, 126] ?_
 refine CD.condF ot (by first | rfl | assumption) ?_
 refine CD.skip ?_
 refine sr_ ?_
 refine os_ (still_bld (pl := []) (ds := [_, _, _]) rfl zeroValue37 runUnderlying37 places37_Pa4 trivial rfl rfl) ?_
 refine ot_ 0 [_, _, _] sizeOf37 ?_
 refine om_ ?_
 refine on_ [(2, _), (3, _)] [⟨b2, 37, 3, [_, _, _]⟩, ⟨br, 70, 3, [_, _, _]⟩] ?_
 refine CD.ret ?_
 refine Or.inl ?_
 refine ⟨.inr rfl, _, [⟨br, 70, 3, [.list 3 (l.flatMap cT) l.length, .v (.int .i64 ((p : Nat) : Int)), .v (.slice ad n cap)]⟩], su_, ret_two results76 (res_cells (k := 0) (ds := [_, _, _]) le_ lk rfl rfl isAgg37 sizeOf37 rfl rfl) (res_tmp le_ lk), ?_⟩
 exact ⟨noVl, false, p, fun ops => by unfold litP; rw [if_neg (F_ naf), if_neg (F_ trf), if_neg (F_ faf), dif_neg hk3, if_neg (F_ mif), dif_neg hk2], rfl, rfl⟩

end Go.Proofs.YtjgekbmahhhokaaDoor.Pa

namespace Go.Proofs.YtjgekbmahhhokaaDoor.Pa
open Go.Proofs.Tryd
open Go.RowKit V Pk Go.Proofs.YtjgekbmahhhokaaDoor.Vl Go.Proofs.YtjgekbmahhhokaaDoor.Nm
variable {G : List (Nat × List Value)}
theorem bind_ns {α β : Type} {r : Rs α} {f : α → Nat → List OpL → Rs β} (h : r.bind f ≠ .stuck) : r ≠ .stuck := fun e => h (by rw [e]; rfl)
theorem lit_le {l : List Tk} {p : Nat} {ops : List OpL} {v : Vl × Bool} {q : Nat} {os : List OpL} (h : litP l p ops = .ok v q os) (hp : p ≤ l.length) : os = ops ∧ q ≤ l.length ∧ (v.2 = true → 0 < q) ∧ p ≤ q := by
 unfold litP gv at h
 split at h
 ·have := isQ_lt ‹_›; cases h; exact ⟨rfl, by omega, fun _ => by omega, by omega⟩
 split at h
 ·have := isQ_lt ‹_›; cases h; exact ⟨rfl, by omega, fun _ => by omega, by omega⟩
 split at h
 ·have := isQ_lt ‹_›; cases h; exact ⟨rfl, by omega, fun _ => by omega, by omega⟩
 split at h
 ·have := ‹_ ∧ _›.1; split at h <;> cases h; exact ⟨rfl, by omega, fun _ => by omega, by omega⟩
 split at h
 ·have := isQ_lt ‹_›; split at h
  ·have := ‹_ ∧ _›.1; cases h; exact ⟨rfl, by omega, fun _ => by omega, by omega⟩
  cases h
 split at h
 ·have := ‹_ ∧ _›.1; cases h; exact ⟨rfl, by omega, fun _ => by omega, by omega⟩
 cases h; exact ⟨rfl, hp, fun h => by simp at h, by omega⟩
theorem name_le {l : List Tk} {p q : Nat} {ops os : List OpL} {s : ByteArray} (h : nameP l p ops = .ok s q os) : os = ops ∧ q = p + 1 ∧ p < l.length := by
 unfold nameP gv at h
 split at h
 ·split at h
  ·cases h
  split at h
  ·cases h
  cases h; exact ⟨rfl, rfl, by assumption⟩
 cases h
theorem mark_yes {l : List Tk} {s : ByteArray} {p : Nat} (h : isQ l p 4 s = true) (ops : List OpL) : markP l s p ops = .ok () (p + 1) ops := by unfold markP; rw [if_pos h]
theorem mark_no {l : List Tk} {s : ByteArray} {p : Nat} (h : isQ l p 4 s = false) (ops : List OpL) : markP l s p ops = .no p (if l.length ≤ p then 7 else 6) := by unfold markP; rw [if_neg (by rw [h]; decide)]; rfl
theorem must_le {l : List Tk} : ∀ {ss : List ByteArray} {p q : Nat} {ops os : List OpL}, mustP l ss p ops = .ok () q os → p ≤ l.length → os = ops ∧ q ≤ l.length ∧ p ≤ q
 | [], p, q, ops, os, h, hp => by unfold mustP at h; cases h; exact ⟨rfl, hp, Nat.le_refl _⟩
 | s :: r, p, q, ops, os, h, hp => by
  unfold mustP at h
  split at h
  ·have h1 := isQ_lt ‹_›
   obtain ⟨h2, h3, h4⟩ := must_le h h1
   exact ⟨h2, h3, by omega⟩
  cases h
def EndX (br : Nat) (l : List Tk) (r : Rs Unit) (S : List Blk) : Prop := ∃ p ops, r = .ok () p ops ∧ ops.length ≤ 40 ∧ 0 < p ∧ p ≤ l.length ∧ PS br l p ops S
def PanX {α : Type} (r : Rs α) (ch : List PanicEntry) : Prop := ∃ q e, r = .no q e ∧ ch = wrC q e
def LC (G : List (Nat × List Value)) (br : Nat) (l : List Tk) (f : Nat) (r : Rs Unit) (p : Nat) (ops : List OpL) : Prop := ∀ (ad : Option Addr) (cap : Nat) (So : List Blk), OwnO ops ad cap So → VX Tryd.prog G f [.v (.pointer (some ⟨br, 0, none⟩))] (⟨br, 70, 3, [.list 3 (l.flatMap cT) l.length, .v (.int .i64 ((p : Nat) : Int)), .v (.slice ad ops.length cap)]⟩ :: So) (fun _ S' => EndX br l r S') (PanX r)
structure AllL (G : List (Nat × List Value)) (br : Nat) (l : List Tk) (n : Nat) : Prop where
 prim : ∀ p ops, p ≤ l.length → ops.length ≤ 40 → exP l n .prim p ops ≠ .stuck → LC G br l 116 (exP l n .prim p ops) p ops
 prod : ∀ p ops, p ≤ l.length → ops.length ≤ 40 → exP l n .prod p ops ≠ .stuck → LC G br l 110 (exP l n .prod p ops) p ops
 sum : ∀ p ops, p ≤ l.length → ops.length ≤ 40 → exP l n .sum p ops ≠ .stuck → LC G br l 107 (exP l n .sum p ops) p ops
 comp : ∀ p ops, p ≤ l.length → ops.length ≤ 40 → exP l n .comp p ops ≠ .stuck → LC G br l 103 (exP l n .comp p ops) p ops
 not : ∀ p ops, p ≤ l.length → ops.length ≤ 40 → exP l n .not p ops ≠ .stuck → LC G br l 98 (exP l n .not p ops) p ops
 and : ∀ p ops, p ≤ l.length → ops.length ≤ 40 → exP l n .and p ops ≠ .stuck → LC G br l 90 (exP l n .and p ops) p ops
 or : ∀ p ops, p ≤ l.length → ops.length ≤ 40 → exP l n .or p ops ≠ .stuck → LC G br l 77 (exP l n .or p ops) p ops
theorem LC.stuck {br : Nat} {l : List Tk} {f : Nat} {r : Rs Unit} {p : Nat} {ops : List OpL} (h : ∀ n, (n = 0 → False) → LC G br l f r p ops) (n : Nat) (hn : n = 0 → r = .stuck) (hr : r ≠ .stuck) : LC G br l f r p ops := h n fun e => hr (hn e)

theorem places39_Pa5 : ∀ w, ((#[{ name := "Kind", type := 3, offset := 0, embedded := false, tag := "", pkgPath := "", byteOffset := 0 }, { name := "Value", type := 37, offset := 1, embedded := false, tag := "", pkgPath := "", byteOffset := 8 }, { name := "Name", type := 9, offset := 4, embedded := false, tag := "", pkgPath := "", byteOffset := 40 }] : Array Field).mapM fun f => do pure (f.offset, ← sizeOf f.type) : Sem (Array (Nat × Nat))).run Tryd.prog w = .ok #[(0, 1), (1, 3), (4, 1)] w := fun w => by simp [sizeOf3, sizeOf37, sizeOf9]

theorem prod_x {br : Nat} {l : List Tk} (hl : l.length ≤ 100) {n : Nat} (ih : ∀ m, m ≤ n → AllL G br l m) (p : Nat) (ops : List OpL) (hp : p ≤ l.length) (h40 : ops.length ≤ 40) (R : Rs Unit) (hR : R = exP l (n + 1) .prod p ops) (hns : R ≠ .stuck) (ad : Option Addr) (cap : Nat) (So : List Blk) (ho : OwnO ops ad cap So) : VX Tryd.prog G 110 [.v (.pointer (some ⟨br, 0, none⟩))] (⟨br, 70, 3, [.list 3 (l.flatMap cT) l.length, .v (.int .i64 ((p : Nat) : Int)), .v (.slice ad ops.length cap)]⟩ :: So) (fun _ S' => EndX br l R S') (PanX R) := by
 refine VX.body func110 rfl ntmps110 le_ fun X0 w0 S00 => ?_
 refine CD.seq ?_
 have hR0 : R = (exP l n .prim p ops).bind (fun _ p ops => exP l n .prodL p ops) := hR.trans (by rw [exP])
 refine CD.region ?_
 refine om_ ?_
 have hs1 : exP l n .prim p ops ≠ .stuck := bind_ns (f := fun _ p ops => exP l n .prodL p ops) (by rw [hR0] at hns; exact hns)
 refine OD.callX wp_ rfl rfl rfl call116 ((ih _ (by omega)).prim p ops hp h40 hs1 ad cap So ho) ⟨ot, trivial⟩ (perm_all _) (fun ch hch => (Or.inr ⟨ch, rfl, by obtain ⟨q, e, h1, h2⟩ := hch; exact ⟨q, e, hR0.trans (by rw [h1]; rfl), h2⟩⟩ : BodyX _ _ _ _ _ _)) ?_
 rintro _ _ ⟨p1, o1, hr1, hq1, h01, hp1, ad1, cap1, So1, ho1, rfl⟩
 refine OD.perm (S' := ⟨br, 70, 3, [.list 3 (l.flatMap cT) l.length, .v (.int .i64 ((p1 : Nat) : Int)), .v (.slice ad1 o1.length cap1)]⟩ :: So1) (perm_all _).symm ?_
 have hR1 : R = exP l n .prodL p1 o1 := hR0.trans (by rw [hr1]; rfl)
 refine OD.wk (Wk.as_ (n := 11) (l' := [(0, _)]) (S' := (⟨br, 70, 3, [_, _, _]⟩ :: So1)) rfl rfl sl_) ?_
 refine OD.nil ?_
 refine CD.block ?_
 refine lp_ (fun (gh__ : Nat × Nat × List OpL × Option Addr × Nat × List Blk) y__ => match gh__ with | (m, q, os, ad, cap, So) => (m ≤ n) ∧ (R = exP l m .prodL q os) ∧ (os.length ≤ 40) ∧ (0 < q) ∧ (q ≤ l.length) ∧ (OwnO os ad cap So) ∧ y__ = (⟨11, [(0, .v (.pointer (some ⟨br, 0, none⟩)))], (⟨br, 70, 3, [.list 3 (l.flatMap cT) l.length, .v (.int .i64 ((q : Nat) : Int)), .v (.slice ad os.length cap)]⟩ :: So)⟩ : St)) (fun (gh__ : Nat × Nat × List OpL × Option Addr × Nat × List Blk) => match gh__ with | (m, q, os, ad, cap, So) => m) (n, p1, o1, ad1, cap1, So1) ⟨(Nat.le_refl _), hR1, hq1, h01, hp1, ho1, rfl⟩ (Wk.asS rfl (List.Sublist.refl _) sq_) ?_
 rintro ⟨m, q, os, ad, cap, So⟩ _ ⟨hmn, hRl, hql, h0l, hpl, hol, rfl⟩
 rcases m with _ | m
 ·exact absurd hRl hns
 refine CD.seq ?_
 refine sr_ ?_
 refine om_ ?_
 refine OD.call wp_ rfl rfl rfl call43 (eat_vc l hl q 4 ⟨#[42]⟩ ad os.length cap br) ⟨ot, opd_const, opd_const, trivial⟩ (List.Perm.refl _) ?_
 rintro _ _ ⟨rfl, rfl⟩
 refine OD.perm (S' := ⟨br, 70, 3, [.list 3 (l.flatMap cT) l.length, .v (.int .i64 (((if isQ l q 4 ⟨#[42]⟩ = true then q + 1 else q) : Nat) : Int)), .v (.slice ad os.length cap)]⟩ :: So) (List.Perm.refl _) ?_
 refine OD.wk (Wk.as_ (n := 11) (l' := [(0, _), (5, _)]) (S' := (⟨br, 70, 3, [_, _, _]⟩ :: So)) rfl rfl sl_) ?_
 refine OD.nil ?_
 refine CD.cond ot (fun hc0 => ?_) (fun hc0 => ?_)
 ·have hc0' := hc0
  (try simp only [V.cnd, ne_eq] at hc0')
  have e0t : isQ l q 4 ⟨#[42]⟩ = true := hc0
  rw [e0t]
  simp only [if_true]
  have hR2 : R = (exP l m .prim (q + 1) os).bind (fun _ p ops => (putP l (opN 10) p ops).bind fun _ p ops => exP l m .prodL p ops) := hRl.trans (by rw [exP, if_pos e0t])
  refine CD.skip ?_
  refine CD.block ?_
  refine sr_ ?_
  refine om_ ?_
  have hs3 : exP l m .prim (q + 1) os ≠ .stuck := bind_ns (f := fun _ p ops => (putP l (opN 10) p ops).bind fun _ p ops => exP l m .prodL p ops) (by rw [hR2] at hns; exact hns)
  refine OD.callX wp_ rfl rfl rfl call116 ((ih _ (by omega)).prim (q + 1) os (isQ_lt e0t) hql hs3 ad cap So hol) ⟨ot, trivial⟩ (perm_all _) (fun ch hch => (Or.inr ⟨ch, rfl, by obtain ⟨q, e, h1, h2⟩ := hch; exact ⟨q, e, hR2.trans (by rw [h1]; rfl), h2⟩⟩ : BodyX _ _ _ _ _ _)) ?_
  rintro _ _ ⟨p3, o3, hr3, hq3, h03, hp3, ad3, cap3, So3, ho3, rfl⟩
  refine OD.perm (S' := ⟨br, 70, 3, [.list 3 (l.flatMap cT) l.length, .v (.int .i64 ((p3 : Nat) : Int)), .v (.slice ad3 o3.length cap3)]⟩ :: So3) (perm_all _).symm ?_
  have hR3 : R = (putP l (opN 10) p3 o3).bind fun _ p ops => exP l m .prodL p ops := hR2.trans (by rw [hr3]; rfl)
  refine OD.wk (Wk.as_ (n := 11) (l' := [(0, _)]) (S' := (⟨br, 70, 3, [_, _, _]⟩ :: So3)) rfl rfl sl_) ?_
  refine OD.nil ?_
  refine CD.region ?_
  refine om_ ?_
  refine os_ (still_bld (pl := [(0, _)]) (ds := [_, _, _, _, _]) rfl zeroValue39 runUnderlying39 places39_Pa5 ⟨rfl, opd_const, trivial⟩ rfl rfl) ?_
  refine OD.callX wp_ rfl rfl rfl call91 (put_vx l hl (opN 10) p3 h03 (Nat.le_trans hp3 (by omega)) o3 hq3 ad3 cap3 br So3 ho3) ⟨ot, ot, trivial⟩ (perm_all _) (fun ch hch => (Or.inr ⟨ch, rfl, by obtain ⟨q, e, h1, h2⟩ := hch; exact ⟨q, e, hR3.trans (by rw [h1]; rfl), h2⟩⟩ : BodyX _ _ _ _ _ _)) ?_
  rintro _ _ ⟨o4, hr4, hq4, ad4, cap4, So4, ho4, rfl⟩
  refine OD.perm (S' := ⟨br, 70, 3, [.list 3 (l.flatMap cT) l.length, .v (.int .i64 ((p3 : Nat) : Int)), .v (.slice ad4 o4.length cap4)]⟩ :: So4) (perm_all _).symm ?_
  have hR4 : R = exP l m .prodL p3 o4 := hR3.trans (by rw [hr4]; rfl)
  refine OD.wk (Wk.as_ (n := 11) (l' := [(0, _)]) (S' := (⟨br, 70, 3, [_, _, _]⟩ :: So4)) rfl rfl sl_) ?_
  refine OD.nil ?_
  refine ⟨(m, p3, o4, ad4, cap4, So4), _, ?_, ?_, (by omega), hR4, hq4, h03, hp3, ho4, rfl⟩
  ·first | omega | (simp only []; omega)
  exact Wk.asS (n := 11) rfl (List.Sublist.refl _) sq_
 have hc0' := hc0
 (try simp only [V.cnd, ne_eq] at hc0')
 have e0f : isQ l q 4 ⟨#[42]⟩ = false := hc0
 rw [e0f]
 simp only [Bool.false_eq_true, if_false]
 have hR5 : R = .ok () q os := hRl.trans (by rw [exP, if_neg (F_ e0f)])
 refine CD.exit ?_
 refine Or.inl ?_
 refine ⟨.inl rfl, _, ⟨br, 70, 3, [.list 3 (l.flatMap cT) l.length, .v (.int .i64 ((q : Nat) : Int)), .v (.slice ad os.length cap)]⟩ :: So, su_, ret_none results110 , ?_⟩
 exact ⟨q, os, hR5, hql, h0l, hpl, ad, cap, So, hol, rfl⟩

theorem sum_x {br : Nat} {l : List Tk} (hl : l.length ≤ 100) {n : Nat} (ih : ∀ m, m ≤ n → AllL G br l m) (p : Nat) (ops : List OpL) (hp : p ≤ l.length) (h40 : ops.length ≤ 40) (R : Rs Unit) (hR : R = exP l (n + 1) .sum p ops) (hns : R ≠ .stuck) (ad : Option Addr) (cap : Nat) (So : List Blk) (ho : OwnO ops ad cap So) : VX Tryd.prog G 107 [.v (.pointer (some ⟨br, 0, none⟩))] (⟨br, 70, 3, [.list 3 (l.flatMap cT) l.length, .v (.int .i64 ((p : Nat) : Int)), .v (.slice ad ops.length cap)]⟩ :: So) (fun _ S' => EndX br l R S') (PanX R) := by
 refine VX.body func107 rfl ntmps107 le_ fun X0 w0 S00 => ?_
 refine CD.seq ?_
 have hR0 : R = (exP l n .prod p ops).bind (fun _ p ops => exP l n .sumL p ops) := hR.trans (by rw [exP])
 refine CD.region ?_
 refine om_ ?_
 have hs1 : exP l n .prod p ops ≠ .stuck := bind_ns (f := fun _ p ops => exP l n .sumL p ops) (by rw [hR0] at hns; exact hns)
 refine OD.callX wp_ rfl rfl rfl call110 ((ih _ (by omega)).prod p ops hp h40 hs1 ad cap So ho) ⟨ot, trivial⟩ (perm_all _) (fun ch hch => (Or.inr ⟨ch, rfl, by obtain ⟨q, e, h1, h2⟩ := hch; exact ⟨q, e, hR0.trans (by rw [h1]; rfl), h2⟩⟩ : BodyX _ _ _ _ _ _)) ?_
 rintro _ _ ⟨p1, o1, hr1, hq1, h01, hp1, ad1, cap1, So1, ho1, rfl⟩
 refine OD.perm (S' := ⟨br, 70, 3, [.list 3 (l.flatMap cT) l.length, .v (.int .i64 ((p1 : Nat) : Int)), .v (.slice ad1 o1.length cap1)]⟩ :: So1) (perm_all _).symm ?_
 have hR1 : R = exP l n .sumL p1 o1 := hR0.trans (by rw [hr1]; rfl)
 refine OD.wk (Wk.as_ (n := 20) (l' := [(0, _)]) (S' := (⟨br, 70, 3, [_, _, _]⟩ :: So1)) rfl rfl sl_) ?_
 refine OD.nil ?_
 refine CD.block ?_
 refine lp_ (fun (gh__ : Nat × Nat × List OpL × Option Addr × Nat × List Blk) y__ => match gh__ with | (m, q, os, ad, cap, So) => (m ≤ n) ∧ (R = exP l m .sumL q os) ∧ (os.length ≤ 40) ∧ (0 < q) ∧ (q ≤ l.length) ∧ (OwnO os ad cap So) ∧ y__ = (⟨20, [(0, .v (.pointer (some ⟨br, 0, none⟩)))], (⟨br, 70, 3, [.list 3 (l.flatMap cT) l.length, .v (.int .i64 ((q : Nat) : Int)), .v (.slice ad os.length cap)]⟩ :: So)⟩ : St)) (fun (gh__ : Nat × Nat × List OpL × Option Addr × Nat × List Blk) => match gh__ with | (m, q, os, ad, cap, So) => m) (n, p1, o1, ad1, cap1, So1) ⟨(Nat.le_refl _), hR1, hq1, h01, hp1, ho1, rfl⟩ (Wk.asS rfl (List.Sublist.refl _) sq_) ?_
 rintro ⟨m, q, os, ad, cap, So⟩ _ ⟨hmn, hRl, hql, h0l, hpl, hol, rfl⟩
 rcases m with _ | m
 ·exact absurd hRl hns
 refine CD.block ?_
 refine CD.block ?_
 refine sr_ ?_
 refine om_ ?_
 refine OD.call wp_ rfl rfl rfl call43 (eat_vc l hl q 4 ⟨#[43]⟩ ad os.length cap br) ⟨ot, opd_const, opd_const, trivial⟩ (List.Perm.refl _) ?_
 rintro _ _ ⟨rfl, rfl⟩
 refine OD.perm (S' := ⟨br, 70, 3, [.list 3 (l.flatMap cT) l.length, .v (.int .i64 (((if isQ l q 4 ⟨#[43]⟩ = true then q + 1 else q) : Nat) : Int)), .v (.slice ad os.length cap)]⟩ :: So) (List.Perm.refl _) ?_
 refine om_ ?_
 refine OD.wk (Wk.as_ (n := 20) (l' := [(0, _), (4, _)]) (S' := (⟨br, 70, 3, [_, _, _]⟩ :: So)) rfl rfl sl_) ?_
 refine OD.nil ?_
 refine CD.cond ot (fun hc0 => ?_) (fun hc0 => ?_)
 ·have hc0' := hc0
  (try simp only [V.cnd, ne_eq] at hc0')
  have e0t : isQ l q 4 ⟨#[43]⟩ = true := hc0
  rw [e0t]
  simp only [if_true]
  have hR2 : R = (exP l m .prod (q + 1) os).bind (fun _ p ops => (putP l (opN 8) p ops).bind fun _ p ops => exP l m .sumL p ops) := hRl.trans (by rw [exP, if_pos e0t])
  refine sr_ ?_
  refine om_ ?_
  have hs3 : exP l m .prod (q + 1) os ≠ .stuck := bind_ns (f := fun _ p ops => (putP l (opN 8) p ops).bind fun _ p ops => exP l m .sumL p ops) (by rw [hR2] at hns; exact hns)
  refine OD.callX wp_ rfl rfl rfl call110 ((ih _ (by omega)).prod (q + 1) os (isQ_lt e0t) hql hs3 ad cap So hol) ⟨ot, trivial⟩ (perm_all _) (fun ch hch => (Or.inr ⟨ch, rfl, by obtain ⟨q, e, h1, h2⟩ := hch; exact ⟨q, e, hR2.trans (by rw [h1]; rfl), h2⟩⟩ : BodyX _ _ _ _ _ _)) ?_
  rintro _ _ ⟨p3, o3, hr3, hq3, h03, hp3, ad3, cap3, So3, ho3, rfl⟩
  refine OD.perm (S' := ⟨br, 70, 3, [.list 3 (l.flatMap cT) l.length, .v (.int .i64 ((p3 : Nat) : Int)), .v (.slice ad3 o3.length cap3)]⟩ :: So3) (perm_all _).symm ?_
  have hR3 : R = (putP l (opN 8) p3 o3).bind fun _ p ops => exP l m .sumL p ops := hR2.trans (by rw [hr3]; rfl)
  refine OD.wk (Wk.as_ (n := 20) (l' := [(0, _)]) (S' := (⟨br, 70, 3, [_, _, _]⟩ :: So3)) rfl rfl sl_) ?_
  refine OD.nil ?_
  refine CD.region ?_
  refine om_ ?_
  refine os_ (still_bld (pl := [(0, _)]) (ds := [_, _, _, _, _]) rfl zeroValue39 runUnderlying39 places39_Pa5 ⟨rfl, opd_const, trivial⟩ rfl rfl) ?_
  refine OD.callX wp_ rfl rfl rfl call91 (put_vx l hl (opN 8) p3 h03 (Nat.le_trans hp3 (by omega)) o3 hq3 ad3 cap3 br So3 ho3) ⟨ot, ot, trivial⟩ (perm_all _) (fun ch hch => (Or.inr ⟨ch, rfl, by obtain ⟨q, e, h1, h2⟩ := hch; exact ⟨q, e, hR3.trans (by rw [h1]; rfl), h2⟩⟩ : BodyX _ _ _ _ _ _)) ?_
  rintro _ _ ⟨o4, hr4, hq4, ad4, cap4, So4, ho4, rfl⟩
  refine OD.perm (S' := ⟨br, 70, 3, [.list 3 (l.flatMap cT) l.length, .v (.int .i64 ((p3 : Nat) : Int)), .v (.slice ad4 o4.length cap4)]⟩ :: So4) (perm_all _).symm ?_
  have hR4 : R = exP l m .sumL p3 o4 := hR3.trans (by rw [hr4]; rfl)
  refine OD.wk (Wk.as_ (n := 20) (l' := [(0, _)]) (S' := (⟨br, 70, 3, [_, _, _]⟩ :: So4)) rfl rfl sl_) ?_
  refine OD.nil ?_
  refine ⟨(m, p3, o4, ad4, cap4, So4), _, ?_, ?_, (by omega), hR4, hq4, h03, hp3, ho4, rfl⟩
  ·first | omega | (simp only []; omega)
  exact Wk.asS (n := 20) rfl (List.Sublist.refl _) sq_
 have hc0' := hc0
 (try simp only [V.cnd, ne_eq] at hc0')
 have e0f : isQ l q 4 ⟨#[43]⟩ = false := hc0
 rw [e0f]
 simp only [Bool.false_eq_true, if_false]
 refine sr_ ?_
 refine om_ ?_
 refine OD.call wp_ rfl rfl rfl call43 (eat_vc l hl q 4 ⟨#[45]⟩ ad os.length cap br) ⟨ot, opd_const, opd_const, trivial⟩ (List.Perm.refl _) ?_
 rintro _ _ ⟨rfl, rfl⟩
 refine OD.perm (S' := ⟨br, 70, 3, [.list 3 (l.flatMap cT) l.length, .v (.int .i64 (((if isQ l q 4 ⟨#[45]⟩ = true then q + 1 else q) : Nat) : Int)), .v (.slice ad os.length cap)]⟩ :: So) (List.Perm.refl _) ?_
 refine om_ ?_
 refine OD.wk (Wk.as_ (n := 20) (l' := [(0, _), (12, _)]) (S' := (⟨br, 70, 3, [_, _, _]⟩ :: So)) rfl rfl sl_) ?_
 refine OD.nil ?_
 refine CD.cond ot (fun hc1 => ?_) (fun hc1 => ?_)
 ·have hc1' := hc1
  (try simp only [V.cnd, ne_eq] at hc1')
  have e1t : isQ l q 4 ⟨#[45]⟩ = true := hc1
  rw [e1t]
  simp only [if_true]
  have hR5 : R = (exP l m .prod (q + 1) os).bind (fun _ p ops => (putP l (opN 9) p ops).bind fun _ p ops => exP l m .sumL p ops) := hRl.trans (by rw [exP, if_neg (F_ e0f), if_pos e1t])
  refine sr_ ?_
  refine om_ ?_
  have hs6 : exP l m .prod (q + 1) os ≠ .stuck := bind_ns (f := fun _ p ops => (putP l (opN 9) p ops).bind fun _ p ops => exP l m .sumL p ops) (by rw [hR5] at hns; exact hns)
  refine OD.callX wp_ rfl rfl rfl call110 ((ih _ (by omega)).prod (q + 1) os (isQ_lt e1t) hql hs6 ad cap So hol) ⟨ot, trivial⟩ (perm_all _) (fun ch hch => (Or.inr ⟨ch, rfl, by obtain ⟨q, e, h1, h2⟩ := hch; exact ⟨q, e, hR5.trans (by rw [h1]; rfl), h2⟩⟩ : BodyX _ _ _ _ _ _)) ?_
  rintro _ _ ⟨p6, o6, hr6, hq6, h06, hp6, ad6, cap6, So6, ho6, rfl⟩
  refine OD.perm (S' := ⟨br, 70, 3, [.list 3 (l.flatMap cT) l.length, .v (.int .i64 ((p6 : Nat) : Int)), .v (.slice ad6 o6.length cap6)]⟩ :: So6) (perm_all _).symm ?_
  have hR6 : R = (putP l (opN 9) p6 o6).bind fun _ p ops => exP l m .sumL p ops := hR5.trans (by rw [hr6]; rfl)
  refine OD.wk (Wk.as_ (n := 20) (l' := [(0, _)]) (S' := (⟨br, 70, 3, [_, _, _]⟩ :: So6)) rfl rfl sl_) ?_
  refine OD.nil ?_
  refine CD.region ?_
  refine om_ ?_
  refine os_ (still_bld (pl := [(0, _)]) (ds := [_, _, _, _, _]) rfl zeroValue39 runUnderlying39 places39_Pa5 ⟨rfl, opd_const, trivial⟩ rfl rfl) ?_
  refine OD.callX wp_ rfl rfl rfl call91 (put_vx l hl (opN 9) p6 h06 (Nat.le_trans hp6 (by omega)) o6 hq6 ad6 cap6 br So6 ho6) ⟨ot, ot, trivial⟩ (perm_all _) (fun ch hch => (Or.inr ⟨ch, rfl, by obtain ⟨q, e, h1, h2⟩ := hch; exact ⟨q, e, hR6.trans (by rw [h1]; rfl), h2⟩⟩ : BodyX _ _ _ _ _ _)) ?_
  rintro _ _ ⟨o7, hr7, hq7, ad7, cap7, So7, ho7, rfl⟩
  refine OD.perm (S' := ⟨br, 70, 3, [.list 3 (l.flatMap cT) l.length, .v (.int .i64 ((p6 : Nat) : Int)), .v (.slice ad7 o7.length cap7)]⟩ :: So7) (perm_all _).symm ?_
  have hR7 : R = exP l m .sumL p6 o7 := hR6.trans (by rw [hr7]; rfl)
  refine OD.wk (Wk.as_ (n := 20) (l' := [(0, _)]) (S' := (⟨br, 70, 3, [_, _, _]⟩ :: So7)) rfl rfl sl_) ?_
  refine OD.nil ?_
  refine ⟨(m, p6, o7, ad7, cap7, So7), _, ?_, ?_, (by omega), hR7, hq7, h06, hp6, ho7, rfl⟩
  ·first | omega | (simp only []; omega)
  exact Wk.asS (n := 20) rfl (List.Sublist.refl _) sq_
 have hc1' := hc1
 (try simp only [V.cnd, ne_eq] at hc1')
 have e1f : isQ l q 4 ⟨#[45]⟩ = false := hc1
 rw [e1f]
 simp only [Bool.false_eq_true, if_false]
 have hR8 : R = .ok () q os := hRl.trans (by rw [exP, if_neg (F_ e0f), if_neg (F_ e1f)])
 refine CD.ret ?_
 refine Or.inl ?_
 refine ⟨.inr rfl, _, ⟨br, 70, 3, [.list 3 (l.flatMap cT) l.length, .v (.int .i64 ((q : Nat) : Int)), .v (.slice ad os.length cap)]⟩ :: So, su_, ret_none results107 , ?_⟩
 exact ⟨q, os, hR8, hql, h0l, hpl, ad, cap, So, hol, rfl⟩

theorem and_x {br : Nat} {l : List Tk} (hl : l.length ≤ 100) {n : Nat} (ih : ∀ m, m ≤ n → AllL G br l m) (p : Nat) (ops : List OpL) (hp : p ≤ l.length) (h40 : ops.length ≤ 40) (R : Rs Unit) (hR : R = exP l (n + 1) .and p ops) (hns : R ≠ .stuck) (ad : Option Addr) (cap : Nat) (So : List Blk) (ho : OwnO ops ad cap So) : VX Tryd.prog G 90 [.v (.pointer (some ⟨br, 0, none⟩))] (⟨br, 70, 3, [.list 3 (l.flatMap cT) l.length, .v (.int .i64 ((p : Nat) : Int)), .v (.slice ad ops.length cap)]⟩ :: So) (fun _ S' => EndX br l R S') (PanX R) := by
 refine VX.body func90 rfl ntmps90 le_ fun X0 w0 S00 => ?_
 refine CD.seq ?_
 have hR0 : R = (exP l n .not p ops).bind (fun _ p ops => exP l n .andL p ops) := hR.trans (by rw [exP])
 refine CD.region ?_
 refine om_ ?_
 have hs1 : exP l n .not p ops ≠ .stuck := bind_ns (f := fun _ p ops => exP l n .andL p ops) (by rw [hR0] at hns; exact hns)
 refine OD.callX wp_ rfl rfl rfl call98 ((ih _ (by omega)).not p ops hp h40 hs1 ad cap So ho) ⟨ot, trivial⟩ (perm_all _) (fun ch hch => (Or.inr ⟨ch, rfl, by obtain ⟨q, e, h1, h2⟩ := hch; exact ⟨q, e, hR0.trans (by rw [h1]; rfl), h2⟩⟩ : BodyX _ _ _ _ _ _)) ?_
 rintro _ _ ⟨p1, o1, hr1, hq1, h01, hp1, ad1, cap1, So1, ho1, rfl⟩
 refine OD.perm (S' := ⟨br, 70, 3, [.list 3 (l.flatMap cT) l.length, .v (.int .i64 ((p1 : Nat) : Int)), .v (.slice ad1 o1.length cap1)]⟩ :: So1) (perm_all _).symm ?_
 have hR1 : R = exP l n .andL p1 o1 := hR0.trans (by rw [hr1]; rfl)
 refine OD.wk (Wk.as_ (n := 11) (l' := [(0, _)]) (S' := (⟨br, 70, 3, [_, _, _]⟩ :: So1)) rfl rfl sl_) ?_
 refine OD.nil ?_
 refine CD.block ?_
 refine lp_ (fun (gh__ : Nat × Nat × List OpL × Option Addr × Nat × List Blk) y__ => match gh__ with | (m, q, os, ad, cap, So) => (m ≤ n) ∧ (R = exP l m .andL q os) ∧ (os.length ≤ 40) ∧ (0 < q) ∧ (q ≤ l.length) ∧ (OwnO os ad cap So) ∧ y__ = (⟨11, [(0, .v (.pointer (some ⟨br, 0, none⟩)))], (⟨br, 70, 3, [.list 3 (l.flatMap cT) l.length, .v (.int .i64 ((q : Nat) : Int)), .v (.slice ad os.length cap)]⟩ :: So)⟩ : St)) (fun (gh__ : Nat × Nat × List OpL × Option Addr × Nat × List Blk) => match gh__ with | (m, q, os, ad, cap, So) => m) (n, p1, o1, ad1, cap1, So1) ⟨(Nat.le_refl _), hR1, hq1, h01, hp1, ho1, rfl⟩ (Wk.asS rfl (List.Sublist.refl _) sq_) ?_
 rintro ⟨m, q, os, ad, cap, So⟩ _ ⟨hmn, hRl, hql, h0l, hpl, hol, rfl⟩
 rcases m with _ | m
 ·exact absurd hRl hns
 refine CD.seq ?_
 refine sr_ ?_
 refine om_ ?_
 refine OD.call wp_ rfl rfl rfl call43 (eat_vc l hl q 1 ⟨#[65, 78, 68]⟩ ad os.length cap br) ⟨ot, opd_const, opd_const, trivial⟩ (List.Perm.refl _) ?_
 rintro _ _ ⟨rfl, rfl⟩
 refine OD.perm (S' := ⟨br, 70, 3, [.list 3 (l.flatMap cT) l.length, .v (.int .i64 (((if isQ l q 1 ⟨#[65, 78, 68]⟩ = true then q + 1 else q) : Nat) : Int)), .v (.slice ad os.length cap)]⟩ :: So) (List.Perm.refl _) ?_
 refine OD.wk (Wk.as_ (n := 11) (l' := [(0, _), (5, _)]) (S' := (⟨br, 70, 3, [_, _, _]⟩ :: So)) rfl rfl sl_) ?_
 refine OD.nil ?_
 refine CD.cond ot (fun hc0 => ?_) (fun hc0 => ?_)
 ·have hc0' := hc0
  (try simp only [V.cnd, ne_eq] at hc0')
  have e0t : isQ l q 1 ⟨#[65, 78, 68]⟩ = true := hc0
  rw [e0t]
  simp only [if_true]
  have hR2 : R = (exP l m .not (q + 1) os).bind (fun _ p ops => (putP l (opN 3) p ops).bind fun _ p ops => exP l m .andL p ops) := hRl.trans (by rw [exP, if_pos e0t])
  refine CD.skip ?_
  refine CD.block ?_
  refine sr_ ?_
  refine om_ ?_
  have hs3 : exP l m .not (q + 1) os ≠ .stuck := bind_ns (f := fun _ p ops => (putP l (opN 3) p ops).bind fun _ p ops => exP l m .andL p ops) (by rw [hR2] at hns; exact hns)
  refine OD.callX wp_ rfl rfl rfl call98 ((ih _ (by omega)).not (q + 1) os (isQ_lt e0t) hql hs3 ad cap So hol) ⟨ot, trivial⟩ (perm_all _) (fun ch hch => (Or.inr ⟨ch, rfl, by obtain ⟨q, e, h1, h2⟩ := hch; exact ⟨q, e, hR2.trans (by rw [h1]; rfl), h2⟩⟩ : BodyX _ _ _ _ _ _)) ?_
  rintro _ _ ⟨p3, o3, hr3, hq3, h03, hp3, ad3, cap3, So3, ho3, rfl⟩
  refine OD.perm (S' := ⟨br, 70, 3, [.list 3 (l.flatMap cT) l.length, .v (.int .i64 ((p3 : Nat) : Int)), .v (.slice ad3 o3.length cap3)]⟩ :: So3) (perm_all _).symm ?_
  have hR3 : R = (putP l (opN 3) p3 o3).bind fun _ p ops => exP l m .andL p ops := hR2.trans (by rw [hr3]; rfl)
  refine OD.wk (Wk.as_ (n := 11) (l' := [(0, _)]) (S' := (⟨br, 70, 3, [_, _, _]⟩ :: So3)) rfl rfl sl_) ?_
  refine OD.nil ?_
  refine CD.region ?_
  refine om_ ?_
  refine os_ (still_bld (pl := [(0, _)]) (ds := [_, _, _, _, _]) rfl zeroValue39 runUnderlying39 places39_Pa5 ⟨rfl, opd_const, trivial⟩ rfl rfl) ?_
  refine OD.callX wp_ rfl rfl rfl call91 (put_vx l hl (opN 3) p3 h03 (Nat.le_trans hp3 (by omega)) o3 hq3 ad3 cap3 br So3 ho3) ⟨ot, ot, trivial⟩ (perm_all _) (fun ch hch => (Or.inr ⟨ch, rfl, by obtain ⟨q, e, h1, h2⟩ := hch; exact ⟨q, e, hR3.trans (by rw [h1]; rfl), h2⟩⟩ : BodyX _ _ _ _ _ _)) ?_
  rintro _ _ ⟨o4, hr4, hq4, ad4, cap4, So4, ho4, rfl⟩
  refine OD.perm (S' := ⟨br, 70, 3, [.list 3 (l.flatMap cT) l.length, .v (.int .i64 ((p3 : Nat) : Int)), .v (.slice ad4 o4.length cap4)]⟩ :: So4) (perm_all _).symm ?_
  have hR4 : R = exP l m .andL p3 o4 := hR3.trans (by rw [hr4]; rfl)
  refine OD.wk (Wk.as_ (n := 11) (l' := [(0, _)]) (S' := (⟨br, 70, 3, [_, _, _]⟩ :: So4)) rfl rfl sl_) ?_
  refine OD.nil ?_
  refine ⟨(m, p3, o4, ad4, cap4, So4), _, ?_, ?_, (by omega), hR4, hq4, h03, hp3, ho4, rfl⟩
  ·first | omega | (simp only []; omega)
  exact Wk.asS (n := 11) rfl (List.Sublist.refl _) sq_
 have hc0' := hc0
 (try simp only [V.cnd, ne_eq] at hc0')
 have e0f : isQ l q 1 ⟨#[65, 78, 68]⟩ = false := hc0
 rw [e0f]
 simp only [Bool.false_eq_true, if_false]
 have hR5 : R = .ok () q os := hRl.trans (by rw [exP, if_neg (F_ e0f)])
 refine CD.exit ?_
 refine Or.inl ?_
 refine ⟨.inl rfl, _, ⟨br, 70, 3, [.list 3 (l.flatMap cT) l.length, .v (.int .i64 ((q : Nat) : Int)), .v (.slice ad os.length cap)]⟩ :: So, su_, ret_none results90 , ?_⟩
 exact ⟨q, os, hR5, hql, h0l, hpl, ad, cap, So, hol, rfl⟩

theorem or_x {br : Nat} {l : List Tk} (hl : l.length ≤ 100) {n : Nat} (ih : ∀ m, m ≤ n → AllL G br l m) (p : Nat) (ops : List OpL) (hp : p ≤ l.length) (h40 : ops.length ≤ 40) (R : Rs Unit) (hR : R = exP l (n + 1) .or p ops) (hns : R ≠ .stuck) (ad : Option Addr) (cap : Nat) (So : List Blk) (ho : OwnO ops ad cap So) : VX Tryd.prog G 77 [.v (.pointer (some ⟨br, 0, none⟩))] (⟨br, 70, 3, [.list 3 (l.flatMap cT) l.length, .v (.int .i64 ((p : Nat) : Int)), .v (.slice ad ops.length cap)]⟩ :: So) (fun _ S' => EndX br l R S') (PanX R) := by
 refine VX.body func77 rfl ntmps77 le_ fun X0 w0 S00 => ?_
 refine CD.seq ?_
 have hR0 : R = (exP l n .and p ops).bind (fun _ p ops => exP l n .orL p ops) := hR.trans (by rw [exP])
 refine CD.region ?_
 refine om_ ?_
 have hs1 : exP l n .and p ops ≠ .stuck := bind_ns (f := fun _ p ops => exP l n .orL p ops) (by rw [hR0] at hns; exact hns)
 refine OD.callX wp_ rfl rfl rfl call90 ((ih _ (by omega)).and p ops hp h40 hs1 ad cap So ho) ⟨ot, trivial⟩ (perm_all _) (fun ch hch => (Or.inr ⟨ch, rfl, by obtain ⟨q, e, h1, h2⟩ := hch; exact ⟨q, e, hR0.trans (by rw [h1]; rfl), h2⟩⟩ : BodyX _ _ _ _ _ _)) ?_
 rintro _ _ ⟨p1, o1, hr1, hq1, h01, hp1, ad1, cap1, So1, ho1, rfl⟩
 refine OD.perm (S' := ⟨br, 70, 3, [.list 3 (l.flatMap cT) l.length, .v (.int .i64 ((p1 : Nat) : Int)), .v (.slice ad1 o1.length cap1)]⟩ :: So1) (perm_all _).symm ?_
 have hR1 : R = exP l n .orL p1 o1 := hR0.trans (by rw [hr1]; rfl)
 refine OD.wk (Wk.as_ (n := 11) (l' := [(0, _)]) (S' := (⟨br, 70, 3, [_, _, _]⟩ :: So1)) rfl rfl sl_) ?_
 refine OD.nil ?_
 refine CD.block ?_
 refine lp_ (fun (gh__ : Nat × Nat × List OpL × Option Addr × Nat × List Blk) y__ => match gh__ with | (m, q, os, ad, cap, So) => (m ≤ n) ∧ (R = exP l m .orL q os) ∧ (os.length ≤ 40) ∧ (0 < q) ∧ (q ≤ l.length) ∧ (OwnO os ad cap So) ∧ y__ = (⟨11, [(0, .v (.pointer (some ⟨br, 0, none⟩)))], (⟨br, 70, 3, [.list 3 (l.flatMap cT) l.length, .v (.int .i64 ((q : Nat) : Int)), .v (.slice ad os.length cap)]⟩ :: So)⟩ : St)) (fun (gh__ : Nat × Nat × List OpL × Option Addr × Nat × List Blk) => match gh__ with | (m, q, os, ad, cap, So) => m) (n, p1, o1, ad1, cap1, So1) ⟨(Nat.le_refl _), hR1, hq1, h01, hp1, ho1, rfl⟩ (Wk.asS rfl (List.Sublist.refl _) sq_) ?_
 rintro ⟨m, q, os, ad, cap, So⟩ _ ⟨hmn, hRl, hql, h0l, hpl, hol, rfl⟩
 rcases m with _ | m
 ·exact absurd hRl hns
 refine CD.seq ?_
 refine sr_ ?_
 refine om_ ?_
 refine OD.call wp_ rfl rfl rfl call43 (eat_vc l hl q 1 ⟨#[79, 82]⟩ ad os.length cap br) ⟨ot, opd_const, opd_const, trivial⟩ (List.Perm.refl _) ?_
 rintro _ _ ⟨rfl, rfl⟩
 refine OD.perm (S' := ⟨br, 70, 3, [.list 3 (l.flatMap cT) l.length, .v (.int .i64 (((if isQ l q 1 ⟨#[79, 82]⟩ = true then q + 1 else q) : Nat) : Int)), .v (.slice ad os.length cap)]⟩ :: So) (List.Perm.refl _) ?_
 refine OD.wk (Wk.as_ (n := 11) (l' := [(0, _), (5, _)]) (S' := (⟨br, 70, 3, [_, _, _]⟩ :: So)) rfl rfl sl_) ?_
 refine OD.nil ?_
 refine CD.cond ot (fun hc0 => ?_) (fun hc0 => ?_)
 ·have hc0' := hc0
  (try simp only [V.cnd, ne_eq] at hc0')
  have e0t : isQ l q 1 ⟨#[79, 82]⟩ = true := hc0
  rw [e0t]
  simp only [if_true]
  have hR2 : R = (exP l m .and (q + 1) os).bind (fun _ p ops => (putP l (opN 4) p ops).bind fun _ p ops => exP l m .orL p ops) := hRl.trans (by rw [exP, if_pos e0t])
  refine CD.skip ?_
  refine CD.block ?_
  refine sr_ ?_
  refine om_ ?_
  have hs3 : exP l m .and (q + 1) os ≠ .stuck := bind_ns (f := fun _ p ops => (putP l (opN 4) p ops).bind fun _ p ops => exP l m .orL p ops) (by rw [hR2] at hns; exact hns)
  refine OD.callX wp_ rfl rfl rfl call90 ((ih _ (by omega)).and (q + 1) os (isQ_lt e0t) hql hs3 ad cap So hol) ⟨ot, trivial⟩ (perm_all _) (fun ch hch => (Or.inr ⟨ch, rfl, by obtain ⟨q, e, h1, h2⟩ := hch; exact ⟨q, e, hR2.trans (by rw [h1]; rfl), h2⟩⟩ : BodyX _ _ _ _ _ _)) ?_
  rintro _ _ ⟨p3, o3, hr3, hq3, h03, hp3, ad3, cap3, So3, ho3, rfl⟩
  refine OD.perm (S' := ⟨br, 70, 3, [.list 3 (l.flatMap cT) l.length, .v (.int .i64 ((p3 : Nat) : Int)), .v (.slice ad3 o3.length cap3)]⟩ :: So3) (perm_all _).symm ?_
  have hR3 : R = (putP l (opN 4) p3 o3).bind fun _ p ops => exP l m .orL p ops := hR2.trans (by rw [hr3]; rfl)
  refine OD.wk (Wk.as_ (n := 11) (l' := [(0, _)]) (S' := (⟨br, 70, 3, [_, _, _]⟩ :: So3)) rfl rfl sl_) ?_
  refine OD.nil ?_
  refine CD.region ?_
  refine om_ ?_
  refine os_ (still_bld (pl := [(0, _)]) (ds := [_, _, _, _, _]) rfl zeroValue39 runUnderlying39 places39_Pa5 ⟨rfl, opd_const, trivial⟩ rfl rfl) ?_
  refine OD.callX wp_ rfl rfl rfl call91 (put_vx l hl (opN 4) p3 h03 (Nat.le_trans hp3 (by omega)) o3 hq3 ad3 cap3 br So3 ho3) ⟨ot, ot, trivial⟩ (perm_all _) (fun ch hch => (Or.inr ⟨ch, rfl, by obtain ⟨q, e, h1, h2⟩ := hch; exact ⟨q, e, hR3.trans (by rw [h1]; rfl), h2⟩⟩ : BodyX _ _ _ _ _ _)) ?_
  rintro _ _ ⟨o4, hr4, hq4, ad4, cap4, So4, ho4, rfl⟩
  refine OD.perm (S' := ⟨br, 70, 3, [.list 3 (l.flatMap cT) l.length, .v (.int .i64 ((p3 : Nat) : Int)), .v (.slice ad4 o4.length cap4)]⟩ :: So4) (perm_all _).symm ?_
  have hR4 : R = exP l m .orL p3 o4 := hR3.trans (by rw [hr4]; rfl)
  refine OD.wk (Wk.as_ (n := 11) (l' := [(0, _)]) (S' := (⟨br, 70, 3, [_, _, _]⟩ :: So4)) rfl rfl sl_) ?_
  refine OD.nil ?_
  refine ⟨(m, p3, o4, ad4, cap4, So4), _, ?_, ?_, (by omega), hR4, hq4, h03, hp3, ho4, rfl⟩
  ·first | omega | (simp only []; omega)
  exact Wk.asS (n := 11) rfl (List.Sublist.refl _) sq_
 have hc0' := hc0
 (try simp only [V.cnd, ne_eq] at hc0')
 have e0f : isQ l q 1 ⟨#[79, 82]⟩ = false := hc0
 rw [e0f]
 simp only [Bool.false_eq_true, if_false]
 have hR5 : R = .ok () q os := hRl.trans (by rw [exP, if_neg (F_ e0f)])
 refine CD.exit ?_
 refine Or.inl ?_
 refine ⟨.inl rfl, _, ⟨br, 70, 3, [.list 3 (l.flatMap cT) l.length, .v (.int .i64 ((q : Nat) : Int)), .v (.slice ad os.length cap)]⟩ :: So, su_, ret_none results77 , ?_⟩
 exact ⟨q, os, hR5, hql, h0l, hpl, ad, cap, So, hol, rfl⟩

theorem not_x {br : Nat} {l : List Tk} (hl : l.length ≤ 100) {n : Nat} (ih : ∀ m, m ≤ n → AllL G br l m) (p : Nat) (ops : List OpL) (hp : p ≤ l.length) (h40 : ops.length ≤ 40) (R : Rs Unit) (hR : R = exP l (n + 1) .not p ops) (hns : R ≠ .stuck) (ad : Option Addr) (cap : Nat) (So : List Blk) (ho : OwnO ops ad cap So) : VX Tryd.prog G 98 [.v (.pointer (some ⟨br, 0, none⟩))] (⟨br, 70, 3, [.list 3 (l.flatMap cT) l.length, .v (.int .i64 ((p : Nat) : Int)), .v (.slice ad ops.length cap)]⟩ :: So) (fun _ S' => EndX br l R S') (PanX R) := by
 refine VX.body func98 rfl ntmps98 le_ fun X0 w0 S00 => ?_
 refine CD.seq ?_
 refine CD.seq ?_
 have hR0 := hR
 refine CD.region ?_
 refine om_ ?_
 refine OD.call wp_ rfl rfl rfl call43 (eat_vc l hl p 1 ⟨#[78, 79, 84]⟩ ad ops.length cap br) ⟨ot, opd_const, opd_const, trivial⟩ (List.Perm.refl _) ?_
 rintro _ _ ⟨rfl, rfl⟩
 refine OD.perm (S' := ⟨br, 70, 3, [.list 3 (l.flatMap cT) l.length, .v (.int .i64 (((if isQ l p 1 ⟨#[78, 79, 84]⟩ = true then p + 1 else p) : Nat) : Int)), .v (.slice ad ops.length cap)]⟩ :: So) (List.Perm.refl _) ?_
 refine OD.wk (Wk.as_ (n := 11) (l' := [(0, _), (3, _)]) (S' := (⟨br, 70, 3, [_, _, _]⟩ :: So)) rfl rfl sl_) ?_
 refine OD.nil ?_
 refine CD.cond ot (fun hc0 => ?_) (fun hc0 => ?_)
 ·have hc0' := hc0
  (try simp only [V.cnd, ne_eq] at hc0')
  have et : isQ l p 1 ⟨#[78, 79, 84]⟩ = true := hc0
  rw [et]
  simp only [if_true]
  have hR1 : R = (exP l n .not (p + 1) ops).bind (fun _ p ops => putP l (opN 5) p ops) := hR0.trans (by rw [exP, if_pos et])
  refine sr_ ?_
  refine om_ ?_
  have hs2 : exP l n .not (p + 1) ops ≠ .stuck := bind_ns (f := fun _ p ops => putP l (opN 5) p ops) (by rw [hR1] at hns; exact hns)
  refine OD.callX wp_ rfl rfl rfl call98 ((ih _ (by omega)).not (p + 1) ops (isQ_lt et) h40 hs2 ad cap So ho) ⟨ot, trivial⟩ (perm_all _) (fun ch hch => (Or.inr ⟨ch, rfl, by obtain ⟨q, e, h1, h2⟩ := hch; exact ⟨q, e, hR1.trans (by rw [h1]; rfl), h2⟩⟩ : BodyX _ _ _ _ _ _)) ?_
  rintro _ _ ⟨p2, o2, hr2, hq2, h02, hp2, ad2, cap2, So2, ho2, rfl⟩
  refine OD.perm (S' := ⟨br, 70, 3, [.list 3 (l.flatMap cT) l.length, .v (.int .i64 ((p2 : Nat) : Int)), .v (.slice ad2 o2.length cap2)]⟩ :: So2) (perm_all _).symm ?_
  have hR2 : R = putP l (opN 5) p2 o2 := hR1.trans (by rw [hr2]; rfl)
  refine OD.wk (Wk.as_ (n := 11) (l' := [(0, _)]) (S' := (⟨br, 70, 3, [_, _, _]⟩ :: So2)) rfl rfl sl_) ?_
  refine OD.nil ?_
  refine sr_ ?_
  refine om_ ?_
  refine os_ (still_bld (pl := [(0, _)]) (ds := [_, _, _, _, _]) rfl zeroValue39 runUnderlying39 places39_Pa5 ⟨rfl, opd_const, trivial⟩ rfl rfl) ?_
  refine OD.callX wp_ rfl rfl rfl call91 (put_vx l hl (opN 5) p2 h02 (Nat.le_trans hp2 (by omega)) o2 hq2 ad2 cap2 br So2 ho2) ⟨ot, ot, trivial⟩ (perm_all _) (fun ch hch => (Or.inr ⟨ch, rfl, by obtain ⟨q, e, h1, h2⟩ := hch; exact ⟨q, e, hR2.trans h1, h2⟩⟩ : BodyX _ _ _ _ _ _)) ?_
  rintro _ _ ⟨o3, hr3, hq3, ad3, cap3, So3, ho3, rfl⟩
  refine OD.perm (S' := ⟨br, 70, 3, [.list 3 (l.flatMap cT) l.length, .v (.int .i64 ((p2 : Nat) : Int)), .v (.slice ad3 o3.length cap3)]⟩ :: So3) (perm_all _).symm ?_
  have hR3 : R = .ok () p2 o3 := hR2.trans hr3
  refine OD.wk (Wk.as_ (n := 11) (l' := []) (S' := (⟨br, 70, 3, [_, _, _]⟩ :: So3)) rfl rfl trivial) ?_
  refine OD.nil ?_
  refine CD.ret ?_
  refine Or.inl ?_
  refine ⟨.inr rfl, _, ⟨br, 70, 3, [.list 3 (l.flatMap cT) l.length, .v (.int .i64 ((p2 : Nat) : Int)), .v (.slice ad3 o3.length cap3)]⟩ :: So3, su_, ret_none results98 , ?_⟩
  exact ⟨p2, o3, hR3, hq3, h02, hp2, ad3, cap3, So3, ho3, rfl⟩
 have hc0' := hc0
 (try simp only [V.cnd, ne_eq] at hc0')
 have ef : isQ l p 1 ⟨#[78, 79, 84]⟩ = false := hc0
 rw [ef]
 simp only [Bool.false_eq_true, if_false]
 have hR4 : R = exP l n .comp p ops := hR0.trans (by rw [exP, if_neg (F_ ef)])
 refine CD.skip ?_
 refine CD.region ?_
 refine om_ ?_
 have hs5 : exP l n .comp p ops ≠ .stuck := by rw [hR4] at hns; exact hns
 refine OD.callX wp_ rfl rfl rfl call103 ((ih _ (by omega)).comp p ops hp h40 hs5 ad cap So ho) ⟨ot, trivial⟩ (perm_all _) (fun ch hch => (Or.inr ⟨ch, rfl, by obtain ⟨q, e, h1, h2⟩ := hch; exact ⟨q, e, hR4.trans h1, h2⟩⟩ : BodyX _ _ _ _ _ _)) ?_
 rintro _ _ ⟨p5, o5, hr5, hq5, h05, hp5, ad5, cap5, So5, ho5, rfl⟩
 refine OD.perm (S' := ⟨br, 70, 3, [.list 3 (l.flatMap cT) l.length, .v (.int .i64 ((p5 : Nat) : Int)), .v (.slice ad5 o5.length cap5)]⟩ :: So5) (perm_all _).symm ?_
 have hR5 : R = .ok () p5 o5 := hR4.trans hr5
 refine OD.wk (Wk.as_ (n := 11) (l' := []) (S' := (⟨br, 70, 3, [_, _, _]⟩ :: So5)) rfl rfl trivial) ?_
 refine OD.nil ?_
 refine Or.inl ?_
 refine ⟨.inl rfl, _, ⟨br, 70, 3, [.list 3 (l.flatMap cT) l.length, .v (.int .i64 ((p5 : Nat) : Int)), .v (.slice ad5 o5.length cap5)]⟩ :: So5, su_, ret_none results98 , ?_⟩
 exact ⟨p5, o5, hR5, hq5, h05, hp5, ad5, cap5, So5, ho5, rfl⟩

theorem prim_x {br : Nat} {l : List Tk} (hl : l.length ≤ 100) (hm : (0, marksC) ∈ G) (hw : (2, wordsC) ∈ G) (ht : ∀ t ∈ l, t.s.size ≤ maxLen ∧ (t.k = 2 → 0 ≤ t.n ∧ t.n ≤ 9223372036854775807)) {n : Nat} (ih : ∀ m, m ≤ n → AllL G br l m) (p : Nat) (ops : List OpL) (hp : p ≤ l.length) (h40 : ops.length ≤ 40) (R : Rs Unit) (hR : R = exP l (n + 1) .prim p ops) (hns : R ≠ .stuck) (ad : Option Addr) (cap : Nat) (So : List Blk) (ho : OwnO ops ad cap So) : VX Tryd.prog G 116 [.v (.pointer (some ⟨br, 0, none⟩))] (⟨br, 70, 3, [.list 3 (l.flatMap cT) l.length, .v (.int .i64 ((p : Nat) : Int)), .v (.slice ad ops.length cap)]⟩ :: So) (fun _ S' => EndX br l R S') (PanX R) := by
 refine VX.body func116 rfl ntmps116 le_ fun X0 w0 S00 => ?_
 refine CD.seq ?_
 refine CD.seq ?_
 have hR0 : R = (litP l p ops).bind (fun v p ops => if v.2 = true then putP l ⟨1, v.1, ⟨#[]⟩⟩ p ops else (if isQ l p 4 ⟨#[40]⟩ = true then (exP l n .or (p + 1) ops).bind fun _ p ops => markP l ⟨#[41]⟩ p ops else (nameP l p ops).bind fun s p ops => putP l ⟨2, noVl, s⟩ p ops)) := hR.trans (by rw [exP])
 refine CD.region ?_
 refine om_ ?_
 refine OD.callX wp_ rfl rfl rfl call76 (literal_vx l hl ht p ad ops.length cap br) ⟨ot, trivial⟩ (List.Perm.refl _) (fun ch hch => (Or.inr ⟨ch, rfl, by obtain ⟨q, e, h1, h2⟩ := hch; exact ⟨q, e, hR0.trans (by rw [h1]; rfl), h2⟩⟩ : BodyX _ _ _ _ _ _)) ?_
 rintro _ _ ⟨v, ok, q, hlit, rfl, rfl⟩
 unfold cV
 refine OD.perm (S' := ⟨br, 70, 3, [.list 3 (l.flatMap cT) l.length, .v (.int .i64 ((q : Nat) : Int)), .v (.slice ad ops.length cap)]⟩ :: So) (List.Perm.refl _) ?_
 have hR1 : R = (if ok = true then putP l ⟨1, v, ⟨#[]⟩⟩ q ops else (if isQ l q 4 ⟨#[40]⟩ = true then (exP l n .or (q + 1) ops).bind fun _ p ops => markP l ⟨#[41]⟩ p ops else (nameP l q ops).bind fun s p ops => putP l ⟨2, noVl, s⟩ p ops)) := hR0.trans (by rw [hlit]; rfl)
 obtain ⟨-, hla, hlb, -⟩ := lit_le (hlit ops) hp
 refine om_ ?_
 refine os_ ex_ ?_
 refine os_ ex_ ?_
 refine OD.alloc (ds := [_, _, _]) wp_ rfl rfl zeroValue37 rfl (fun b2 => ?_)
 refine ot_ 0 [_, _, _] sizeOf37 ?_
 refine om_ ?_
 refine OD.wk (Wk.as_ (n := 27) (l' := [(0, _), (2, _), (3, _)]) (S' := (⟨b2, 37, 3, [_, _, _]⟩ :: ⟨br, 70, 3, [_, _, _]⟩ :: So)) rfl rfl sl_) ?_
 refine OD.nil ?_
 refine sr_ ?_
 refine om_ ?_
 refine nm_ [0, 2, 10] ?_
 refine CD.cond ot (fun hc0 => ?_) (fun hc0 => ?_)
 ·have hc0' := hc0
  (try simp only [V.cnd, ne_eq] at hc0')
  have hok : ok = true := hc0
  have hR1 : R = putP l ⟨1, v, ⟨#[]⟩⟩ q ops := hR1.trans (by rw [if_pos hok])
  refine sr_ ?_
  refine om_ ?_
  refine os_ (lab_ 0 [_, _, _]) ?_
  refine os_ (still_bld (pl := [(0, _), (1, _)]) (ds := [_, _, _, _, _]) rfl zeroValue39 runUnderlying39 places39_Pa5 ⟨rfl, opd_const, rfl, ot, trivial⟩ rfl rfl) ?_
  refine OD.wk (Wk.drop _ _ _ (⟨br, 70, 3, [.list 3 (l.flatMap cT) l.length, .v (.int .i64 ((q : Nat) : Int)), .v (.slice ad ops.length cap)]⟩ :: So) (List.Sublist.cons _ (List.Sublist.refl _))) ?_
  refine OD.callX wp_ rfl rfl rfl call91 (put_vx l hl ⟨1, v, ⟨#[]⟩⟩ q (hlb hok) (Nat.le_trans hla (by omega)) ops h40 ad cap br So ho) ⟨ot, ot, trivial⟩ (perm_all _) (fun ch hch => (Or.inr ⟨ch, rfl, by obtain ⟨q, e, h1, h2⟩ := hch; exact ⟨q, e, hR1.trans h1, h2⟩⟩ : BodyX _ _ _ _ _ _)) ?_
  rintro _ _ ⟨o2, hr2, hq2, ad2, cap2, So2, ho2, rfl⟩
  refine OD.perm (S' := ⟨br, 70, 3, [.list 3 (l.flatMap cT) l.length, .v (.int .i64 ((q : Nat) : Int)), .v (.slice ad2 o2.length cap2)]⟩ :: So2) (perm_all _).symm ?_
  have hR2 : R = .ok () q o2 := hR1.trans hr2
  refine OD.wk (Wk.as_ (n := 27) (l' := []) (S' := (⟨br, 70, 3, [_, _, _]⟩ :: So2)) rfl rfl trivial) ?_
  refine OD.nil ?_
  refine CD.ret ?_
  refine Or.inl ?_
  refine ⟨.inr rfl, _, ⟨br, 70, 3, [.list 3 (l.flatMap cT) l.length, .v (.int .i64 ((q : Nat) : Int)), .v (.slice ad2 o2.length cap2)]⟩ :: So2, su_, ret_none results116 , ?_⟩
  exact ⟨q, o2, hR2, hq2, (hlb hok), hla, ad2, cap2, So2, ho2, rfl⟩
 have hc0' := hc0
 (try simp only [V.cnd, ne_eq] at hc0')
 have hnok : ok = false := hc0
 have hR3 : R = (if isQ l q 4 ⟨#[40]⟩ = true then (exP l n .or (q + 1) ops).bind fun _ p ops => markP l ⟨#[41]⟩ p ops else (nameP l q ops).bind fun s p ops => putP l ⟨2, noVl, s⟩ p ops) := hR1.trans (by rw [if_neg (F_ hnok)])
 refine CD.wk (Wk.drop _ _ _ (⟨br, 70, 3, [.list 3 (l.flatMap cT) l.length, .v (.int .i64 ((q : Nat) : Int)), .v (.slice ad ops.length cap)]⟩ :: So) (List.Sublist.cons _ (List.Sublist.refl _))) ?_
 refine CD.skip ?_
 refine CD.seq ?_
 refine sr_ ?_
 refine om_ ?_
 refine OD.call wp_ rfl rfl rfl call43 (eat_vc l hl q 4 ⟨#[40]⟩ ad ops.length cap br) ⟨ot, opd_const, opd_const, trivial⟩ (List.Perm.refl _) ?_
 rintro _ _ ⟨rfl, rfl⟩
 refine OD.perm (S' := ⟨br, 70, 3, [.list 3 (l.flatMap cT) l.length, .v (.int .i64 (((if isQ l q 4 ⟨#[40]⟩ = true then q + 1 else q) : Nat) : Int)), .v (.slice ad ops.length cap)]⟩ :: So) (List.Perm.refl _) ?_
 refine OD.wk (Wk.as_ (n := 27) (l' := [(0, _), (16, _)]) (S' := (⟨br, 70, 3, [_, _, _]⟩ :: So)) rfl rfl sl_) ?_
 refine OD.nil ?_
 refine CD.cond ot (fun hc1 => ?_) (fun hc1 => ?_)
 ·have hc1' := hc1
  (try simp only [V.cnd, ne_eq] at hc1')
  have et : isQ l q 4 ⟨#[40]⟩ = true := hc1
  rw [et]
  simp only [if_true]
  have hR4 : R = (exP l n .or (q + 1) ops).bind (fun _ p ops => markP l ⟨#[41]⟩ p ops) := hR3.trans (by rw [if_pos et])
  refine sr_ ?_
  refine om_ ?_
  have hs5 : exP l n .or (q + 1) ops ≠ .stuck := bind_ns (f := fun _ p ops => markP l ⟨#[41]⟩ p ops) (by rw [hR4] at hns; exact hns)
  refine OD.callX wp_ rfl rfl rfl call77 ((ih _ (by omega)).or (q + 1) ops (isQ_lt et) h40 hs5 ad cap So ho) ⟨ot, trivial⟩ (perm_all _) (fun ch hch => (Or.inr ⟨ch, rfl, by obtain ⟨q, e, h1, h2⟩ := hch; exact ⟨q, e, hR4.trans (by rw [h1]; rfl), h2⟩⟩ : BodyX _ _ _ _ _ _)) ?_
  rintro _ _ ⟨p5, o5, hr5, hq5, h05, hp5, ad5, cap5, So5, ho5, rfl⟩
  refine OD.perm (S' := ⟨br, 70, 3, [.list 3 (l.flatMap cT) l.length, .v (.int .i64 ((p5 : Nat) : Int)), .v (.slice ad5 o5.length cap5)]⟩ :: So5) (perm_all _).symm ?_
  have hR5 : R = markP l ⟨#[41]⟩ p5 o5 := hR4.trans (by rw [hr5]; rfl)
  refine OD.wk (Wk.as_ (n := 27) (l' := [(0, _)]) (S' := (⟨br, 70, 3, [_, _, _]⟩ :: So5)) rfl rfl sl_) ?_
  refine OD.nil ?_
  refine sr_ ?_
  refine om_ ?_
  refine OD.callX wp_ rfl rfl rfl call49 (mark_vx l hl p5 ⟨#[41]⟩ ad5 o5.length cap5 br) ⟨ot, opd_const, trivial⟩ (List.Perm.refl _) (fun ch hch => (Or.inr ⟨ch, rfl, ⟨_, _, hR5.trans (mark_no hch.1 _), hch.2⟩⟩ : BodyX _ _ _ _ _ _)) ?_
  rintro _ _ ⟨hm6, rfl⟩
  refine OD.perm (S' := ⟨br, 70, 3, [.list 3 (l.flatMap cT) l.length, .v (.int .i64 (((p5 + 1) : Nat) : Int)), .v (.slice ad5 o5.length cap5)]⟩ :: So5) (List.Perm.refl _) ?_
  have hR6 : R = .ok () (p5 + 1) o5 := hR5.trans (mark_yes hm6 _)
  refine OD.wk (Wk.as_ (n := 27) (l' := []) (S' := (⟨br, 70, 3, [_, _, _]⟩ :: So5)) rfl rfl trivial) ?_
  refine OD.nil ?_
  refine CD.ret ?_
  refine Or.inl ?_
  refine ⟨.inr rfl, _, ⟨br, 70, 3, [.list 3 (l.flatMap cT) l.length, .v (.int .i64 (((p5 + 1) : Nat) : Int)), .v (.slice ad5 o5.length cap5)]⟩ :: So5, su_, ret_none results116 , ?_⟩
  exact ⟨(p5 + 1), o5, hR6, hq5, (Nat.succ_pos _), (isQ_lt hm6), ad5, cap5, So5, ho5, rfl⟩
 have hc1' := hc1
 (try simp only [V.cnd, ne_eq] at hc1')
 have ef : isQ l q 4 ⟨#[40]⟩ = false := hc1
 rw [ef]
 simp only [Bool.false_eq_true, if_false]
 have hR7 : R = (nameP l q ops).bind (fun s p ops => putP l ⟨2, noVl, s⟩ p ops) := hR3.trans (by rw [if_neg (F_ ef)])
 refine CD.skip ?_
 refine sr_ ?_
 refine om_ ?_
 refine OD.callX wp_ rfl rfl rfl call45 (name_vx hm hw l hl ht q ad ops.length cap br) ⟨ot, trivial⟩ (List.Perm.refl _) (fun ch hch => (Or.inr ⟨ch, rfl, by obtain ⟨q, e, h1, h2⟩ := hch; exact ⟨q, e, hR7.trans (by rw [h1]; rfl), h2⟩⟩ : BodyX _ _ _ _ _ _)) ?_
 rintro _ _ ⟨s, hnm, rfl, rfl⟩
 refine OD.perm (S' := ⟨br, 70, 3, [.list 3 (l.flatMap cT) l.length, .v (.int .i64 (((q + 1) : Nat) : Int)), .v (.slice ad ops.length cap)]⟩ :: So) (List.Perm.refl _) ?_
 have hR8 : R = putP l ⟨2, noVl, s⟩ (q + 1) ops := hR7.trans (by rw [hnm]; rfl)
 have hlt := (name_le (hnm [])).2.2
 refine om_ ?_
 refine OD.wk (Wk.as_ (n := 27) (l' := [(0, _), (4, _)]) (S' := (⟨br, 70, 3, [_, _, _]⟩ :: So)) rfl rfl sl_) ?_
 refine OD.nil ?_
 refine CD.region ?_
 refine om_ ?_
 refine om_ ?_
 refine os_ (still_bld (pl := [(0, _), (2, _)]) (ds := [_, _, _, _, _]) rfl zeroValue39 runUnderlying39 places39_Pa5 ⟨rfl, opd_const, rfl, ot, trivial⟩ rfl rfl) ?_
 refine OD.callX wp_ rfl rfl rfl call91 (put_vx l hl ⟨2, noVl, s⟩ (q + 1) (Nat.succ_pos _) (Nat.le_trans hlt (by omega)) ops h40 ad cap br So ho) ⟨ot, ot, trivial⟩ (perm_all _) (fun ch hch => (Or.inr ⟨ch, rfl, by obtain ⟨q, e, h1, h2⟩ := hch; exact ⟨q, e, hR8.trans h1, h2⟩⟩ : BodyX _ _ _ _ _ _)) ?_
 rintro _ _ ⟨o9, hr9, hq9, ad9, cap9, So9, ho9, rfl⟩
 refine OD.perm (S' := ⟨br, 70, 3, [.list 3 (l.flatMap cT) l.length, .v (.int .i64 (((q + 1) : Nat) : Int)), .v (.slice ad9 o9.length cap9)]⟩ :: So9) (perm_all _).symm ?_
 have hR9 : R = .ok () (q + 1) o9 := hR8.trans hr9
 refine OD.wk (Wk.as_ (n := 27) (l' := []) (S' := (⟨br, 70, 3, [_, _, _]⟩ :: So9)) rfl rfl trivial) ?_
 refine OD.nil ?_
 refine Or.inl ?_
 refine ⟨.inl rfl, _, ⟨br, 70, 3, [.list 3 (l.flatMap cT) l.length, .v (.int .i64 (((q + 1) : Nat) : Int)), .v (.slice ad9 o9.length cap9)]⟩ :: So9, su_, ret_none results116 , ?_⟩
 exact ⟨(q + 1), o9, hR9, hq9, (Nat.succ_pos _), hlt, ad9, cap9, So9, ho9, rfl⟩

end Go.Proofs.YtjgekbmahhhokaaDoor.Pa

namespace Go.Proofs.YtjgekbmahhhokaaDoor.Pa
open Go.Proofs.Tryd
open Go.RowKit V Pk Go.Proofs.YtjgekbmahhhokaaDoor.Vl Go.Proofs.YtjgekbmahhhokaaDoor.Nm
variable {G : List (Nat × List Value)}
theorem take_flat {α : Type} {ls : List (List α)} {j : Nat} (h : j < ls.length) : (ls.take (j + 1)).flatten = (ls.take j).flatten ++ ls[j] := by
 rw [List.take_succ_eq_append_getElem h, List.flatten_append, List.flatten_cons, List.flatten_nil, List.append_nil]
theorem take_flat_len {α : Type} {ls : List (List α)} {j : Nat} (h : j < ls.length) : ((ls.take (j + 1)).flatten).length = ((ls.take j).flatten).length + ls[j].length := by rw [take_flat h, List.length_append]
theorem take_flat_le {α : Type} (ls : List (List α)) (j : Nat) : ((ls.take j).flatten).length ≤ ls.flatten.length := by
 conv => rhs; rw [← List.take_append_drop j ls, List.flatten_append, List.length_append]
 omega
theorem ownL_zero {e sz b cap : Nat} (h : cap ≤ maxLen) : OwnL e sz [] 0 (some ⟨b, 0, none⟩) cap [⟨b, e, cap * sz, []⟩] := .inr ⟨b, rfl, Nat.zero_le _, h, rfl⟩

def cOL (q : List OpL) : List D := [.list 5 (q.flatMap cO) q.length]
theorem info39_Pa6 : (Tryd.prog.info? 39).map (fun i => (i.zero, i.size, i.bytes)) = some (some (.agg #[.int .i64 0, .int .i64 0, .int .i64 0, .string ⟨#[]⟩, .string ⟨#[]⟩]), 5, 56) := by kernel_rfl

theorem growcO_vc (n : Nat) (h0 : 0 < n) (hn : n ≤ 100000) : VC Tryd.prog G 117 [.v (.slice none 0 0), .v (.int .i64 (n : Nat))] [] (fun r S => ∃ b cap, cap ≤ maxLen ∧ r = .v (.slice (some ⟨b, 0, none⟩) 0 cap) ∧ S = [⟨b, 39, cap * 5, []⟩]) := by
 refine VC.body func117 rfl ntmps117 le_ fun X0 w0 S00 => ?_
 refine sr_ ?_
 refine om_ ?_
 refine nm_ [0, 1] ?_
 refine CD.seq ?_
 refine sr_ ?_
 refine om_ ?_
 refine os_ bn_ ?_
 refine nm_ [0, 1, 6] ?_
 refine CD.cond ot (fun hc0 => ?_) (fun hc0 => ?_)
 ·exact absurd hc0 (by simp at hc0; omega)
 have hc0' := hc0
 (try simp only [V.cnd, ne_eq] at hc0')
 refine CD.skip ?_
 refine CD.seq ?_
 refine sr_ ?_
 refine om_ ?_
 refine om_ ?_
 refine os_ (still_cap rfl rfl ot runUnderlying30) ?_
 refine om_ ?_
 refine os_ (still_r1 (mk := fun y => .call { callee := .builtin .len, args := #[y], argTypes := #[30] }) rfl ot (len_row rfl runUnderlying30)) ?_
 refine os_ bn_ ?_
 refine os_ bn_ ?_
 refine om_ ?_
 refine on_ [(0, _), (1, _)] [] ?_
 refine sr_ ?_
 refine om_ ?_
 refine os_ bn_ ?_
 refine nm_ [0, 1, 16] ?_
 refine CD.cond ot (fun hc1 => ?_) (fun hc1 => ?_)
 ·have hc1' := hc1
  (try simp only [V.cnd, ne_eq] at hc1')
  refine CD.region ?_
  refine om_ ?_
  refine om_ ?_
  refine os_ (still_cap rfl rfl ot runUnderlying30) ?_
  refine os_ (still_nslice rfl ot rfl ⟨_, _, ot, rfl⟩ runUnderlying30 sizeOf39) ?_
  refine om_ ?_
  refine OD.appendZ0 (m := n) (sz := 5) wp_ rfl rfl underlying30 underlying3 info39_Pa6 rfl (by decide) ot (Eq.trans ot (congrArg (fun z => D.v (.int .i64 z)) (show ((n : Nat) : Int) - (0 - 0) = ((n : Nat) : Int) by omega))) h0 (by simp only [maxLen]; omega) (by omega) (fun b cap h1 h2 => ?_)
  refine om_ ?_
  refine os_ (still_r1 (mk := fun y => .call { callee := .builtin .len, args := #[y], argTypes := #[30] }) rfl ot (len_row rfl runUnderlying30)) ?_
  refine os_ (still_rs (l := 0) (h := 0) rfl ot trivial ⟨_, ot⟩ (by first | exact sl_row (fun h => by cases h) runUnderlying30 sizeOf39 (by omega) | exact sl_list (fun _ => rfl) (fun h => by cases h) runUnderlying30 sizeOf39 (by omega) (by omega))) ?_
  refine om_ ?_
  refine on_ [(0, _)] [_] ?_
  refine sr_ ?_
  refine om_ ?_
  refine om_ ?_
  refine nm_ [4] ?_
  refine CD.ret ?_
  refine ⟨.inr rfl, _, [⟨b, 39, cap * 5, []⟩], List.Sublist.refl _, ret_one results117 (res_tmp le_ lk), ?_⟩
  exact ⟨b, cap, h2, rfl, rfl⟩
 exact absurd hc1 (by simp at hc1; omega)

theorem concatcO_vc (ls : List (List OpL)) (hls : ls.length ≤ 1000) (h0 : 0 < ls.flatten.length) (hn : ls.flatten.length ≤ 100000) : VC Tryd.prog G 111 [.list 1 (ls.flatMap cOL) ls.length] [] (fun r S => ∃ ad cap, r = .v (.slice ad ls.flatten.length cap) ∧ OwnL 39 5 (ls.flatten.flatMap cO) ls.flatten.length ad cap S) := by
 refine VC.body func111 rfl ntmps111 le_ fun X0 w0 S00 => ?_
 refine sr_ ?_
 refine om_ ?_
 refine nm_ [0] ?_
 refine sr_ ?_
 refine om_ ?_
 refine nm_ [0, 3] ?_
 refine CD.seq ?_
 refine sr_ ?_
 refine om_ ?_
 refine os_ ln_ ?_
 refine om_ ?_
 refine nm_ [0, 3, 9, 10, 11] ?_
 refine CD.block ?_
 refine lp_ (fun (j : Nat) y__ => (j ≤ ls.length) ∧ y__ = (⟨36, [(0, .list 1 (ls.flatMap cOL) ls.length), (3, .v (.int .i64 ((((ls.take j).flatten).length : Nat) : Int))), (9, .list 1 (ls.flatMap cOL) ls.length), (10, .v (.int .i64 (ls.length : Nat))), (11, .v (.int .i64 (j : Nat)))], []⟩ : St)) (fun (j : Nat) => ls.length - j) 0 ⟨(Nat.zero_le _), rfl⟩ (Wk.asS rfl sv_ (by repeat (first | exact trivial | refine ⟨(by (repeat (first | exact look_hit | (apply look_at; focus (first | rfl | (congr 2; omega) | (simp; done))) | (apply look_miss; focus rfl))); done), ?_⟩))) ?_
 rintro j _ ⟨hj, rfl⟩
 refine sr_ ?_
 refine os_ bn_ ?_
 refine nm_ [0, 3, 9, 10, 11, 12] ?_
 refine CD.seq ?_
 refine CD.cond ot (fun hc0 => ?_) (fun hc0 => ?_)
 ·have hc0' := hc0
  (try simp only [V.cnd, ne_eq] at hc0')
  have hlt : j < ls.length := by simp at hc0; omega
  have hsum := take_flat_len hlt
  have hle := take_flat_le ls (j + 1)
  refine CD.skip ?_
  refine CD.seq ?_
  refine CD.block ?_
  refine sr_ ?_
  refine os_ (ix_ 1 (h := by first | exact .l (j := j) rfl hlt | exact .r (j := j) rfl hlt)) ?_
  refine os_ ld_ ?_
  refine om_ ?_
  refine nm_ [0, 3, 5, 9, 10, 11] ?_
  refine sr_ ?_
  refine om_ ?_
  refine om_ ?_
  refine os_ ln_ ?_
  refine os_ (still_bin (r := .int .i64 ((((ls.take (j + 1)).flatten).length : Nat) : Int)) rfl ot ot (bin_add (by rw [show ((((ls.take j).flatten).length : Nat) : Int) + (ls[j].length : Nat) = ((((ls.take (j + 1)).flatten).length : Nat) : Int) by omega]; exact wrap_i64 (by omega) (by omega)))) ?_
  refine om_ ?_
  refine on_ [(0, _), (3, _), (9, _), (10, _), (11, _)] [] ?_
  refine sr_ ?_
  refine om_ ?_
  refine os_ bn_ ?_
  refine nm_ [0, 3, 9, 10, 11, 20] ?_
  refine CD.cond ot (fun hc1 => ?_) (fun hc1 => ?_)
  ·exact absurd hc1 (by simp at hc1; omega)
  have hc1' := hc1
  (try simp only [V.cnd, ne_eq] at hc1')
  refine CD.skip ?_
  refine CD.region ?_
  refine os_ bn_ ?_
  refine om_ ?_
  refine nm_ [0, 3, 9, 10, 11] ?_
  refine ⟨(j + 1), _, ?_, ?_, (by omega), rfl⟩
  ·first | omega | (simp only []; omega)
  exact Wk.asS (n := 36) rfl sv_ (by repeat (first | exact trivial | refine ⟨(by (repeat (first | exact look_hit | (apply look_at; focus (first | rfl | (congr 2; omega) | (simp; done))) | (apply look_miss; focus rfl))); done), ?_⟩))
 have hc0' := hc0
 (try simp only [V.cnd, ne_eq] at hc0')
 obtain rfl : j = ls.length := by simp at hc0; omega
 rw [List.take_length]
 refine CD.exit ?_
 refine sr_ ?_
 refine om_ ?_
 refine OD.call wp_ rfl rfl rfl call117 (growcO_vc ls.flatten.length h0 hn) ⟨opd_const, ot, trivial⟩ (List.Perm.refl _) ?_
 rintro _ _ ⟨b, cp, hcp, rfl, rfl⟩
 refine OD.perm (S' := [⟨b, 39, cp * 5, []⟩]) (List.Perm.refl _) ?_
 refine om_ ?_
 refine OD.wk (Wk.as_ (n := 36) (l' := [(0, _), (6, _)]) (S' := ([⟨b, 39, cp * 5, []⟩])) rfl rfl sl_) ?_
 refine OD.nil ?_
 refine CD.seq ?_
 refine sr_ ?_
 refine om_ ?_
 refine os_ ln_ ?_
 refine om_ ?_
 refine nm_ [6, 25, 26, 27] ?_
 refine CD.block ?_
 refine lp_ (fun (gh__ : Nat × Option Addr × Nat × List Blk) y__ => match gh__ with | (j, adx, cpx, Sx) => (j ≤ ls.length) ∧ (OwnL 39 5 (((ls.take j).flatten).flatMap cO) ((ls.take j).flatten).length adx cpx Sx) ∧ y__ = (⟨36, [(6, .v (.slice adx ((ls.take j).flatten).length cpx)), (25, .list 1 (ls.flatMap cOL) ls.length), (26, .v (.int .i64 (ls.length : Nat))), (27, .v (.int .i64 (j : Nat)))], (Sx)⟩ : St)) (fun (gh__ : Nat × Option Addr × Nat × List Blk) => match gh__ with | (j, adx, cpx, Sx) => ls.length - j) (0, (some ⟨b, 0, none⟩), cp, [⟨b, 39, cp * 5, []⟩]) ⟨(Nat.zero_le _), (OwnL.cast (ownL_zero hcp) (by rfl)), rfl⟩ (Wk.asS rfl su_ (by repeat (first | exact trivial | refine ⟨(by (repeat (first | exact look_hit | (apply look_at; focus (first | rfl | (simp; done) | (congr 2; omega) | (apply row_eq; rw [take_flat hlt]) | (apply row_eq; rfl) | (apply row_eq; simp; done))) | (apply look_miss; focus rfl))); done), ?_⟩))) ?_
 rintro ⟨j, adx, cpx, Sx⟩ _ ⟨hj, hox, rfl⟩
 refine sr_ ?_
 refine os_ bn_ ?_
 refine nm_ [6, 25, 26, 27, 28] ?_
 refine CD.seq ?_
 refine CD.cond ot (fun hc2 => ?_) (fun hc2 => ?_)
 ·have hc2' := hc2
  (try simp only [V.cnd, ne_eq] at hc2')
  have hlt : j < ls.length := by simp at hc2; omega
  have hsum := take_flat_len hlt
  have hle := take_flat_le ls (j + 1)
  refine CD.skip ?_
  refine CD.seq ?_
  refine CD.block ?_
  refine sr_ ?_
  refine os_ (ix_ 1 (h := by first | exact .l (j := j) rfl hlt | exact .r (j := j) rfl hlt)) ?_
  refine os_ ld_ ?_
  refine om_ ?_
  refine nm_ [6, 8, 25, 26, 27] ?_
  refine CD.region ?_
  refine om_ ?_
  refine om_ ?_
  refine OD.appendAny (ls := ((ls.take j).flatten)) (new := ls[j]) (Sq := Sx) cO_len cO_one wp_ rfl rfl underlying30 info39_Pa6 rfl (by decide) runUnderlying30 sizeOf39 ot hox (perm_r11 (A := [])) ot (by simp only [maxLen]; omega) (by omega) (fun ad33 cp33 S33 ho33 => ?_)
  refine OD.perm (perm_q11 (A := [])) ?_
  refine om_ ?_
  refine OD.wk (Wk.as_ (n := 36) (l' := [(6, _), (25, _), (26, _), (27, _)]) (S' := (S33)) rfl rfl sl_) ?_
  refine OD.nil ?_
  refine CD.region ?_
  refine os_ bn_ ?_
  refine om_ ?_
  refine nm_ [6, 25, 26, 27] ?_
  refine ⟨((j + 1), ad33, cp33, S33), _, ?_, ?_, (by omega), (OwnL.cast ho33 (by rw [take_flat hlt])), rfl⟩
  ·first | omega | (simp only []; omega)
  exact Wk.asS (n := 36) rfl su_ (by repeat (first | exact trivial | refine ⟨(by (repeat (first | exact look_hit | (apply look_at; focus (first | rfl | (simp; done) | (congr 2; omega) | (apply row_eq; rw [take_flat hlt]) | (apply row_eq; rfl) | (apply row_eq; simp; done))) | (apply look_miss; focus rfl))); done), ?_⟩))
 have hc2' := hc2
 (try simp only [V.cnd, ne_eq] at hc2')
 obtain rfl : j = ls.length := by simp at hc2; omega
 refine CD.exit ?_
 refine sr_ ?_
 refine om_ ?_
 refine om_ ?_
 refine nm_ [2] ?_
 refine CD.ret ?_
 refine ⟨.inr rfl, _, Sx, List.Sublist.refl _, ret_one results111 (res_tmp le_ lk), ?_⟩
 have hox' := hox
 rw [List.take_length] at hox'
 exact ⟨adx, cpx, by rw [List.take_length], hox'⟩

theorem swap_len {ops : List OpL} {fr mid : Nat} (h1 : fr ≤ mid) (h2 : mid ≤ ops.length) : (swapP ops fr mid).length = ops.length := by
 unfold swapP; simp only [List.length_append, List.length_take, List.length_drop]; omega
theorem swap_flat (ops : List OpL) (fr mid : Nat) : [ops.take fr, ops.drop mid, (ops.take mid).drop fr].flatten = swapP ops fr mid := by
 unfold swapP; simp

theorem swap_vc (l : List Tk) (p : Nat) (ops : List OpL) (fr mid : Nat) (h1 : fr ≤ mid) (h2 : mid ≤ ops.length) (h0 : 0 < ops.length) (h40 : ops.length ≤ 40) (ad : Option Addr) (cap br : Nat) (So : List Blk) (ho : OwnO ops ad cap So) : VC Tryd.prog G 108 [.v (.pointer (some ⟨br, 0, none⟩)), .v (.int .i64 (fr : Nat)), .v (.int .i64 (mid : Nat))] (⟨br, 70, 3, [.list 3 (l.flatMap cT) l.length, .v (.int .i64 ((p : Nat) : Int)), .v (.slice ad ops.length cap)]⟩ :: So) (fun r S' => ∃ ad' cap' So', OwnO (swapP ops fr mid) ad' cap' So' ∧ S' = ⟨br, 70, 3, [.list 3 (l.flatMap cT) l.length, .v (.int .i64 ((p : Nat) : Int)), .v (.slice ad' (swapP ops fr mid).length cap')]⟩ :: So') := by
 refine VC.body func108 rfl ntmps108 le_ fun X0 w0 S00 => ?_
 have hcc := concatcO_vc (G := G) [ops.take fr, ops.drop mid, (ops.take mid).drop fr] (by show 3 ≤ 1000; decide) (by rw [swap_flat, swap_len h1 h2]; exact h0) (by rw [swap_flat, swap_len h1 h2]; omega)
 rw [swap_flat] at hcc
 refine CD.wk (Wk.cover (A := ⟨br, 70, 3, [.list 3 (l.flatMap cT) l.length, .v (.int .i64 ((p : Nat) : Int)), .v (.slice ad ops.length cap)]⟩) (R := []) (Sd := So) (cs' := [.list 3 (l.flatMap cT) l.length, .v (.int .i64 ((p : Nat) : Int)), .list 5 (ops.flatMap cO) ops.length]) (List.Perm.refl _) ⟨view_same, view_same, view_own ho (fm_len cO_len _) (fun _ h => h), trivial⟩) ?_
 refine CD.draw (bks (List.drop 1 _)) kr_ (fun _ h => (List.Sublist.map _ (List.drop_sublist _ _)).subset h) ?_
 refine a0_ 0 rfl mv_ ?_
 refine a0_ 1 rfl mv_ ?_
 refine a0_ 2 rfl nc_ ?_
 refine a0_ 3 rfl (fa_ 2) ?_
 refine a0_ 5 rfl mv_ ?_
 refine a0_ 7 rfl mv_ ?_
 refine a0_ 8 rfl nc_ ?_
 refine a0_ 9 rfl (fa_ 2) ?_
 refine a0_ 11 rfl mv_ ?_
 refine a0_ 13 rfl mv_ ?_
 refine a0_ 14 rfl nc_ ?_
 refine a0_ 15 rfl (fa_ 2) ?_
 refine a0_ 17 rfl mv_ ?_
 refine a0_ 18 rfl mv_ ?_
 refine AD0.later rfl ?_
 refine AD.three (i := 4) (j := 10) (k := 16) kr_ ?_ ?_ ?_
 ·skip
  refine at_ rfl (lb_ 0) ?_
  refine a1_ 6 rfl (still_rs (l := 0) (h := fr) rfl ot trivial ⟨_, ot⟩ (by exact sl_head cO_len (fun h => by cases h) runUnderlying30 sizeOf39 (by omega))) ?_
  refine AD.two (i := 10) (j := 16) kr_ ?_ ?_
  ·skip
   refine at_ rfl (lb_ 0) ?_
   refine a1_ 12 rfl (still_rs (l := mid) (h := ops.length) rfl ot ⟨_, ot⟩ trivial (by exact sl_tail rfl cO_len (fun h => by cases h) runUnderlying30 sizeOf39 (by omega))) ?_
   refine AD.one (i := 16) kr_ ?_
   refine at_ rfl (lb_ 0) ?_
   refine a1_ 19 rfl (still_rs (l := fr) (h := mid) rfl ot ⟨_, ot⟩ ⟨_, ot⟩ (by exact sl_list (fun h => by cases h) (fun h => by cases h) runUnderlying30 sizeOf39 (by omega) (by omega))) ?_
   refine AD.one (i := 20) kr_ ?_
   refine ab_ (numD 0 [_, _, _]) [.slice none 0 0, .slice none 0 0, .slice none 0 0] [_, _, _] zeroValue30 runUnderlying159 sizeOf30 (fun b26 => ?_)
   refine ag_ 0 26 1 3 ?_
   refine AD.one (i := 21) kr_ ?_
   refine AStep.call rfl wp_ rfl rfl rfl call111 hcc ⟨Eq.trans ot (by rw [fm_drop cO_len, fm_take cO_len, show (ops.drop fr).take (mid - fr) = (ops.take mid).drop fr from (List.drop_take).symm, show mid - fr = ((ops.take mid).drop fr).length from by rw [List.length_drop, List.length_take]; omega]; rfl), trivial⟩ (List.Perm.refl _) (by intro b hb; cases hb) ?_
   rintro _ S27 ⟨ad27, cap27, rfl, ho27⟩
   refine AD.perm (S' := ⟨br, 70, 3, [.list 3 (l.flatMap cT) l.length, .v (.int .i64 ((p : Nat) : Int)), .list 5 (ops.flatMap cO) ops.length]⟩ :: S27) (List.perm_append_comm) ?_
   refine a1_ 22 rfl nc_ ?_
   refine a1_ 23 rfl (fa_ 2) ?_
   refine AD.one (i := 24) kr_ ?_
   refine AStep.store (k := 0) (cs' := [_, _, _]) rfl wp_ rfl rfl ot rfl rfl ot rfl rfl sizeOf30 rfl rfl rfl (by intro b hb; simp [bks, St.put] at hb ⊢; try first | exact hb | simp [hb] | (rcases hb with hb | hb <;> simp [hb]) | (rcases hb with hb | hb | hb <;> simp [hb])) ?_
   refine AD.wk (y := ⟨30, [], (⟨br, 70, 3, [_, _, _]⟩ :: S27)⟩) (Wk.as_ rfl rfl trivial) rfl ?_
   refine AD.done kr_ ?_
   refine ⟨.inl rfl, _, ⟨br, 70, 3, [.list 3 (l.flatMap cT) l.length, .v (.int .i64 ((p : Nat) : Int)), .v (.slice ad27 (swapP ops fr mid).length cap27)]⟩ :: S27, List.Sublist.refl _, ret_none results108 , ?_⟩
   exact ⟨ad27, cap27, S27, ho27, rfl⟩
  refine at_ rfl (lb_ 0) ?_
  refine a1_ 19 rfl (still_rs (l := fr) (h := mid) rfl ot ⟨_, ot⟩ ⟨_, ot⟩ (by exact sl_list (fun h => by cases h) (fun h => by cases h) runUnderlying30 sizeOf39 (by omega) (by omega))) ?_
  refine AD.one (i := 10) kr_ ?_
  refine at_ rfl (lb_ 0) ?_
  refine a1_ 12 rfl (still_rs (l := mid) (h := ops.length) rfl ot ⟨_, ot⟩ trivial (by exact sl_tail rfl cO_len (fun h => by cases h) runUnderlying30 sizeOf39 (by omega))) ?_
  refine AD.one (i := 20) kr_ ?_
  refine ab_ (numD 0 [_, _, _]) [.slice none 0 0, .slice none 0 0, .slice none 0 0] [_, _, _] zeroValue30 runUnderlying159 sizeOf30 (fun b26 => ?_)
  refine ag_ 0 26 1 3 ?_
  refine AD.one (i := 21) kr_ ?_
  refine AStep.call rfl wp_ rfl rfl rfl call111 hcc ⟨Eq.trans ot (by rw [fm_drop cO_len, fm_take cO_len, show (ops.drop fr).take (mid - fr) = (ops.take mid).drop fr from (List.drop_take).symm, show mid - fr = ((ops.take mid).drop fr).length from by rw [List.length_drop, List.length_take]; omega]; rfl), trivial⟩ (List.Perm.refl _) (by intro b hb; cases hb) ?_
  rintro _ S27 ⟨ad27, cap27, rfl, ho27⟩
  refine AD.perm (S' := ⟨br, 70, 3, [.list 3 (l.flatMap cT) l.length, .v (.int .i64 ((p : Nat) : Int)), .list 5 (ops.flatMap cO) ops.length]⟩ :: S27) (List.perm_append_comm) ?_
  refine a1_ 22 rfl nc_ ?_
  refine a1_ 23 rfl (fa_ 2) ?_
  refine AD.one (i := 24) kr_ ?_
  refine AStep.store (k := 0) (cs' := [_, _, _]) rfl wp_ rfl rfl ot rfl rfl ot rfl rfl sizeOf30 rfl rfl rfl (by intro b hb; simp [bks, St.put] at hb ⊢; try first | exact hb | simp [hb] | (rcases hb with hb | hb <;> simp [hb]) | (rcases hb with hb | hb | hb <;> simp [hb])) ?_
  refine AD.wk (y := ⟨30, [], (⟨br, 70, 3, [_, _, _]⟩ :: S27)⟩) (Wk.as_ rfl rfl trivial) rfl ?_
  refine AD.done kr_ ?_
  refine ⟨.inl rfl, _, ⟨br, 70, 3, [.list 3 (l.flatMap cT) l.length, .v (.int .i64 ((p : Nat) : Int)), .v (.slice ad27 (swapP ops fr mid).length cap27)]⟩ :: S27, List.Sublist.refl _, ret_none results108 , ?_⟩
  exact ⟨ad27, cap27, S27, ho27, rfl⟩
 ·skip
  refine at_ rfl (lb_ 0) ?_
  refine a1_ 12 rfl (still_rs (l := mid) (h := ops.length) rfl ot ⟨_, ot⟩ trivial (by exact sl_tail rfl cO_len (fun h => by cases h) runUnderlying30 sizeOf39 (by omega))) ?_
  refine AD.two (i := 4) (j := 16) kr_ ?_ ?_
  ·skip
   refine at_ rfl (lb_ 0) ?_
   refine a1_ 6 rfl (still_rs (l := 0) (h := fr) rfl ot trivial ⟨_, ot⟩ (by exact sl_head cO_len (fun h => by cases h) runUnderlying30 sizeOf39 (by omega))) ?_
   refine AD.one (i := 16) kr_ ?_
   refine at_ rfl (lb_ 0) ?_
   refine a1_ 19 rfl (still_rs (l := fr) (h := mid) rfl ot ⟨_, ot⟩ ⟨_, ot⟩ (by exact sl_list (fun h => by cases h) (fun h => by cases h) runUnderlying30 sizeOf39 (by omega) (by omega))) ?_
   refine AD.one (i := 20) kr_ ?_
   refine ab_ (numD 0 [_, _, _]) [.slice none 0 0, .slice none 0 0, .slice none 0 0] [_, _, _] zeroValue30 runUnderlying159 sizeOf30 (fun b26 => ?_)
   refine ag_ 0 26 1 3 ?_
   refine AD.one (i := 21) kr_ ?_
   refine AStep.call rfl wp_ rfl rfl rfl call111 hcc ⟨Eq.trans ot (by rw [fm_drop cO_len, fm_take cO_len, show (ops.drop fr).take (mid - fr) = (ops.take mid).drop fr from (List.drop_take).symm, show mid - fr = ((ops.take mid).drop fr).length from by rw [List.length_drop, List.length_take]; omega]; rfl), trivial⟩ (List.Perm.refl _) (by intro b hb; cases hb) ?_
   rintro _ S27 ⟨ad27, cap27, rfl, ho27⟩
   refine AD.perm (S' := ⟨br, 70, 3, [.list 3 (l.flatMap cT) l.length, .v (.int .i64 ((p : Nat) : Int)), .list 5 (ops.flatMap cO) ops.length]⟩ :: S27) (List.perm_append_comm) ?_
   refine a1_ 22 rfl nc_ ?_
   refine a1_ 23 rfl (fa_ 2) ?_
   refine AD.one (i := 24) kr_ ?_
   refine AStep.store (k := 0) (cs' := [_, _, _]) rfl wp_ rfl rfl ot rfl rfl ot rfl rfl sizeOf30 rfl rfl rfl (by intro b hb; simp [bks, St.put] at hb ⊢; try first | exact hb | simp [hb] | (rcases hb with hb | hb <;> simp [hb]) | (rcases hb with hb | hb | hb <;> simp [hb])) ?_
   refine AD.wk (y := ⟨30, [], (⟨br, 70, 3, [_, _, _]⟩ :: S27)⟩) (Wk.as_ rfl rfl trivial) rfl ?_
   refine AD.done kr_ ?_
   refine ⟨.inl rfl, _, ⟨br, 70, 3, [.list 3 (l.flatMap cT) l.length, .v (.int .i64 ((p : Nat) : Int)), .v (.slice ad27 (swapP ops fr mid).length cap27)]⟩ :: S27, List.Sublist.refl _, ret_none results108 , ?_⟩
   exact ⟨ad27, cap27, S27, ho27, rfl⟩
  refine at_ rfl (lb_ 0) ?_
  refine a1_ 19 rfl (still_rs (l := fr) (h := mid) rfl ot ⟨_, ot⟩ ⟨_, ot⟩ (by exact sl_list (fun h => by cases h) (fun h => by cases h) runUnderlying30 sizeOf39 (by omega) (by omega))) ?_
  refine AD.one (i := 4) kr_ ?_
  refine at_ rfl (lb_ 0) ?_
  refine a1_ 6 rfl (still_rs (l := 0) (h := fr) rfl ot trivial ⟨_, ot⟩ (by exact sl_head cO_len (fun h => by cases h) runUnderlying30 sizeOf39 (by omega))) ?_
  refine AD.one (i := 20) kr_ ?_
  refine ab_ (numD 0 [_, _, _]) [.slice none 0 0, .slice none 0 0, .slice none 0 0] [_, _, _] zeroValue30 runUnderlying159 sizeOf30 (fun b26 => ?_)
  refine ag_ 0 26 1 3 ?_
  refine AD.one (i := 21) kr_ ?_
  refine AStep.call rfl wp_ rfl rfl rfl call111 hcc ⟨Eq.trans ot (by rw [fm_drop cO_len, fm_take cO_len, show (ops.drop fr).take (mid - fr) = (ops.take mid).drop fr from (List.drop_take).symm, show mid - fr = ((ops.take mid).drop fr).length from by rw [List.length_drop, List.length_take]; omega]; rfl), trivial⟩ (List.Perm.refl _) (by intro b hb; cases hb) ?_
  rintro _ S27 ⟨ad27, cap27, rfl, ho27⟩
  refine AD.perm (S' := ⟨br, 70, 3, [.list 3 (l.flatMap cT) l.length, .v (.int .i64 ((p : Nat) : Int)), .list 5 (ops.flatMap cO) ops.length]⟩ :: S27) (List.perm_append_comm) ?_
  refine a1_ 22 rfl nc_ ?_
  refine a1_ 23 rfl (fa_ 2) ?_
  refine AD.one (i := 24) kr_ ?_
  refine AStep.store (k := 0) (cs' := [_, _, _]) rfl wp_ rfl rfl ot rfl rfl ot rfl rfl sizeOf30 rfl rfl rfl (by intro b hb; simp [bks, St.put] at hb ⊢; try first | exact hb | simp [hb] | (rcases hb with hb | hb <;> simp [hb]) | (rcases hb with hb | hb | hb <;> simp [hb])) ?_
  refine AD.wk (y := ⟨30, [], (⟨br, 70, 3, [_, _, _]⟩ :: S27)⟩) (Wk.as_ rfl rfl trivial) rfl ?_
  refine AD.done kr_ ?_
  refine ⟨.inl rfl, _, ⟨br, 70, 3, [.list 3 (l.flatMap cT) l.length, .v (.int .i64 ((p : Nat) : Int)), .v (.slice ad27 (swapP ops fr mid).length cap27)]⟩ :: S27, List.Sublist.refl _, ret_none results108 , ?_⟩
  exact ⟨ad27, cap27, S27, ho27, rfl⟩
 refine at_ rfl (lb_ 0) ?_
 refine a1_ 19 rfl (still_rs (l := fr) (h := mid) rfl ot ⟨_, ot⟩ ⟨_, ot⟩ (by exact sl_list (fun h => by cases h) (fun h => by cases h) runUnderlying30 sizeOf39 (by omega) (by omega))) ?_
 refine AD.two (i := 4) (j := 10) kr_ ?_ ?_
 ·skip
  refine at_ rfl (lb_ 0) ?_
  refine a1_ 6 rfl (still_rs (l := 0) (h := fr) rfl ot trivial ⟨_, ot⟩ (by exact sl_head cO_len (fun h => by cases h) runUnderlying30 sizeOf39 (by omega))) ?_
  refine AD.one (i := 10) kr_ ?_
  refine at_ rfl (lb_ 0) ?_
  refine a1_ 12 rfl (still_rs (l := mid) (h := ops.length) rfl ot ⟨_, ot⟩ trivial (by exact sl_tail rfl cO_len (fun h => by cases h) runUnderlying30 sizeOf39 (by omega))) ?_
  refine AD.one (i := 20) kr_ ?_
  refine ab_ (numD 0 [_, _, _]) [.slice none 0 0, .slice none 0 0, .slice none 0 0] [_, _, _] zeroValue30 runUnderlying159 sizeOf30 (fun b26 => ?_)
  refine ag_ 0 26 1 3 ?_
  refine AD.one (i := 21) kr_ ?_
  refine AStep.call rfl wp_ rfl rfl rfl call111 hcc ⟨Eq.trans ot (by rw [fm_drop cO_len, fm_take cO_len, show (ops.drop fr).take (mid - fr) = (ops.take mid).drop fr from (List.drop_take).symm, show mid - fr = ((ops.take mid).drop fr).length from by rw [List.length_drop, List.length_take]; omega]; rfl), trivial⟩ (List.Perm.refl _) (by intro b hb; cases hb) ?_
  rintro _ S27 ⟨ad27, cap27, rfl, ho27⟩
  refine AD.perm (S' := ⟨br, 70, 3, [.list 3 (l.flatMap cT) l.length, .v (.int .i64 ((p : Nat) : Int)), .list 5 (ops.flatMap cO) ops.length]⟩ :: S27) (List.perm_append_comm) ?_
  refine a1_ 22 rfl nc_ ?_
  refine a1_ 23 rfl (fa_ 2) ?_
  refine AD.one (i := 24) kr_ ?_
  refine AStep.store (k := 0) (cs' := [_, _, _]) rfl wp_ rfl rfl ot rfl rfl ot rfl rfl sizeOf30 rfl rfl rfl (by intro b hb; simp [bks, St.put] at hb ⊢; try first | exact hb | simp [hb] | (rcases hb with hb | hb <;> simp [hb]) | (rcases hb with hb | hb | hb <;> simp [hb])) ?_
  refine AD.wk (y := ⟨30, [], (⟨br, 70, 3, [_, _, _]⟩ :: S27)⟩) (Wk.as_ rfl rfl trivial) rfl ?_
  refine AD.done kr_ ?_
  refine ⟨.inl rfl, _, ⟨br, 70, 3, [.list 3 (l.flatMap cT) l.length, .v (.int .i64 ((p : Nat) : Int)), .v (.slice ad27 (swapP ops fr mid).length cap27)]⟩ :: S27, List.Sublist.refl _, ret_none results108 , ?_⟩
  exact ⟨ad27, cap27, S27, ho27, rfl⟩
 refine at_ rfl (lb_ 0) ?_
 refine a1_ 12 rfl (still_rs (l := mid) (h := ops.length) rfl ot ⟨_, ot⟩ trivial (by exact sl_tail rfl cO_len (fun h => by cases h) runUnderlying30 sizeOf39 (by omega))) ?_
 refine AD.one (i := 4) kr_ ?_
 refine at_ rfl (lb_ 0) ?_
 refine a1_ 6 rfl (still_rs (l := 0) (h := fr) rfl ot trivial ⟨_, ot⟩ (by exact sl_head cO_len (fun h => by cases h) runUnderlying30 sizeOf39 (by omega))) ?_
 refine AD.one (i := 20) kr_ ?_
 refine ab_ (numD 0 [_, _, _]) [.slice none 0 0, .slice none 0 0, .slice none 0 0] [_, _, _] zeroValue30 runUnderlying159 sizeOf30 (fun b26 => ?_)
 refine ag_ 0 26 1 3 ?_
 refine AD.one (i := 21) kr_ ?_
 refine AStep.call rfl wp_ rfl rfl rfl call111 hcc ⟨Eq.trans ot (by rw [fm_drop cO_len, fm_take cO_len, show (ops.drop fr).take (mid - fr) = (ops.take mid).drop fr from (List.drop_take).symm, show mid - fr = ((ops.take mid).drop fr).length from by rw [List.length_drop, List.length_take]; omega]; rfl), trivial⟩ (List.Perm.refl _) (by intro b hb; cases hb) ?_
 rintro _ S27 ⟨ad27, cap27, rfl, ho27⟩
 refine AD.perm (S' := ⟨br, 70, 3, [.list 3 (l.flatMap cT) l.length, .v (.int .i64 ((p : Nat) : Int)), .list 5 (ops.flatMap cO) ops.length]⟩ :: S27) (List.perm_append_comm) ?_
 refine a1_ 22 rfl nc_ ?_
 refine a1_ 23 rfl (fa_ 2) ?_
 refine AD.one (i := 24) kr_ ?_
 refine AStep.store (k := 0) (cs' := [_, _, _]) rfl wp_ rfl rfl ot rfl rfl ot rfl rfl sizeOf30 rfl rfl rfl (by intro b hb; simp [bks, St.put] at hb ⊢; try first | exact hb | simp [hb] | (rcases hb with hb | hb <;> simp [hb]) | (rcases hb with hb | hb | hb <;> simp [hb])) ?_
 refine AD.wk (y := ⟨30, [], (⟨br, 70, 3, [_, _, _]⟩ :: S27)⟩) (Wk.as_ rfl rfl trivial) rfl ?_
 refine AD.done kr_ ?_
 refine ⟨.inl rfl, _, ⟨br, 70, 3, [.list 3 (l.flatMap cT) l.length, .v (.int .i64 ((p : Nat) : Int)), .v (.slice ad27 (swapP ops fr mid).length cap27)]⟩ :: S27, List.Sublist.refl _, ret_none results108 , ?_⟩
 exact ⟨ad27, cap27, S27, ho27, rfl⟩

end Go.Proofs.YtjgekbmahhhokaaDoor.Pa

namespace Go.Proofs.YtjgekbmahhhokaaDoor.Pa
open Go.Proofs.Tryd
open Go.RowKit V Pk Go.Proofs.YtjgekbmahhhokaaDoor.Vl Go.Proofs.YtjgekbmahhhokaaDoor.Nm
variable {G : List (Nat × List Value)}
theorem bind_inv {α β : Type} {r : Rs α} {f : α → Nat → List OpL → Rs β} {v : β} {p : Nat} {os : List OpL} (h : r.bind f = .ok v p os) : ∃ a q o, r = .ok a q o ∧ f a q o = .ok v p os := by
 cases r with
 | ok a q o => exact ⟨a, q, o, rfl, h⟩
 | no q e => cases h
 | stuck => cases h
theorem put_inv {l : List Tk} {o : OpL} {p q : Nat} {ops os : List OpL} {u : Unit} (h : putP l o p ops = .ok u q os) : q = p ∧ os = ops ++ [o] ∧ ops.length ≠ 40 := by
 unfold putP gv at h
 split at h
 ·cases h
 cases h; exact ⟨rfl, rfl, by assumption⟩
theorem mark_inv {l : List Tk} {s : ByteArray} {p q : Nat} {ops os : List OpL} {u : Unit} (h : markP l s p ops = .ok u q os) : q = p + 1 ∧ os = ops ∧ isQ l p 4 s = true := by
 unfold markP gv at h
 split at h
 ·cases h; exact ⟨rfl, rfl, by assumption⟩
 cases h
theorem swap_pre {ops o1 o2 : List OpL} (h1 : ops <+: o1) (h2 : o1 <+: o2) : ops <+: swapP o2 ops.length o1.length := by
 obtain ⟨a, rfl⟩ := h1; obtain ⟨b, rfl⟩ := h2
 unfold swapP
 rw [List.append_assoc, List.append_assoc, List.take_left' rfl]
 exact ⟨_, rfl⟩
theorem lit_lt {l : List Tk} {p : Nat} {ops : List OpL} {v : Vl × Bool} {q : Nat} {os : List OpL} (h : litP l p ops = .ok v q os) (hv : v.2 = true) : p + 1 ≤ q := by
 unfold litP gv at h
 split at h
 ·cases h; omega
 split at h
 ·cases h; omega
 split at h
 ·cases h; omega
 split at h
 ·split at h <;> cases h; omega
 split at h
 ·split at h
  ·cases h; omega
  cases h
 split at h
 ·cases h; omega
 cases h; cases hv
def wL : Lv → Nat
 | .prodL | .sumL | .andL | .orL => 0
 | _ => 1
def Gr (l : List Tk) (w v p q : Nat) (ops os : List OpL) : Prop := ops <+: os ∧ q ≤ l.length ∧ p + w ≤ q ∧ ops.length + v ≤ os.length
theorem Gr.trans {l : List Tk} {w w' v v' p p1 q : Nat} {ops o1 os : List OpL} (h : Gr l w v p p1 ops o1) (k : Gr l w' v' p1 q o1 os) : Gr l w v p q ops os := ⟨h.1.trans k.1, k.2.1, by have := h.2.2.1; have := k.2.2.1; omega, by have := h.2.2.2; have := k.2.2.2; omega⟩
theorem Gr.step {l : List Tk} {w v p q : Nat} {ops os : List OpL} (h : Gr l w v (p + 1) q ops os) : Gr l 1 v p q ops os := ⟨h.1, h.2.1, by have := h.2.2.1; omega, h.2.2.2⟩
theorem Gr.put {l : List Tk} {w v p q r : Nat} {o : OpL} {ops os o2 : List OpL} {u : Unit} (h : Gr l w v p q ops os) (k : putP l o q os = .ok u r o2) : Gr l w 1 p r ops o2 := by
 obtain ⟨rfl, rfl, -⟩ := put_inv k
 exact ⟨h.1.trans ⟨_, rfl⟩, h.2.1, h.2.2.1, by have := h.1.length_le; rw [List.length_append]; show _ ≤ _ + 1; omega⟩
theorem Gr.less {l : List Tk} {w v p q : Nat} {ops os : List OpL} (h : Gr l w v p q ops os) : Gr l 0 0 p q ops os := ⟨h.1, h.2.1, by have := h.2.2.1; omega, h.1.length_le⟩
theorem exP_step {l : List Tk} {k : Int} {s : ByteArray} {f g : Nat → List OpL → Rs Unit} {o : OpL} {p q : Nat} {ops os : List OpL} {u : Unit} (hq : isQ l p k s = true) (h : ((f (p + 1) ops).bind fun _ p ops => (putP l o p ops).bind fun _ p ops => g p ops) = .ok u q os)
  (hf : ∀ {p q : Nat} {ops os : List OpL} {u : Unit}, f p ops = .ok u q os → p ≤ l.length → Gr l 1 1 p q ops os) (hg : ∀ {p q : Nat} {ops os : List OpL} {u : Unit}, g p ops = .ok u q os → p ≤ l.length → Gr l 0 0 p q ops os) : Gr l 0 0 p q ops os := by
 obtain ⟨_, p1, o1, h1, h2⟩ := bind_inv h
 obtain ⟨_, p2, o2, h3, h4⟩ := bind_inv h2
 have g1 := (hf h1 (isQ_lt hq)).put h3
 exact (g1.trans (hg h4 g1.2.1)).step.less
theorem exP_gr {l : List Tk} : ∀ (n : Nat) (lv : Lv) {p q : Nat} {ops os : List OpL} {u : Unit}, exP l n lv p ops = .ok u q os → p ≤ l.length → Gr l (wL lv) (wL lv) p q ops os
 | 0, _, _, _, _, _, _, h, _ => by cases h
 | n + 1, .prim, p, q, ops, os, u, h, hp => by
  rw [exP] at h
  obtain ⟨v, p1, o1, h1, h2⟩ := bind_inv h
  obtain ⟨rfl, hl1, hl0, hl2⟩ := lit_le h1 hp
  split at h2
  ·have hlt := lit_lt h1 (by assumption)
   exact Gr.put (v := 0) ⟨List.prefix_refl _, hl1, hlt, Nat.le_refl _⟩ h2
  split at h2
  ·obtain ⟨_, p2, o2, h3, h4⟩ := bind_inv h2
   obtain ⟨rfl, rfl, hq⟩ := mark_inv h4
   have g := exP_gr n .or h3 (isQ_lt (by assumption))
   exact ⟨g.1, isQ_lt hq, by have := g.2.2.1; show p + 1 ≤ _; omega, g.2.2.2⟩
  obtain ⟨s, p2, o2, h3, h4⟩ := bind_inv h2
  obtain ⟨rfl, rfl, hlt⟩ := name_le h3
  exact Gr.put (v := 0) ⟨List.prefix_refl _, hlt, by show p + 1 ≤ p1 + 1; omega, Nat.le_refl _⟩ h4
 | n + 1, .prod, p, q, ops, os, u, h, hp => by
  rw [exP] at h
  obtain ⟨_, p1, o1, h1, h2⟩ := bind_inv h
  have g := exP_gr n .prim h1 hp
  exact g.trans (exP_gr n .prodL h2 g.2.1)
 | n + 1, .sum, p, q, ops, os, u, h, hp => by
  rw [exP] at h
  obtain ⟨_, p1, o1, h1, h2⟩ := bind_inv h
  have g := exP_gr n .prod h1 hp
  exact g.trans (exP_gr n .sumL h2 g.2.1)
 | n + 1, .comp, p, q, ops, os, u, h, hp => by
  rw [exP] at h
  obtain ⟨_, p1, o1, h1, h2⟩ := bind_inv h
  have g1 := exP_gr n .sum h1 hp
  split at h2
  ·rename_i hq
   obtain ⟨_, p2, o2, h3, h4⟩ := bind_inv h2
   obtain ⟨_, p3, o3, h5, h6⟩ := bind_inv h4
   have hlt := isQ_lt hq
   have hle : (if isQ l (p1 + 1) 1 ⟨#[78, 79, 84]⟩ = true then p1 + 2 else p1 + 1) ≤ l.length := by
    split
    ·exact isQ_lt (by assumption)
    omega
   obtain ⟨rfl, e2, e3⟩ := must_le h3 hle
   have g2 : Gr l 0 0 p1 p2 o2 o2 := ⟨List.prefix_refl _, e2, by split at e3 <;> omega, Nat.le_refl _⟩
   have g3 := (g1.trans g2).put h5
   split at h6
   ·exact g3.put h6
   cases h6; exact g3
  split at h2
  ·cases h2; exact g1
  obtain ⟨_, p2, o2, h3, h4⟩ := bind_inv h2
  obtain ⟨_, p3, o3, h5, h6⟩ := bind_inv h4
  have hm := List.find?_some (by assumption)
  have g2 := exP_gr n .sum h3 (isQ_lt (by simpa using hm))
  have g3 : Gr l 1 1 p p3 ops o3 := by
   have hpr : ∀ b : Bool, ops <+: (if b = true then swapP o2 ops.length o1.length else o2) := by
    intro b; split
    ·exact swap_pre g1.1 g2.1
    exact g1.1.trans g2.1
   exact Gr.put (v := 0) (q := p2) ⟨hpr _, g2.2.1, by have := g1.2.2.1; have := g2.2.2.1; simp only [wL] at *; omega, (hpr _).length_le⟩ h5
  split at h6
  ·exact g3.put h6
  cases h6; exact g3
 | n + 1, .not, p, q, ops, os, u, h, hp => by
  rw [exP] at h
  split at h
  ·obtain ⟨_, p1, o1, h1, h2⟩ := bind_inv h
   exact ((exP_gr n .not h1 (isQ_lt (by assumption))).put h2).step
  exact exP_gr n .comp h hp
 | n + 1, .and, p, q, ops, os, u, h, hp => by
  rw [exP] at h
  obtain ⟨_, p1, o1, h1, h2⟩ := bind_inv h
  have g := exP_gr n .not h1 hp
  exact g.trans (exP_gr n .andL h2 g.2.1)
 | n + 1, .or, p, q, ops, os, u, h, hp => by
  rw [exP] at h
  obtain ⟨_, p1, o1, h1, h2⟩ := bind_inv h
  have g := exP_gr n .and h1 hp
  exact g.trans (exP_gr n .orL h2 g.2.1)
 | n + 1, .prodL, p, q, ops, os, u, h, hp => by
  rw [exP] at h
  split at h
  ·exact exP_step (by assumption) h (fun h hp => exP_gr n .prim h hp) (fun h hp => exP_gr n .prodL h hp)
  cases h; exact ⟨List.prefix_refl _, hp, Nat.le_refl _, Nat.le_refl _⟩
 | n + 1, .sumL, p, q, ops, os, u, h, hp => by
  rw [exP] at h
  split at h
  ·exact exP_step (by assumption) h (fun h hp => exP_gr n .prod h hp) (fun h hp => exP_gr n .sumL h hp)
  split at h
  ·exact exP_step (by assumption) h (fun h hp => exP_gr n .prod h hp) (fun h hp => exP_gr n .sumL h hp)
  cases h; exact ⟨List.prefix_refl _, hp, Nat.le_refl _, Nat.le_refl _⟩
 | n + 1, .andL, p, q, ops, os, u, h, hp => by
  rw [exP] at h
  split at h
  ·exact exP_step (by assumption) h (fun h hp => exP_gr n .not h hp) (fun h hp => exP_gr n .andL h hp)
  cases h; exact ⟨List.prefix_refl _, hp, Nat.le_refl _, Nat.le_refl _⟩
 | n + 1, .orL, p, q, ops, os, u, h, hp => by
  rw [exP] at h
  split at h
  ·exact exP_step (by assumption) h (fun h hp => exP_gr n .and h hp) (fun h hp => exP_gr n .orL h hp)
  cases h; exact ⟨List.prefix_refl _, hp, Nat.le_refl _, Nat.le_refl _⟩

def compK (l : List Tk) (n : Nat) (fr : Nat) (p1 : Nat) (ops1 : List OpL) : Rs Unit :=
 if isQ l p1 1 ⟨#[73, 83]⟩ = true then (mustP l [wNULL] (if isQ l (p1 + 1) 1 ⟨#[78, 79, 84]⟩ = true then p1 + 2 else p1 + 1) ops1).bind fun _ p2 ops2 =>
  (putP l (opN 11) p2 ops2).bind fun _ p3 ops3 => if isQ l (p1 + 1) 1 ⟨#[78, 79, 84]⟩ = true then putP l (opN 5) p3 ops3 else .ok () p3 ops3
 else match marksP.find? fun m => isQ l p1 4 m.1 with
  | none => .ok () p1 ops1
  | some m => (exP l n .sum (p1 + 1) ops1).bind fun _ p2 ops2 => (putP l (opN m.2.1) p2 (if m.2.2.1 = true then swapP ops2 fr ops1.length else ops2)).bind fun _ p3 ops3 => if m.2.2.2 = true then putP l (opN 5) p3 ops3 else .ok () p3 ops3
theorem comp_eq {l : List Tk} {n p : Nat} {ops : List OpL} : exP l (n + 1) .comp p ops = (exP l n .sum p ops).bind (fun _ p1 o1 => compK l n ops.length p1 o1) := by rw [exP]; rfl
def cmpC : List Value := marksP.flatMap fun m => [.string m.1, .int .i64 m.2.1, .bool m.2.2.1, .bool m.2.2.2]
theorem cmp_at {j : Nat} (h : j < 6) : ((cmpC.map D.v).drop (j * 4)).take 4 = [.v (.string (marksP[j]'h).1), .v (.int .i64 (marksP[j]'h).2.1), .v (.bool (marksP[j]'h).2.2.1), .v (.bool (marksP[j]'h).2.2.2)] := by
 rcases j with _ | _ | _ | _ | _ | _ | j <;> first | rfl | omega
theorem find_no {j : Nat} (h : j < 6) {f : ByteArray × Int × Bool × Bool → Bool} (hf : f (marksP[j]'h) = false) : (marksP.drop j).find? f = (marksP.drop (j + 1)).find? f := by
 rw [List.drop_eq_getElem_cons (l := marksP) (i := j) h, List.find?_cons, hf]
theorem find_yes {j : Nat} (h : j < 6) {f : ByteArray × Int × Bool × Bool → Bool} (hf : f (marksP[j]'h) = true) : (marksP.drop j).find? f = some (marksP[j]'h) := by
 rw [List.drop_eq_getElem_cons (l := marksP) (i := j) h, List.find?_cons, hf]
theorem comp_T {l : List Tk} {n fr p1 : Nat} {o1 : List OpL} (h : isQ l p1 1 ⟨#[73, 83]⟩ = true) : compK l n fr p1 o1 = (mustP l [wNULL] (if isQ l (p1 + 1) 1 ⟨#[78, 79, 84]⟩ = true then p1 + 1 + 1 else p1 + 1) o1).bind fun _ p2 ops2 => (putP l (opN 11) p2 ops2).bind fun _ p3 ops3 => if isQ l (p1 + 1) 1 ⟨#[78, 79, 84]⟩ = true then putP l (opN 5) p3 ops3 else .ok () p3 ops3 := by unfold compK; rw [if_pos h]
theorem comp_N {l : List Tk} {n fr p1 : Nat} {o1 : List OpL} (h : isQ l p1 1 ⟨#[73, 83]⟩ = false) (hf : (marksP.find? fun m => isQ l p1 4 m.1) = none) : compK l n fr p1 o1 = .ok () p1 o1 := by unfold compK; rw [if_neg (F_ h), hf]
theorem comp_S {l : List Tk} {n fr p1 : Nat} {o1 : List OpL} {m : ByteArray × Int × Bool × Bool} (h : isQ l p1 1 ⟨#[73, 83]⟩ = false) (hf : (marksP.find? fun m => isQ l p1 4 m.1) = some m) : compK l n fr p1 o1 = (exP l n .sum (p1 + 1) o1).bind fun _ p2 ops2 => (putP l (opN m.2.1) p2 (if m.2.2.1 = true then swapP ops2 fr o1.length else ops2)).bind fun _ p3 ops3 => if m.2.2.2 = true then putP l (opN 5) p3 ops3 else .ok () p3 ops3 := by unfold compK; rw [if_neg (F_ h), hf]

theorem places39_Pa7 : ∀ w, ((#[{ name := "Kind", type := 3, offset := 0, embedded := false, tag := "", pkgPath := "", byteOffset := 0 }, { name := "Value", type := 37, offset := 1, embedded := false, tag := "", pkgPath := "", byteOffset := 8 }, { name := "Name", type := 9, offset := 4, embedded := false, tag := "", pkgPath := "", byteOffset := 40 }] : Array Field).mapM fun f => do pure (f.offset, ← sizeOf f.type) : Sem (Array (Nat × Nat))).run Tryd.prog w = .ok #[(0, 1), (1, 3), (4, 1)] w := fun w => by simp [sizeOf3, sizeOf37, sizeOf9]

theorem comp_x {br : Nat} {l : List Tk} (hl : l.length ≤ 100) (hk : (5, cmpC) ∈ G) {n : Nat} (ih : ∀ m, m ≤ n → AllL G br l m) (p : Nat) (ops : List OpL) (hp : p ≤ l.length) (h40 : ops.length ≤ 40) (R : Rs Unit) (hR : R = exP l (n + 1) .comp p ops) (hns : R ≠ .stuck) (ad : Option Addr) (cap : Nat) (So : List Blk) (ho : OwnO ops ad cap So) : VX Tryd.prog G 103 [.v (.pointer (some ⟨br, 0, none⟩))] (⟨br, 70, 3, [.list 3 (l.flatMap cT) l.length, .v (.int .i64 ((p : Nat) : Int)), .v (.slice ad ops.length cap)]⟩ :: So) (fun _ S' => EndX br l R S') (PanX R) := by
 refine VX.body func103 rfl ntmps103 le_ fun X0 w0 S00 => ?_
 refine CD.seq ?_
 have hR0 := hR.trans comp_eq
 refine CD.region ?_
 refine om_ ?_
 refine os_ nc_ ?_
 refine os_ (fa_ 2) ?_
 refine os_ (lb_ 0) ?_
 refine os_ ln_ ?_
 refine om_ ?_
 refine nm_ [0, 2] ?_
 refine sr_ ?_
 refine om_ ?_
 have hs1 : exP l n .sum p ops ≠ .stuck := bind_ns (f := fun _ p1 o1 => compK l n ops.length p1 o1) (by rw [hR0] at hns; exact hns)
 refine OD.callX wp_ rfl rfl rfl call107 ((ih _ (by omega)).sum p ops hp h40 hs1 ad cap So ho) ⟨ot, trivial⟩ (perm_all _) (fun ch hch => (Or.inr ⟨ch, rfl, by obtain ⟨q, e, h1, h2⟩ := hch; exact ⟨q, e, hR0.trans (by rw [h1]; rfl), h2⟩⟩ : BodyX _ _ _ _ _ _)) ?_
 rintro _ _ ⟨p1, o1, hr1, hq1, h01, hp1, ad1, cap1, So1, ho1, rfl⟩
 refine OD.perm (S' := ⟨br, 70, 3, [.list 3 (l.flatMap cT) l.length, .v (.int .i64 ((p1 : Nat) : Int)), .v (.slice ad1 o1.length cap1)]⟩ :: So1) (perm_all _).symm ?_
 have hR1 : R = compK l n ops.length p1 o1 := hR0.trans (by rw [hr1]; rfl)
 have hlen1 := (exP_gr _ _ hr1 hp).1.length_le
 refine OD.wk (Wk.as_ (n := 61) (l' := [(0, _), (2, _)]) (S' := (⟨br, 70, 3, [_, _, _]⟩ :: So1)) rfl rfl sl_) ?_
 refine OD.nil ?_
 refine CD.seq ?_
 refine sr_ ?_
 refine om_ ?_
 refine OD.call wp_ rfl rfl rfl call43 (eat_vc l hl p1 1 ⟨#[73, 83]⟩ ad1 o1.length cap1 br) ⟨ot, opd_const, opd_const, trivial⟩ (List.Perm.refl _) ?_
 rintro _ _ ⟨rfl, rfl⟩
 refine OD.perm (S' := ⟨br, 70, 3, [.list 3 (l.flatMap cT) l.length, .v (.int .i64 (((if isQ l p1 1 ⟨#[73, 83]⟩ = true then p1 + 1 else p1) : Nat) : Int)), .v (.slice ad1 o1.length cap1)]⟩ :: So1) (List.Perm.refl _) ?_
 refine OD.wk (Wk.as_ (n := 61) (l' := [(0, _), (2, _), (15, _)]) (S' := (⟨br, 70, 3, [_, _, _]⟩ :: So1)) rfl rfl sl_) ?_
 refine OD.nil ?_
 refine CD.cond ot (fun hc0 => ?_) (fun hc0 => ?_)
 ·have hc0' := hc0
  (try simp only [V.cnd, ne_eq] at hc0')
  have et : isQ l p1 1 ⟨#[73, 83]⟩ = true := hc0
  rw [et]
  simp only [if_true]
  have hR2 : R = (mustP l [wNULL] (if isQ l (p1 + 1) 1 ⟨#[78, 79, 84]⟩ = true then (p1 + 1) + 1 else (p1 + 1)) o1).bind (fun _ p2 ops2 => (putP l (opN 11) p2 ops2).bind fun _ p3 ops3 => if isQ l (p1 + 1) 1 ⟨#[78, 79, 84]⟩ = true then putP l (opN 5) p3 ops3 else .ok () p3 ops3) := hR1.trans (comp_T et)
  refine sr_ ?_
  refine om_ ?_
  refine OD.call wp_ rfl rfl rfl call43 (eat_vc l hl (p1 + 1) 1 ⟨#[78, 79, 84]⟩ ad1 o1.length cap1 br) ⟨ot, opd_const, opd_const, trivial⟩ (List.Perm.refl _) ?_
  rintro _ _ ⟨rfl, rfl⟩
  refine OD.perm (S' := ⟨br, 70, 3, [.list 3 (l.flatMap cT) l.length, .v (.int .i64 (((if isQ l (p1 + 1) 1 ⟨#[78, 79, 84]⟩ = true then (p1 + 1) + 1 else (p1 + 1)) : Nat) : Int)), .v (.slice ad1 o1.length cap1)]⟩ :: So1) (List.Perm.refl _) ?_
  refine om_ ?_
  refine OD.wk (Wk.as_ (n := 61) (l' := [(0, _), (3, _)]) (S' := (⟨br, 70, 3, [_, _, _]⟩ :: So1)) rfl rfl sl_) ?_
  refine OD.nil ?_
  refine sr_ ?_
  refine om_ ?_
  refine ob_ (numD 0 [_]) [.string ⟨#[]⟩] [_] zeroValue9 runUnderlying29 sizeOf9 (fun b19 => ?_)
  refine og_ 0 19 1 1 ?_
  have hle3 : (if isQ l (p1 + 1) 1 ⟨#[78, 79, 84]⟩ = true then (p1 + 1) + 1 else (p1 + 1)) ≤ l.length := by (split; exact isQ_lt (by assumption); exact (isQ_lt et))
  refine OD.callX wp_ rfl rfl rfl call44 (must_vx l hl [wNULL] (by decide) (if isQ l (p1 + 1) 1 ⟨#[78, 79, 84]⟩ = true then (p1 + 1) + 1 else (p1 + 1)) ad1 o1.length cap1 br) ⟨ot, by exact rfl, trivial⟩ (List.Perm.refl _) (fun ch hch => (Or.inr ⟨ch, rfl, by obtain ⟨q, e, h1, h2⟩ := hch; exact ⟨q, e, hR2.trans (by rw [h1]; rfl), h2⟩⟩ : BodyX _ _ _ _ _ _)) ?_
  rintro _ _ ⟨p3, hr3, rfl⟩
  refine OD.perm (S' := ⟨br, 70, 3, [.list 3 (l.flatMap cT) l.length, .v (.int .i64 ((p3 : Nat) : Int)), .v (.slice ad1 o1.length cap1)]⟩ :: So1) (List.Perm.refl _) ?_
  obtain ⟨-, hp3, h03⟩ := must_le (hr3 []) hle3
  have h13 : 0 < p3 := by (split at h03 <;> omega)
  have hR3 : R = (putP l (opN 11) p3 o1).bind (fun _ p3 ops3 => if isQ l (p1 + 1) 1 ⟨#[78, 79, 84]⟩ = true then putP l (opN 5) p3 ops3 else .ok () p3 ops3) := hR2.trans (by rw [hr3]; rfl)
  refine OD.wk (Wk.as_ (n := 61) (l' := [(0, _), (3, _)]) (S' := (⟨br, 70, 3, [_, _, _]⟩ :: So1)) rfl rfl sl_) ?_
  refine OD.nil ?_
  refine sr_ ?_
  refine om_ ?_
  refine os_ (still_bld (pl := [(0, _)]) (ds := [_, _, _, _, _]) rfl zeroValue39 runUnderlying39 places39_Pa7 ⟨rfl, opd_const, trivial⟩ rfl rfl) ?_
  refine OD.callX wp_ rfl rfl rfl call91 (put_vx l hl (opN 11) p3 h13 (Nat.le_trans hp3 (by omega)) o1 hq1 ad1 cap1 br So1 ho1) ⟨ot, ot, trivial⟩ (perm_all _) (fun ch hch => (Or.inr ⟨ch, rfl, by obtain ⟨q, e, h1, h2⟩ := hch; exact ⟨q, e, hR3.trans (by rw [h1]; rfl), h2⟩⟩ : BodyX _ _ _ _ _ _)) ?_
  rintro _ _ ⟨o4, hr4, hq4, ad4, cap4, So4, ho4, rfl⟩
  refine OD.perm (S' := ⟨br, 70, 3, [.list 3 (l.flatMap cT) l.length, .v (.int .i64 ((p3 : Nat) : Int)), .v (.slice ad4 o4.length cap4)]⟩ :: So4) (perm_all _).symm ?_
  have hR4 : R = if isQ l (p1 + 1) 1 ⟨#[78, 79, 84]⟩ = true then putP l (opN 5) p3 o4 else .ok () p3 o4 := hR3.trans (by rw [hr4]; rfl)
  refine OD.wk (Wk.as_ (n := 61) (l' := [(0, _), (3, _)]) (S' := (⟨br, 70, 3, [_, _, _]⟩ :: So4)) rfl rfl sl_) ?_
  refine OD.nil ?_
  refine CD.seq ?_
  refine sr_ ?_
  refine om_ ?_
  refine nm_ [0, 24] ?_
  refine CD.cond ot (fun hc1 => ?_) (fun hc1 => ?_)
  ·have hc1' := hc1
   (try simp only [V.cnd, ne_eq] at hc1')
   have hR5 : R = putP l (opN 5) p3 o4 := hR4.trans (by rw [if_pos hc1])
   refine CD.region ?_
   refine om_ ?_
   refine os_ (still_bld (pl := [(0, _)]) (ds := [_, _, _, _, _]) rfl zeroValue39 runUnderlying39 places39_Pa7 ⟨rfl, opd_const, trivial⟩ rfl rfl) ?_
   refine OD.callX wp_ rfl rfl rfl call91 (put_vx l hl (opN 5) p3 h13 (Nat.le_trans hp3 (by omega)) o4 hq4 ad4 cap4 br So4 ho4) ⟨ot, ot, trivial⟩ (perm_all _) (fun ch hch => (Or.inr ⟨ch, rfl, by obtain ⟨q, e, h1, h2⟩ := hch; exact ⟨q, e, hR5.trans h1, h2⟩⟩ : BodyX _ _ _ _ _ _)) ?_
   rintro _ _ ⟨o6, hr6, hq6, ad6, cap6, So6, ho6, rfl⟩
   refine OD.perm (S' := ⟨br, 70, 3, [.list 3 (l.flatMap cT) l.length, .v (.int .i64 ((p3 : Nat) : Int)), .v (.slice ad6 o6.length cap6)]⟩ :: So6) (perm_all _).symm ?_
   have hR6 : R = .ok () p3 o6 := hR5.trans hr6
   refine OD.wk (Wk.as_ (n := 61) (l' := []) (S' := (⟨br, 70, 3, [_, _, _]⟩ :: So6)) rfl rfl trivial) ?_
   refine OD.nil ?_
   refine CD.ret ?_
   refine Or.inl ?_
   refine ⟨.inr rfl, _, ⟨br, 70, 3, [.list 3 (l.flatMap cT) l.length, .v (.int .i64 ((p3 : Nat) : Int)), .v (.slice ad6 o6.length cap6)]⟩ :: So6, su_, ret_none results103 , ?_⟩
   exact ⟨p3, o6, hR6, hq6, h13, hp3, ad6, cap6, So6, ho6, rfl⟩
  have hR7 : R = .ok () p3 o4 := hR4.trans (by rw [if_neg (F_ hc1)])
  refine CD.skip ?_
  refine CD.ret ?_
  refine Or.inl ?_
  refine ⟨.inr rfl, _, ⟨br, 70, 3, [.list 3 (l.flatMap cT) l.length, .v (.int .i64 ((p3 : Nat) : Int)), .v (.slice ad4 o4.length cap4)]⟩ :: So4, su_, ret_none results103 , ?_⟩
  exact ⟨p3, o4, hR7, hq4, h13, hp3, ad4, cap4, So4, ho4, rfl⟩
 have hc0' := hc0
 (try simp only [V.cnd, ne_eq] at hc0')
 have ef : isQ l p1 1 ⟨#[73, 83]⟩ = false := hc0
 rw [ef]
 simp only [Bool.false_eq_true, if_false]
 refine CD.skip ?_
 refine sr_ ?_
 refine os_ (still_r1 (mk := Op.load 150) rfl opd_glob (by exact ld_tabs hk isAgg150 sizeOf150 rfl)) ?_
 refine om_ ?_
 refine OD.wk (Wk.as_ (n := 61) (l' := [(0, _), (2, _), (28, _), (29, _)]) (S' := (⟨br, 70, 3, [_, _, _]⟩ :: So1)) rfl rfl sl_) ?_
 refine OD.nil ?_
 refine CD.block ?_
 refine lp_ (fun (j : Nat) y__ => (j ≤ 6) ∧ (marksP.find? (fun m : ByteArray × Int × Bool × Bool => isQ l p1 4 m.1) = (marksP.drop j).find? (fun m : ByteArray × Int × Bool × Bool => isQ l p1 4 m.1)) ∧ y__ = (⟨61, [(0, .v (.pointer (some ⟨br, 0, none⟩))), (2, .v (.int .i64 (ops.length : Nat))), (28, .agg (cmpC.map .v)), (29, .v (.int .i64 (j : Nat)))], (⟨br, 70, 3, [.list 3 (l.flatMap cT) l.length, .v (.int .i64 ((p1 : Nat) : Int)), .v (.slice ad1 o1.length cap1)]⟩ :: So1)⟩ : St)) (fun (j : Nat) => 6 - j) 0 ⟨(Nat.zero_le _), (by rw [List.drop_zero]), rfl⟩ (Wk.asS rfl sv_ sq_) ?_
 rintro j _ ⟨hj6, hfd, rfl⟩
 refine sr_ ?_
 refine os_ bn_ ?_
 refine nm_ [0, 2, 28, 29, 30] ?_
 refine CD.seq ?_
 refine CD.cond ot (fun hc2 => ?_) (fun hc2 => ?_)
 ·have hc2' := hc2
  (try simp only [V.cnd, ne_eq] at hc2')
  have hlt : j < 6 := by simp at hc2; omega
  refine CD.skip ?_
  refine CD.seq ?_
  refine CD.block ?_
  refine sr_ ?_
  refine os_ (still_vidxs (j := j) rfl ot ot runUnderlying150 sizeOf149 isAgg149 rfl hlt (cmp_at hlt)) ?_
  refine OD.alloc (ds := [_, _, _, _]) wp_ rfl rfl zeroValue149 rfl (fun b5 => ?_)
  refine ot_ 0 [_, _, _, _] sizeOf149 ?_
  refine OD.wk (Wk.as_ (n := 61) (l' := [(0, _), (2, _), (5, _), (28, _), (29, _)]) (S' := (⟨b5, 149, 4, [_, _, _, _]⟩ :: ⟨br, 70, 3, [_, _, _]⟩ :: So1)) rfl rfl sl_) ?_
  refine OD.nil ?_
  refine CD.seq ?_
  refine sr_ ?_
  refine om_ ?_
  refine os_ (fa_ 0) ?_
  refine os_ (lb_ 0) ?_
  refine OD.call wp_ rfl rfl rfl call43 (eat_vc l hl p1 4 (marksP[j]'hlt).1 ad1 o1.length cap1 br) ⟨ot, opd_const, ot, trivial⟩ (List.Perm.swap _ _ _) ?_
  rintro _ _ ⟨rfl, rfl⟩
  refine OD.perm (S' := ⟨b5, 149, 4, [_, _, _, _]⟩ :: ⟨br, 70, 3, [.list 3 (l.flatMap cT) l.length, .v (.int .i64 (((if isQ l p1 4 (marksP[j]'hlt).1 = true then p1 + 1 else p1) : Nat) : Int)), .v (.slice ad1 o1.length cap1)]⟩ :: So1) (List.Perm.swap _ _ _) ?_
  refine os_ un_ ?_
  refine OD.wk (Wk.as_ (n := 61) (l' := [(0, _), (2, _), (5, _), (28, _), (29, _), (36, _)]) (S' := (⟨b5, 149, 4, [_, _, _, _]⟩ :: ⟨br, 70, 3, [_, _, _]⟩ :: So1)) rfl rfl sl_) ?_
  refine OD.nil ?_
  refine CD.cond ot (fun hc3 => ?_) (fun hc3 => ?_)
  ·have hc3' := hc3
   (try simp only [V.cnd, ne_eq] at hc3')
   have emf : isQ l p1 4 (marksP[j]'hlt).1 = false := by simpa using hc3
   rw [emf]
   simp only [Bool.false_eq_true, if_false]
   refine CD.exit ?_
   refine CD.region ?_
   refine os_ bn_ ?_
   refine om_ ?_
   refine nm_ [0, 2, 28, 29] ?_
   refine ⟨(j + 1), _, ?_, ?_, (by omega), (hfd.trans (find_no (f := (fun m : ByteArray × Int × Bool × Bool => isQ l p1 4 m.1)) hlt emf)), rfl⟩
   ·first | omega | (simp only []; omega)
   exact Wk.asS (n := 61) rfl sv_ sq_
  have hc3' := hc3
  (try simp only [V.cnd, ne_eq] at hc3')
  have emt : isQ l p1 4 (marksP[j]'hlt).1 = true := by simpa using hc3
  rw [emt]
  simp only [if_true]
  have hR8 : R = (exP l n .sum (p1 + 1) o1).bind (fun _ p2 ops2 => (putP l (opN (marksP[j]'hlt).2.1) p2 (if (marksP[j]'hlt).2.2.1 = true then swapP ops2 ops.length o1.length else ops2)).bind fun _ p3 ops3 => if (marksP[j]'hlt).2.2.2 = true then putP l (opN 5) p3 ops3 else .ok () p3 ops3) := hR1.trans (comp_S ef (hfd.trans (find_yes (f := (fun m : ByteArray × Int × Bool × Bool => isQ l p1 4 m.1)) hlt emt)))
  refine CD.skip ?_
  refine sr_ ?_
  refine om_ ?_
  refine os_ nc_ ?_
  refine os_ (fa_ 2) ?_
  refine os_ (lb_ 1) ?_
  refine os_ ln_ ?_
  refine om_ ?_
  refine nm_ [0, 2, 5, 6] ?_
  refine sr_ ?_
  refine om_ ?_
  have hple := (isQ_lt emt)
  have hs9 : exP l n .sum (p1 + 1) o1 ≠ .stuck := bind_ns (f := fun _ p2 ops2 => (putP l (opN (marksP[j]'hlt).2.1) p2 (if (marksP[j]'hlt).2.2.1 = true then swapP ops2 ops.length o1.length else ops2)).bind (fun _ p3 ops3 => if (marksP[j]'hlt).2.2.2 = true then putP l (opN 5) p3 ops3 else .ok () p3 ops3)) (by rw [hR8] at hns; exact hns)
  refine OD.callX wp_ rfl rfl rfl call107 ((ih _ (by omega)).sum (p1 + 1) o1 (isQ_lt emt) hq1 hs9 ad1 cap1 So1 ho1) ⟨ot, trivial⟩ (List.perm_append_comm (l₁ := [_])) (fun ch hch => (Or.inr ⟨ch, rfl, by obtain ⟨q, e, h1, h2⟩ := hch; exact ⟨q, e, hR8.trans (by rw [h1]; rfl), h2⟩⟩ : BodyX _ _ _ _ _ _)) ?_
  rintro _ _ ⟨p9, o9, hr9, hq9, h09, hp9, ad9, cap9, So9, ho9, rfl⟩
  refine OD.perm (S' := ⟨b5, 149, 4, [_, _, _, _]⟩ :: ⟨br, 70, 3, [.list 3 (l.flatMap cT) l.length, .v (.int .i64 ((p9 : Nat) : Int)), .v (.slice ad9 o9.length cap9)]⟩ :: So9) (List.perm_append_comm (l₂ := [_])) ?_
  have hR9 : R = (putP l (opN (marksP[j]'hlt).2.1) p9 (if (marksP[j]'hlt).2.2.1 = true then swapP o9 ops.length o1.length else o9)).bind (fun _ p3 ops3 => if (marksP[j]'hlt).2.2.2 = true then putP l (opN 5) p3 ops3 else .ok () p3 ops3) := hR8.trans (by rw [hr9]; rfl)
  have hgr9 := exP_gr _ _ hr9 hple
  have hlen9 := hgr9.1.length_le
  have hgp9 : 0 < o9.length := Nat.lt_of_lt_of_le (Nat.succ_pos _) hgr9.2.2.2
  refine OD.wk (Wk.as_ (n := 61) (l' := [(0, _), (2, _), (5, _), (6, _)]) (S' := (⟨b5, 149, 4, [_, _, _, _]⟩ :: ⟨br, 70, 3, [_, _, _]⟩ :: So9)) rfl rfl sl_) ?_
  refine OD.nil ?_
  refine CD.seq ?_
  refine sr_ ?_
  refine os_ (fa_ 2) ?_
  refine os_ (lb_ 0) ?_
  refine nm_ [0, 2, 5, 6, 45] ?_
  refine CD.cond ot (fun hc4 => ?_) (fun hc4 => ?_)
  ·have hc4' := hc4
   (try simp only [V.cnd, ne_eq] at hc4')
   have hR10 : R = (putP l (opN (marksP[j]'hlt).2.1) p9 (swapP o9 ops.length o1.length)).bind (fun _ p3 ops3 => if (marksP[j]'hlt).2.2.2 = true then putP l (opN 5) p3 ops3 else .ok () p3 ops3) := hR9.trans (by rw [if_pos hc4])
   refine CD.region ?_
   refine om_ ?_
   refine om_ ?_
   refine om_ ?_
   refine OD.call wp_ rfl rfl rfl call108 (swap_vc l p9 o9 ops.length o1.length hlen1 hlen9 hgp9 hq9 ad9 cap9 br So9 ho9) ⟨ot, ot, ot, trivial⟩ (List.perm_append_comm (l₁ := [_])) ?_
   rintro _ _ ⟨ad11, cap11, So11, ho11, rfl⟩
   refine OD.perm (S' := ⟨b5, 149, 4, [_, _, _, _]⟩ :: ⟨br, 70, 3, [.list 3 (l.flatMap cT) l.length, .v (.int .i64 ((p9 : Nat) : Int)), .v (.slice ad11 (swapP o9 ops.length o1.length).length cap11)]⟩ :: So11) (List.perm_append_comm (l₂ := [_])) ?_
   have hq11 : (swapP o9 ops.length o1.length).length ≤ 40 := by rw [swap_len hlen1 hlen9]; exact hq9
   refine OD.wk (Wk.as_ (n := 61) (l' := [(0, _), (5, _)]) (S' := (⟨b5, 149, 4, [_, _, _, _]⟩ :: ⟨br, 70, 3, [_, _, _]⟩ :: So11)) rfl rfl sl_) ?_
   refine OD.nil ?_
   refine sr_ ?_
   refine om_ ?_
   refine os_ (fa_ 1) ?_
   refine os_ (lb_ 0) ?_
   refine os_ (still_bld (pl := [(0, _)]) (ds := [_, _, _, _, _]) rfl zeroValue39 runUnderlying39 places39_Pa7 ⟨rfl, ot, trivial⟩ rfl rfl) ?_
   refine OD.callX wp_ rfl rfl rfl call91 (put_vx l hl (opN (marksP[j]'hlt).2.1) p9 h09 (Nat.le_trans hp9 (by omega)) (swapP o9 ops.length o1.length) hq11 ad11 cap11 br So11 ho11) ⟨ot, ot, trivial⟩ (List.perm_append_comm (l₁ := [_])) (fun ch hch => (Or.inr ⟨ch, rfl, by obtain ⟨q, e, h1, h2⟩ := hch; exact ⟨q, e, hR10.trans (by rw [h1]; rfl), h2⟩⟩ : BodyX _ _ _ _ _ _)) ?_
   rintro _ _ ⟨o12, hr12, hq12, ad12, cap12, So12, ho12, rfl⟩
   refine OD.perm (S' := ⟨b5, 149, 4, [_, _, _, _]⟩ :: ⟨br, 70, 3, [.list 3 (l.flatMap cT) l.length, .v (.int .i64 ((p9 : Nat) : Int)), .v (.slice ad12 o12.length cap12)]⟩ :: So12) (List.perm_append_comm (l₂ := [_])) ?_
   have hR12 : R = if (marksP[j]'hlt).2.2.2 = true then putP l (opN 5) p9 o12 else .ok () p9 o12 := hR10.trans (by rw [hr12]; rfl)
   refine OD.wk (Wk.as_ (n := 61) (l' := [(0, _), (5, _)]) (S' := (⟨b5, 149, 4, [_, _, _, _]⟩ :: ⟨br, 70, 3, [_, _, _]⟩ :: So12)) rfl rfl sl_) ?_
   refine OD.nil ?_
   refine CD.seq ?_
   refine sr_ ?_
   refine os_ (fa_ 3) ?_
   refine os_ (lb_ 0) ?_
   refine nm_ [0, 56] ?_
   refine CD.cond ot (fun hc5 => ?_) (fun hc5 => ?_)
   ·have hc5' := hc5
    (try simp only [V.cnd, ne_eq] at hc5')
    have hR13 : R = putP l (opN 5) p9 o12 := hR12.trans (by rw [if_pos hc5])
    refine CD.region ?_
    refine om_ ?_
    refine os_ (still_bld (pl := [(0, _)]) (ds := [_, _, _, _, _]) rfl zeroValue39 runUnderlying39 places39_Pa7 ⟨rfl, opd_const, trivial⟩ rfl rfl) ?_
    refine OD.callX wp_ rfl rfl rfl call91 (put_vx l hl (opN 5) p9 h09 (Nat.le_trans hp9 (by omega)) o12 hq12 ad12 cap12 br So12 ho12) ⟨ot, ot, trivial⟩ (List.perm_append_comm (l₁ := [_])) (fun ch hch => (Or.inr ⟨ch, rfl, by obtain ⟨q, e, h1, h2⟩ := hch; exact ⟨q, e, hR13.trans h1, h2⟩⟩ : BodyX _ _ _ _ _ _)) ?_
    rintro _ _ ⟨o14, hr14, hq14, ad14, cap14, So14, ho14, rfl⟩
    refine OD.perm (S' := ⟨b5, 149, 4, [_, _, _, _]⟩ :: ⟨br, 70, 3, [.list 3 (l.flatMap cT) l.length, .v (.int .i64 ((p9 : Nat) : Int)), .v (.slice ad14 o14.length cap14)]⟩ :: So14) (List.perm_append_comm (l₂ := [_])) ?_
    have hR14 : R = .ok () p9 o14 := hR13.trans hr14
    refine OD.wk (Wk.as_ (n := 61) (l' := []) (S' := (⟨b5, 149, 4, [_, _, _, _]⟩ :: ⟨br, 70, 3, [_, _, _]⟩ :: So14)) rfl rfl trivial) ?_
    refine OD.nil ?_
    refine CD.ret ?_
    refine Or.inl ?_
    refine ⟨.inr rfl, _, ⟨br, 70, 3, [.list 3 (l.flatMap cT) l.length, .v (.int .i64 ((p9 : Nat) : Int)), .v (.slice ad14 o14.length cap14)]⟩ :: So14, su_, ret_none results103 , ?_⟩
    exact ⟨p9, o14, hR14, hq14, h09, hp9, ad14, cap14, So14, ho14, rfl⟩
   have hR15 : R = .ok () p9 o12 := hR12.trans (by rw [if_neg (F_ hc5)])
   refine CD.skip ?_
   refine CD.ret ?_
   refine Or.inl ?_
   refine ⟨.inr rfl, _, ⟨br, 70, 3, [.list 3 (l.flatMap cT) l.length, .v (.int .i64 ((p9 : Nat) : Int)), .v (.slice ad12 o12.length cap12)]⟩ :: So12, su_, ret_none results103 , ?_⟩
   exact ⟨p9, o12, hR15, hq12, h09, hp9, ad12, cap12, So12, ho12, rfl⟩
  have hc4' := hc4
  (try simp only [V.cnd, ne_eq] at hc4')
  have hR16 : R = (putP l (opN (marksP[j]'hlt).2.1) p9 (o9)).bind (fun _ p3 ops3 => if (marksP[j]'hlt).2.2.2 = true then putP l (opN 5) p3 ops3 else .ok () p3 ops3) := hR9.trans (by rw [if_neg (F_ hc4)])
  refine CD.skip ?_
  refine sr_ ?_
  refine om_ ?_
  refine os_ (fa_ 1) ?_
  refine os_ (lb_ 0) ?_
  refine os_ (still_bld (pl := [(0, _)]) (ds := [_, _, _, _, _]) rfl zeroValue39 runUnderlying39 places39_Pa7 ⟨rfl, ot, trivial⟩ rfl rfl) ?_
  refine OD.callX wp_ rfl rfl rfl call91 (put_vx l hl (opN (marksP[j]'hlt).2.1) p9 h09 (Nat.le_trans hp9 (by omega)) o9 hq9 ad9 cap9 br So9 ho9) ⟨ot, ot, trivial⟩ (List.perm_append_comm (l₁ := [_])) (fun ch hch => (Or.inr ⟨ch, rfl, by obtain ⟨q, e, h1, h2⟩ := hch; exact ⟨q, e, hR16.trans (by rw [h1]; rfl), h2⟩⟩ : BodyX _ _ _ _ _ _)) ?_
  rintro _ _ ⟨o17, hr17, hq17, ad17, cap17, So17, ho17, rfl⟩
  refine OD.perm (S' := ⟨b5, 149, 4, [_, _, _, _]⟩ :: ⟨br, 70, 3, [.list 3 (l.flatMap cT) l.length, .v (.int .i64 ((p9 : Nat) : Int)), .v (.slice ad17 o17.length cap17)]⟩ :: So17) (List.perm_append_comm (l₂ := [_])) ?_
  have hR17 : R = if (marksP[j]'hlt).2.2.2 = true then putP l (opN 5) p9 o17 else .ok () p9 o17 := hR16.trans (by rw [hr17]; rfl)
  refine OD.wk (Wk.as_ (n := 61) (l' := [(0, _), (5, _)]) (S' := (⟨b5, 149, 4, [_, _, _, _]⟩ :: ⟨br, 70, 3, [_, _, _]⟩ :: So17)) rfl rfl sl_) ?_
  refine OD.nil ?_
  refine CD.seq ?_
  refine sr_ ?_
  refine os_ (fa_ 3) ?_
  refine os_ (lb_ 0) ?_
  refine nm_ [0, 56] ?_
  refine CD.cond ot (fun hc5 => ?_) (fun hc5 => ?_)
  ·have hc5' := hc5
   (try simp only [V.cnd, ne_eq] at hc5')
   have hR18 : R = putP l (opN 5) p9 o17 := hR17.trans (by rw [if_pos hc5])
   refine CD.region ?_
   refine om_ ?_
   refine os_ (still_bld (pl := [(0, _)]) (ds := [_, _, _, _, _]) rfl zeroValue39 runUnderlying39 places39_Pa7 ⟨rfl, opd_const, trivial⟩ rfl rfl) ?_
   refine OD.callX wp_ rfl rfl rfl call91 (put_vx l hl (opN 5) p9 h09 (Nat.le_trans hp9 (by omega)) o17 hq17 ad17 cap17 br So17 ho17) ⟨ot, ot, trivial⟩ (List.perm_append_comm (l₁ := [_])) (fun ch hch => (Or.inr ⟨ch, rfl, by obtain ⟨q, e, h1, h2⟩ := hch; exact ⟨q, e, hR18.trans h1, h2⟩⟩ : BodyX _ _ _ _ _ _)) ?_
   rintro _ _ ⟨o19, hr19, hq19, ad19, cap19, So19, ho19, rfl⟩
   refine OD.perm (S' := ⟨b5, 149, 4, [_, _, _, _]⟩ :: ⟨br, 70, 3, [.list 3 (l.flatMap cT) l.length, .v (.int .i64 ((p9 : Nat) : Int)), .v (.slice ad19 o19.length cap19)]⟩ :: So19) (List.perm_append_comm (l₂ := [_])) ?_
   have hR19 : R = .ok () p9 o19 := hR18.trans hr19
   refine OD.wk (Wk.as_ (n := 61) (l' := []) (S' := (⟨b5, 149, 4, [_, _, _, _]⟩ :: ⟨br, 70, 3, [_, _, _]⟩ :: So19)) rfl rfl trivial) ?_
   refine OD.nil ?_
   refine CD.ret ?_
   refine Or.inl ?_
   refine ⟨.inr rfl, _, ⟨br, 70, 3, [.list 3 (l.flatMap cT) l.length, .v (.int .i64 ((p9 : Nat) : Int)), .v (.slice ad19 o19.length cap19)]⟩ :: So19, su_, ret_none results103 , ?_⟩
   exact ⟨p9, o19, hR19, hq19, h09, hp9, ad19, cap19, So19, ho19, rfl⟩
  have hR20 : R = .ok () p9 o17 := hR17.trans (by rw [if_neg (F_ hc5)])
  refine CD.skip ?_
  refine CD.ret ?_
  refine Or.inl ?_
  refine ⟨.inr rfl, _, ⟨br, 70, 3, [.list 3 (l.flatMap cT) l.length, .v (.int .i64 ((p9 : Nat) : Int)), .v (.slice ad17 o17.length cap17)]⟩ :: So17, su_, ret_none results103 , ?_⟩
  exact ⟨p9, o17, hR20, hq17, h09, hp9, ad17, cap17, So17, ho17, rfl⟩
 have hc2' := hc2
 (try simp only [V.cnd, ne_eq] at hc2')
 obtain rfl : j = 6 := by simp at hc2; omega
 have hR21 : R = .ok () p1 o1 := hR1.trans (comp_N ef (hfd.trans rfl))
 refine CD.exit ?_
 refine Or.inl ?_
 refine ⟨.inl rfl, _, ⟨br, 70, 3, [.list 3 (l.flatMap cT) l.length, .v (.int .i64 ((p1 : Nat) : Int)), .v (.slice ad1 o1.length cap1)]⟩ :: So1, su_, ret_none results103 , ?_⟩
 exact ⟨p1, o1, hR21, hq1, h01, hp1, ad1, cap1, So1, ho1, rfl⟩

theorem all_zero {br : Nat} {l : List Tk} : AllL G br l 0 := ⟨fun _ _ _ _ h => absurd rfl h, fun _ _ _ _ h => absurd rfl h, fun _ _ _ _ h => absurd rfl h, fun _ _ _ _ h => absurd rfl h, fun _ _ _ _ h => absurd rfl h, fun _ _ _ _ h => absurd rfl h, fun _ _ _ _ h => absurd rfl h⟩
theorem all_levels {br : Nat} {l : List Tk} (hl : l.length ≤ 100) (hm : (0, marksC) ∈ G) (hw : (2, wordsC) ∈ G) (hk : (5, cmpC) ∈ G) (ht : ∀ t ∈ l, t.s.size ≤ maxLen ∧ (t.k = 2 → 0 ≤ t.n ∧ t.n ≤ 9223372036854775807)) : ∀ n, ∀ m, m ≤ n → AllL G br l m
 | 0, m, h => by
  obtain rfl : m = 0 := by omega
  exact all_zero
 | n + 1, m, h => by
  have ih := all_levels hl hm hw hk ht n (br := br)
  rcases Nat.lt_or_ge n m with h1 | h1
  ·obtain rfl : m = n + 1 := by omega
   exact ⟨fun p ops hp h40 hns ad cap So ho => prim_x hl hm hw ht ih p ops hp h40 _ rfl hns ad cap So ho, fun p ops hp h40 hns ad cap So ho => prod_x hl ih p ops hp h40 _ rfl hns ad cap So ho, fun p ops hp h40 hns ad cap So ho => sum_x hl ih p ops hp h40 _ rfl hns ad cap So ho, fun p ops hp h40 hns ad cap So ho => comp_x hl hk ih p ops hp h40 _ rfl hns ad cap So ho, fun p ops hp h40 hns ad cap So ho => not_x hl ih p ops hp h40 _ rfl hns ad cap So ho, fun p ops hp h40 hns ad cap So ho => and_x hl ih p ops hp h40 _ rfl hns ad cap So ho, fun p ops hp h40 hns ad cap So ho => or_x hl ih p ops hp h40 _ rfl hns ad cap So ho⟩
  exact ih m h1

end Go.Proofs.YtjgekbmahhhokaaDoor.Pa

namespace Go.Proofs.YtjgekbmahhhokaaDoor.Pa
open Go.Proofs.Tryd
open Go.RowKit V Pk Go.Proofs.YtjgekbmahhhokaaDoor.Vl Go.Proofs.YtjgekbmahhhokaaDoor.Nm
variable {G : List (Nat × List Value)}
def EndR {α : Type} (br : Nat) (l : List Tk) (R : Rs α) (dv : α → D → Prop) (r : D) (S' : List Blk) : Prop := ∃ v p os ad n cap, R = .ok v p os ∧ dv v r ∧ p ≤ l.length ∧ S' = [⟨br, 70, 3, [.list 3 (l.flatMap cT) l.length, .v (.int .i64 ((p : Nat) : Int)), .v (.slice ad n cap)]⟩]
def dvO (v : List OpL) (r : D) : Prop := r = .list 5 (v.flatMap cO) v.length ∧ v.length ≤ 40
def dvR (v : List Vl) (r : D) : Prop := r = .list 3 (v.flatMap cV) v.length ∧ v.length ≤ 6

theorem expr_vx {br : Nat} {l : List Tk} (hl : l.length ≤ 100) (hm : (0, marksC) ∈ G) (hw : (2, wordsC) ∈ G) (hk : (5, cmpC) ∈ G) (ht : ∀ t ∈ l, t.s.size ≤ maxLen ∧ (t.k = 2 → 0 ≤ t.n ∧ t.n ≤ 9223372036854775807)) (p : Nat) (hp : p ≤ l.length) (R : Rs (List OpL)) (hR : R = exprP l p) (hns : R ≠ .stuck) (ad : Option Addr) (n cap : Nat) : VX Tryd.prog G 50 [.v (.pointer (some ⟨br, 0, none⟩))] [⟨br, 70, 3, [.list 3 (l.flatMap cT) l.length, .v (.int .i64 ((p : Nat) : Int)), .v (.slice ad n cap)]⟩] (fun r S' => EndR br l R dvO r S') (PanX R) := by
 refine VX.body func50 rfl ntmps50 le_ fun X0 w0 S00 => ?_
 refine CD.seq ?_
 refine CD.region ?_
 refine om_ ?_
 refine nm_ [0] ?_
 refine sr_ ?_
 refine om_ ?_
 refine os_ nc_ ?_
 refine os_ (fa_ 2) ?_
 refine ot_ 0 [_, _, _] sizeOf30 ?_
 refine on_ [(0, _)] [⟨br, 70, 3, [_, _, _]⟩] ?_
 refine sr_ ?_
 refine om_ ?_
 have hs : exP l (12 * l.length + 24) .or p [] ≠ .stuck := bind_ns (f := fun _ p ops => .ok ops p ops) (by rw [hR] at hns; exact hns)
 refine OD.callX wp_ rfl rfl rfl call77 ((all_levels hl hm hw hk ht _ _ (Nat.le_refl _)).or p [] hp (Nat.zero_le _) hs none 0 [] ownL_nil) ⟨ot, trivial⟩ (List.Perm.refl _) (fun ch hch => (Or.inr ⟨ch, rfl, by obtain ⟨q, e, h1, h2⟩ := hch; exact ⟨q, e, hR.trans (by unfold exprP; rw [h1]; rfl), h2⟩⟩ : BodyX _ _ _ _ _ _)) ?_
 rintro _ _ ⟨p1, o1, hr1, hq1, h01, hp1, ad1, cap1, So1, ho1, rfl⟩
 refine OD.perm (S' := ⟨br, 70, 3, [.list 3 (l.flatMap cT) l.length, .v (.int .i64 ((p1 : Nat) : Int)), .v (.slice ad1 o1.length cap1)]⟩ :: So1) (perm_all _).symm ?_
 have hR1 : R = .ok o1 p1 o1 := hR.trans (by unfold exprP; rw [hr1]; rfl)
 refine OD.wk (Wk.as_ (n := 12) (l' := [(0, _)]) (S' := (⟨br, 70, 3, [_, _, _]⟩ :: So1)) rfl rfl sl_) ?_
 refine OD.nil ?_
 refine sr_ ?_
 refine om_ ?_
 refine os_ nc_ ?_
 refine os_ (fa_ 2) ?_
 refine os_ (lb_ 0) ?_
 refine om_ ?_
 refine nm_ [2] ?_
 refine CD.giveL (t := 2) (Sq := So1) lk ho1 (fm_len cO_len _) (perm_r11 (A := [_])) ?_
 refine CD.ret ?_
 refine Or.inl ?_
 refine ⟨.inr rfl, _, [⟨br, 70, 3, [.list 3 (l.flatMap cT) l.length, .v (.int .i64 ((p1 : Nat) : Int)), .v (.slice ad1 o1.length cap1)]⟩], sw_, ret_one results50 (res_tmp le_ lk), ?_⟩
 exact ⟨o1, p1, o1, ad1, _, cap1, hR1, ⟨rfl, hq1⟩, hp1, rfl⟩

theorem where_vx {br : Nat} {l : List Tk} (hl : l.length ≤ 100) (hm : (0, marksC) ∈ G) (hw : (2, wordsC) ∈ G) (hk : (5, cmpC) ∈ G) (ht : ∀ t ∈ l, t.s.size ≤ maxLen ∧ (t.k = 2 → 0 ≤ t.n ∧ t.n ≤ 9223372036854775807)) (p : Nat) (hp : p ≤ l.length) (os : List OpL) (R : Rs (List OpL)) (hR : R = whereP l p os) (hns : R ≠ .stuck) (ad : Option Addr) (n cap : Nat) : VX Tryd.prog G 51 [.v (.pointer (some ⟨br, 0, none⟩))] [⟨br, 70, 3, [.list 3 (l.flatMap cT) l.length, .v (.int .i64 ((p : Nat) : Int)), .v (.slice ad n cap)]⟩] (fun r S' => EndR br l R dvO r S') (PanX R) := by
 refine VX.body func51 rfl ntmps51 le_ fun X0 w0 S00 => ?_
 refine CD.seq ?_
 refine CD.region ?_
 refine om_ ?_
 refine nm_ [0] ?_
 refine CD.seq ?_
 refine sr_ ?_
 refine om_ ?_
 refine OD.call wp_ rfl rfl rfl call43 (eat_vc l hl p 1 ⟨#[87, 72, 69, 82, 69]⟩ ad n cap br) ⟨ot, opd_const, opd_const, trivial⟩ (List.Perm.refl _) ?_
 rintro _ _ ⟨rfl, rfl⟩
 refine OD.perm (S' := ⟨br, 70, 3, [.list 3 (l.flatMap cT) l.length, .v (.int .i64 (((if isQ l p 1 ⟨#[87, 72, 69, 82, 69]⟩ = true then p + 1 else p) : Nat) : Int)), .v (.slice ad n cap)]⟩ :: []) (List.Perm.refl _) ?_
 refine os_ un_ ?_
 refine on_ [(0, _), (5, _)] [⟨br, 70, 3, [_, _, _]⟩] ?_
 refine CD.cond ot (fun hc0 => ?_) (fun hc0 => ?_)
 ·have hc0' := hc0
  (try simp only [V.cnd, ne_eq] at hc0')
  have ef : isQ l p 1 ⟨#[87, 72, 69, 82, 69]⟩ = false := by simpa using hc0
  rw [ef]
  simp only [Bool.false_eq_true, if_false]
  have hR1 : R = .ok [] p os := hR.trans (by unfold whereP; rw [if_neg (F_ ef)])
  refine sr_ ?_
  refine om_ ?_
  refine nm_ [2] ?_
  refine CD.wk (Wk.giveNil (t := 2) (sz := 5) lk) ?_
  refine CD.ret ?_
  refine Or.inl ?_
  refine ⟨.inr rfl, _, [⟨br, 70, 3, [.list 3 (l.flatMap cT) l.length, .v (.int .i64 ((p : Nat) : Int)), .v (.slice ad n cap)]⟩], sw_, ret_one results51 (res_tmp le_ lk), ?_⟩
  exact ⟨[], p, os, _, _, _, hR1, ⟨rfl, (by decide)⟩, hp, rfl⟩
 have hc0' := hc0
 (try simp only [V.cnd, ne_eq] at hc0')
 have et : isQ l p 1 ⟨#[87, 72, 69, 82, 69]⟩ = true := by simpa using hc0
 rw [et]
 simp only [if_true]
 have hR2 : R = exprP l (p + 1) := hR.trans (by unfold whereP; rw [if_pos et])
 refine CD.skip ?_
 refine sr_ ?_
 refine om_ ?_
 refine OD.callX wp_ rfl rfl rfl call50 (expr_vx hl hm hw hk ht (p + 1) (isQ_lt et) R hR2 hns ad n cap) ⟨ot, trivial⟩ (List.Perm.refl _) (fun ch hch => (Or.inr ⟨ch, rfl, hch⟩ : BodyX _ _ _ _ _ _)) ?_
 rintro _ _ ⟨v, p1, o1, ad1, n1, cap1, hr1, ⟨rfl, hv1⟩, hp1, rfl⟩
 refine OD.perm (S' := ⟨br, 70, 3, [.list 3 (l.flatMap cT) l.length, .v (.int .i64 ((p1 : Nat) : Int)), .v (.slice ad1 n1 cap1)]⟩ :: []) (List.Perm.refl _) ?_
 refine om_ ?_
 refine on_ [(2, _)] [⟨br, 70, 3, [_, _, _]⟩] ?_
 refine CD.ret ?_
 refine Or.inl ?_
 refine ⟨.inr rfl, _, [⟨br, 70, 3, [.list 3 (l.flatMap cT) l.length, .v (.int .i64 ((p1 : Nat) : Int)), .v (.slice ad1 n1 cap1)]⟩], sw_, ret_one results51 (res_tmp le_ lk), ?_⟩
 exact ⟨v, p1, o1, _, _, _, hr1, ⟨rfl, hv1⟩, hp1, rfl⟩

theorem info37_Pa8 : (Tryd.prog.info? 37).map (fun i => (i.zero, i.size, i.bytes)) = some (some (.agg #[.int .i64 0, .int .i64 0, .string ⟨#[]⟩]), 3, 32) := by kernel_rfl

theorem row_vx {br : Nat} {l : List Tk} (hl : l.length ≤ 100) (ht : ∀ t ∈ l, t.s.size ≤ maxLen ∧ (t.k = 2 → 0 ≤ t.n ∧ t.n ≤ 9223372036854775807)) (p : Nat) (hp : p ≤ l.length) (os : List OpL) (R : Rs (List Vl)) (hR : R = (markP l ⟨#[40]⟩ p os).bind fun _ p ops => rowP l 8 [] p ops) (ad : Option Addr) (n cap : Nat) : VX Tryd.prog G 47 [.v (.pointer (some ⟨br, 0, none⟩))] [⟨br, 70, 3, [.list 3 (l.flatMap cT) l.length, .v (.int .i64 ((p : Nat) : Int)), .v (.slice ad n cap)]⟩] (fun r S' => EndR br l R dvR r S') (PanX R) := by
 refine VX.body func47 rfl ntmps47 le_ fun X0 w0 S00 => ?_
 refine CD.seq ?_
 refine CD.region ?_
 refine om_ ?_
 refine nm_ [0] ?_
 refine sr_ ?_
 refine om_ ?_
 refine nm_ [0, 3] ?_
 refine sr_ ?_
 refine om_ ?_
 refine OD.callX wp_ rfl rfl rfl call49 (mark_vx l hl p ⟨#[40]⟩ ad n cap br) ⟨ot, opd_const, trivial⟩ (List.Perm.refl _) (fun ch hch => (Or.inr ⟨ch, rfl, ⟨_, _, hR.trans (by rw [mark_no hch.1]; rfl), hch.2⟩⟩ : BodyX _ _ _ _ _ _)) ?_
 rintro _ _ ⟨hm1, rfl⟩
 refine OD.perm (S' := ⟨br, 70, 3, [.list 3 (l.flatMap cT) l.length, .v (.int .i64 (((p + 1) : Nat) : Int)), .v (.slice ad n cap)]⟩ :: []) (List.Perm.refl _) ?_
 have hR1 : R = rowP l 8 [] (p + 1) os := hR.trans (by rw [mark_yes hm1]; rfl)
 refine OD.wk (Wk.as_ (n := 32) (l' := [(0, _), (3, _)]) (S' := (⟨br, 70, 3, [_, _, _]⟩ :: [])) rfl rfl sl_) ?_
 refine OD.nil ?_
 refine CD.seq ?_
 refine CD.block ?_
 refine lp_ (fun (gh__ : Nat × List Vl × Nat × Option Addr × Nat × List Blk) y__ => match gh__ with | (f, out, q, ado, cpo, So) => (f + out.length = 8) ∧ (out.length ≤ 6) ∧ (q ≤ l.length) ∧ (R = rowP l f out q os) ∧ (OwnL 37 3 ((out).flatMap cV) (out).length ado cpo So) ∧ y__ = (⟨32, [(0, .v (.pointer (some ⟨br, 0, none⟩))), (3, .v (.slice ado (out).length cpo))], (⟨br, 70, 3, [.list 3 (l.flatMap cT) l.length, .v (.int .i64 ((q : Nat) : Int)), .v (.slice ad n cap)]⟩ :: So)⟩ : St)) (fun (gh__ : Nat × List Vl × Nat × Option Addr × Nat × List Blk) => match gh__ with | (f, out, q, ado, cpo, So) => f) (8, [], (p + 1), none, 0, []) ⟨rfl, (by decide), (isQ_lt hm1), hR1, (OwnL.cast ownL_nil (by rfl)), rfl⟩ (Wk.asS rfl su_ (by repeat (first | exact trivial | refine ⟨(by (repeat (first | exact look_hit | (apply look_at; focus (first | rfl | (simp; done) | (congr 2; omega) | (apply row_eq; rfl) | (apply row_eq; rfl) | (apply row_eq; simp; done))) | (apply look_miss; focus rfl))); done), ?_⟩))) ?_
 rintro ⟨f, out, q, ado, cpo, So⟩ _ ⟨hfo, ho6, hpl, hRl, hoo, rfl⟩
 rcases f with _ | f
 ·omega
 refine CD.block ?_
 refine CD.seq ?_
 refine sr_ ?_
 refine om_ ?_
 refine os_ ln_ ?_
 refine os_ bn_ ?_
 refine nm_ [0, 3, 10] ?_
 refine CD.cond ot (fun hc0 => ?_) (fun hc0 => ?_)
 ·have hc0' := hc0
  (try simp only [V.cnd, ne_eq] at hc0')
  have h6 : out.length = 6 := by simp at hc0; omega
  have hR2 : R = gv l q 10 := hRl.trans (by rw [rowP, if_pos h6])
  refine CD.region ?_
  refine om_ ?_
  exact OD.callX wp_ rfl rfl rfl call26 (give_vx l hl q 10 ad n cap br) ⟨ot, opd_const, trivial⟩ (List.Perm.refl _) (fun ch hch => (Or.inr ⟨ch, rfl, ⟨_, _, hR2, hch⟩⟩ : BodyX _ _ _ _ _ _)) (fun r S' h => h.elim)
 have hc0' := hc0
 (try simp only [V.cnd, ne_eq] at hc0')
 have h6 : ¬ out.length = 6 := by simp at hc0; omega
 have hR3 : R = (litP l q os).bind (fun v p1 ops1 => if v.2 = false then gv l p1 6 else if isQ l p1 4 ⟨#[44]⟩ = true then rowP l f (out ++ [v.1]) (p1 + 1) ops1 else (markP l ⟨#[41]⟩ p1 ops1).bind fun _ p3 ops3 => .ok (out ++ [v.1]) p3 ops3) := hRl.trans (by rw [rowP, if_neg h6])
 refine CD.skip ?_
 refine sr_ ?_
 refine om_ ?_
 refine OD.callX wp_ rfl rfl rfl call76 (literal_vx l hl ht q ad n cap br) ⟨ot, trivial⟩ (List.Perm.refl _) (fun ch hch => (Or.inr ⟨ch, rfl, by obtain ⟨q, e, h1, h2⟩ := hch; exact ⟨q, e, hR3.trans (by rw [h1]; rfl), h2⟩⟩ : BodyX _ _ _ _ _ _)) ?_
 rintro _ _ ⟨v, ok, q4, hlit, rfl, rfl⟩
 unfold cV
 refine OD.perm (S' := ⟨br, 70, 3, [.list 3 (l.flatMap cT) l.length, .v (.int .i64 ((q4 : Nat) : Int)), .v (.slice ad n cap)]⟩ :: So) (List.Perm.refl _) ?_
 have hR4 : R = (if ok = false then gv l q4 6 else if isQ l q4 4 ⟨#[44]⟩ = true then rowP l f (out ++ [v]) (q4 + 1) os else (markP l ⟨#[41]⟩ q4 os).bind (fun _ p3 ops3 => .ok (out ++ [v]) p3 ops3)) := hR3.trans (by rw [hlit]; rfl)
 have hp4 := (lit_le (hlit []) hpl).2.1
 refine om_ ?_
 refine os_ ex_ ?_
 refine os_ ex_ ?_
 refine OD.alloc (ds := [_, _, _]) wp_ rfl rfl zeroValue37 rfl (fun b4 => ?_)
 refine ot_ 0 [_, _, _] sizeOf37 ?_
 refine om_ ?_
 refine OD.wk (Wk.as_ (n := 32) (l' := [(0, _), (3, _), (4, _), (5, _)]) (S' := (⟨b4, 37, 3, [_, _, _]⟩ :: ⟨br, 70, 3, [_, _, _]⟩ :: So)) rfl rfl sl_) ?_
 refine OD.nil ?_
 refine CD.seq ?_
 refine sr_ ?_
 refine om_ ?_
 refine os_ un_ ?_
 refine nm_ [0, 3, 4, 19] ?_
 refine CD.cond ot (fun hc1 => ?_) (fun hc1 => ?_)
 ·have hc1' := hc1
  (try simp only [V.cnd, ne_eq] at hc1')
  have hok : ok = false := by simpa using hc1
  have hR5 : R = gv l q4 6 := hR4.trans (by rw [if_pos hok])
  refine CD.region ?_
  refine om_ ?_
  exact OD.callX wp_ rfl rfl rfl call26 (give_vx l hl q4 6 ad n cap br) ⟨ot, opd_const, trivial⟩ (List.Perm.swap _ _ _) (fun ch hch => (Or.inr ⟨ch, rfl, ⟨_, _, hR5, hch⟩⟩ : BodyX _ _ _ _ _ _)) (fun r S' h => h.elim)
 have hc1' := hc1
 (try simp only [V.cnd, ne_eq] at hc1')
 have hok : ok = true := by simpa using hc1
 have hR6 : R = if isQ l q4 4 ⟨#[44]⟩ = true then rowP l f (out ++ [v]) (q4 + 1) os else (markP l ⟨#[41]⟩ q4 os).bind (fun _ p3 ops3 => .ok (out ++ [v]) p3 ops3) := hR4.trans (by rw [if_neg (by rw [hok]; decide)])
 refine CD.skip ?_
 refine sr_ ?_
 refine om_ ?_
 refine os_ (lab_ 0 [_, _, _]) ?_
 refine ob_ (numD 0 [_]) [.int .i64 0, .int .i64 0, .string ⟨#[]⟩] [_, _, _] zeroValue37 runUnderlying28 sizeOf37 (fun b24 => ?_)
 refine og_ 0 24 3 1 ?_
 refine OD.appendG (ls := (out)) (new := [v]) (Sq := So) cV_len cV_one wp_ rfl rfl underlying28 info37_Pa8 rfl (by decide) ot hoo (perm_r11 (A := [_, _])) ot (by simp) (by simp only [maxLen, List.length_append, List.length_cons, List.length_nil] at *; omega) (by simp only [maxLen, List.length_append, List.length_cons, List.length_nil] at *; omega) (fun b25 cp25 h125 h225 => ?_)
 refine OD.perm (perm_q11 (S1 := [⟨b25, 37, cp25 * 3, List.flatMap cV ((out) ++ [v])⟩]) (A := [_, _])) ?_
 refine om_ ?_
 refine OD.wk (Wk.as_ (n := 32) (l' := [(0, _), (3, _)]) (S' := (⟨b4, 37, 3, [_, _, _]⟩ :: ⟨br, 70, 3, [_, _, _]⟩ :: [⟨b25, 37, cp25 * 3, List.flatMap cV ((out) ++ [v])⟩])) rfl rfl sl_) ?_
 refine OD.nil ?_
 refine sr_ ?_
 refine om_ ?_
 refine OD.call wp_ rfl rfl rfl call43 (eat_vc l hl q4 4 ⟨#[44]⟩ ad n cap br) ⟨ot, opd_const, opd_const, trivial⟩ (List.Perm.swap _ _ _) ?_
 rintro _ _ ⟨rfl, rfl⟩
 refine OD.perm (S' := ⟨b4, 37, 3, [_, _, _]⟩ :: ⟨br, 70, 3, [.list 3 (l.flatMap cT) l.length, .v (.int .i64 (((if isQ l q4 4 ⟨#[44]⟩ = true then q4 + 1 else q4) : Nat) : Int)), .v (.slice ad n cap)]⟩ :: [⟨b25, 37, cp25 * 3, List.flatMap cV ((out) ++ [v])⟩]) (List.Perm.swap _ _ _) ?_
 refine os_ un_ ?_
 refine OD.wk (Wk.as_ (n := 32) (l' := [(0, _), (3, _), (28, _)]) (S' := (⟨b4, 37, 3, [_, _, _]⟩ :: ⟨br, 70, 3, [_, _, _]⟩ :: [⟨b25, 37, cp25 * 3, List.flatMap cV ((out) ++ [v])⟩])) rfl rfl sl_) ?_
 refine OD.nil ?_
 refine CD.cond ot (fun hc2 => ?_) (fun hc2 => ?_)
 ·have hc2' := hc2
  (try simp only [V.cnd, ne_eq] at hc2')
  have ef : isQ l q4 4 ⟨#[44]⟩ = false := by simpa using hc2
  rw [ef]
  simp only [Bool.false_eq_true, if_false]
  have hR7 : R = (markP l ⟨#[41]⟩ q4 os).bind (fun _ p3 ops3 => .ok (out ++ [v]) p3 ops3) := hR6.trans (by rw [if_neg (F_ ef)])
  refine CD.exit ?_
  refine sr_ ?_
  refine om_ ?_
  refine OD.callX wp_ rfl rfl rfl call49 (mark_vx l hl q4 ⟨#[41]⟩ ad n cap br) ⟨ot, opd_const, trivial⟩ (List.Perm.swap _ _ _) (fun ch hch => (Or.inr ⟨ch, rfl, ⟨_, _, hR7.trans (by rw [mark_no hch.1]; rfl), hch.2⟩⟩ : BodyX _ _ _ _ _ _)) ?_
  rintro _ _ ⟨hm8, rfl⟩
  refine OD.perm (S' := ⟨b4, 37, 3, [_, _, _]⟩ :: ⟨br, 70, 3, [.list 3 (l.flatMap cT) l.length, .v (.int .i64 (((q4 + 1) : Nat) : Int)), .v (.slice ad n cap)]⟩ :: [⟨b25, 37, cp25 * 3, List.flatMap cV ((out) ++ [v])⟩]) (List.Perm.swap _ _ _) ?_
  have hR8 : R = .ok (out ++ [v]) (q4 + 1) os := hR7.trans (by rw [mark_yes hm8]; rfl)
  refine OD.wk (Wk.as_ (n := 32) (l' := [(3, _)]) (S' := (⟨b4, 37, 3, [_, _, _]⟩ :: ⟨br, 70, 3, [_, _, _]⟩ :: [⟨b25, 37, cp25 * 3, List.flatMap cV ((out) ++ [v])⟩])) rfl rfl sl_) ?_
  refine OD.nil ?_
  refine sr_ ?_
  refine om_ ?_
  refine om_ ?_
  refine nm_ [2] ?_
  refine CD.giveL (t := 2) (Sq := [⟨b25, 37, cp25 * 3, List.flatMap cV ((out) ++ [v])⟩]) lk (ownL_row h125 h225) (fm_len cV_len _) (perm_r11 (A := [_, _])) ?_
  refine CD.ret ?_
  refine Or.inl ?_
  refine ⟨.inr rfl, _, [⟨br, 70, 3, [.list 3 (l.flatMap cT) l.length, .v (.int .i64 (((q4 + 1) : Nat) : Int)), .v (.slice ad n cap)]⟩], sw_, ret_one results47 (res_tmp le_ lk), ?_⟩
  exact ⟨out ++ [v], (q4 + 1), os, _, _, _, hR8, ⟨rfl, by simp; omega⟩, (isQ_lt hm8), rfl⟩
 have hc2' := hc2
 (try simp only [V.cnd, ne_eq] at hc2')
 have et : isQ l q4 4 ⟨#[44]⟩ = true := by simpa using hc2
 rw [et]
 simp only [if_true]
 have hR9 : R = rowP l f (out ++ [v]) (q4 + 1) os := hR6.trans (by rw [if_pos et])
 refine CD.skip ?_
 refine ⟨(f, (out ++ [v]), (q4 + 1), (some ⟨b25, 0, none⟩), cp25, [⟨b25, 37, cp25 * 3, List.flatMap cV ((out) ++ [v])⟩]), _, ?_, ?_, (by simp; omega), (by simp; omega), (isQ_lt et), hR9, (OwnL.cast (ownL_row h125 h225) (by rfl)), rfl⟩
 ·first | omega | (simp only []; omega)
 exact Wk.asS (n := 32) rfl su_ (by repeat (first | exact trivial | refine ⟨(by (repeat (first | exact look_hit | (apply look_at; focus (first | rfl | (simp; done) | (congr 2; omega) | (apply row_eq; rfl) | (apply row_eq; rfl) | (apply row_eq; simp; done))) | (apply look_miss; focus rfl))); done), ?_⟩))

end Go.Proofs.YtjgekbmahhhokaaDoor.Pa

namespace Go.Proofs.YtjgekbmahhhokaaDoor.Pa
open Go.Proofs.Tryd
open Go.RowKit V Pk Go.Proofs.YtjgekbmahhhokaaDoor.Vl Go.Proofs.YtjgekbmahhhokaaDoor.Nm
variable {G : List (Nat × List Value)}
def typesC : List Value := [.string ⟨#[]⟩, .string ⟨#[66, 79, 79, 76]⟩, .string ⟨#[73, 78, 84]⟩, .string ⟨#[84, 69, 88, 84]⟩]
def typesN : List ByteArray := [⟨#[]⟩, ⟨#[66, 79, 79, 76]⟩, ⟨#[73, 78, 84]⟩, ⟨#[84, 69, 88, 84]⟩]
theorem type_at {k : Nat} (h : k < 4) : (typesC.map D.v)[k * 1]? = some (.v (.string (typesN[k]'h))) := by
 rcases k with _ | _ | _ | _ | k <;> first | rfl | omega
def kindUp (l : List Tk) (p : Nat) : Nat → Int
 | 0 => 0
 | k + 1 => if 0 < k ∧ isQ l p 1 (typesN.getD k ⟨#[]⟩) = true then (k : Int) else kindUp l p k
theorem kind_up (l : List Tk) (p : Nat) : kindUp l p 4 = kindP l p := by
 unfold kindP
 simp only [kindUp, typesN, List.getD_eq_getElem?_getD, List.getElem?_cons_succ, List.getElem?_cons_zero, Option.getD_some]
 simp
theorem kind_T {l : List Tk} {p k : Nat} (h : k < 4) (h0 : 0 < k) (hq : isQ l p 1 (typesN[k]'h) = true) : (k : Int) = kindUp l p (k + 1) := by
 rw [kindUp, if_pos ⟨h0, by rw [List.getD_eq_getElem?_getD, List.getElem?_eq_getElem h]; exact hq⟩]
theorem kind_F {l : List Tk} {p k : Nat} (h : k < 4) (hq : isQ l p 1 (typesN[k]'h) = false) : kindUp l p k = kindUp l p (k + 1) := by
 rw [kindUp, if_neg]; rintro ⟨_, h1⟩; rw [List.getD_eq_getElem?_getD, List.getElem?_eq_getElem h] at h1; exact absurd (hq.symm.trans h1) (by decide)
theorem kind_0 {l : List Tk} {p k : Nat} (h0 : ¬ 0 < k) : kindUp l p k = kindUp l p (k + 1) := by
 rw [kindUp, if_neg]; exact fun h => h0 h.1

theorem index_vc (ls : List ColL) (g : Nat) (caps : List D) (S : List Blk) (p : ColL → Bool) (hcall : ∀ args w, (callFunc g args).run Tryd.prog w = .ok (.enter g args) w) (hp : ∀ x ∈ ls, VC Tryd.prog G g (.agg (cC x) :: caps) S (fun r S' => r = .v (.bool (p x)) ∧ S' = S)) (hlen : ls.length ≤ 1000000) : VC Tryd.prog G 89 [.list 2 (ls.flatMap cC) ls.length, .clo (.func g) caps] S (fun r S' => r = .v (.int .i64 (idxG p ls)) ∧ S' = S) := by
 refine VC.body func89 rfl ntmps89 le_ fun X0 w0 S00 => ?_
 unfold cC at hp
 refine sr_ ?_
 refine om_ ?_
 refine OD.wk (Wk.as_ (n := 19) (l' := [(0, _), (1, _)]) (S' := S) rfl (by first | rfl | simp [St.put]) sl_) ?_
 refine OD.nil ?_
 refine CD.seq ?_
 refine sr_ ?_
 refine om_ ?_
 refine os_ ln_ ?_
 refine om_ ?_
 refine OD.wk (Wk.as_ (n := 19) (l' := [(0, _), (1, _), (7, _), (8, _)]) (S' := S) rfl (by first | rfl | simp [St.put]) sl_) ?_
 refine OD.nil ?_
 refine CD.block ?_
 refine lp_ (fun (k : Nat) y__ => (k ≤ ls.length) ∧ (∀ x ∈ ls.take k, p x = false) ∧ y__ = (⟨19, [(0, .list 2 (ls.flatMap cC) ls.length), (1, .clo (.func g) caps), (7, .v (.int .i64 ls.length)), (8, .v (.int .i64 (k : Nat)))], S⟩ : St)) (fun (k : Nat) => ls.length - k) 0 ⟨Nat.zero_le _, (by simp), rfl⟩ (Wk.asS rfl sv_ sq_) ?_
 rintro k _ ⟨hk, h0, rfl⟩
 refine sr_ ?_
 refine os_ bn_ ?_
 refine OD.wk (Wk.as_ (n := 19) (l' := [(0, _), (1, _), (7, _), (8, _), (9, _)]) (S' := S) rfl (by first | rfl | simp [St.put]) sl_) ?_
 refine OD.nil ?_
 refine CD.seq ?_
 refine CD.cond ot (fun hc0 => ?_) (fun hc0 => ?_)
 ·have hc0' := hc0
  (try simp only [V.cnd, ne_eq] at hc0')
  refine CD.skip ?_
  refine CD.seq ?_
  refine CD.block ?_
  refine sr_ ?_
  refine om_ ?_
  refine om_ ?_
  refine OD.wk (Wk.as_ (n := 19) (l' := [(0, _), (1, _), (5, _), (7, _), (8, _)]) (S' := S) rfl (by first | rfl | simp [St.put]) sl_) ?_
  refine OD.nil ?_
  refine sr_ ?_
  refine om_ ?_
  refine om_ ?_
  refine om_ ?_
  refine os_ (ix_ 2) ?_
  refine os_ (la_ [_, _]) ?_
  refine OD.callv (f := g) (args := [_]) wp_ rfl rfl (opd_tmp rfl lk) hcall (hp (ls[k]'(by omega)) (List.getElem_mem _)) rfl ⟨opd_tmp rfl lk, trivial⟩ (perm_all _) ?_; rintro _ S2 ⟨rfl, hS2⟩; rw [hS2]; clear hS2
  refine OD.wk (Wk.as_ (n := 19) (l' := [(0, _), (1, _), (5, _), (7, _), (8, _), (16, _)]) (S' := S) rfl (by first | rfl | simp [St.put]) sl_) ?_
  refine OD.nil ?_
  refine CD.cond ot (fun hc1 => ?_) (fun hc1 => ?_)
  ·have hc1' := hc1
   (try simp only [V.cnd, ne_eq] at hc1')
   refine sr_ ?_
   refine om_ ?_
   refine om_ ?_
   refine OD.wk (Wk.as_ (n := 19) (l' := [(4, _)]) (S' := S) rfl (by first | rfl | simp [St.put]) sl_) ?_
   refine OD.nil ?_
   refine CD.ret ?_
   refine ⟨.inr rfl, _, S, sv_, ret_one results89 (res_tmp le_ lk), ?_⟩
   refine ⟨?_, rfl⟩; first | (rw [idxG_hit (by omega) h0 (by assumption)]) | (rw [idxG_none (by omega) h0])
  have hc1' := hc1
  (try simp only [V.cnd, ne_eq] at hc1')
  refine CD.skip ?_
  refine CD.region ?_
  refine os_ bn_ ?_
  refine om_ ?_
  refine OD.wk (Wk.as_ (n := 19) (l' := [(0, _), (1, _), (7, _), (8, _)]) (S' := S) rfl (by first | rfl | simp [St.put]) sl_) ?_
  refine OD.nil ?_
  refine ⟨k + 1, _, ?_, ?_, (by omega), (by rw [List.take_succ_eq_append_getElem (by omega)]; intro x hx; rcases List.mem_append.1 hx with hx | hx; exact h0 x hx; simp only [List.mem_singleton] at hx; subst hx; assumption), rfl⟩
  ·first | omega | (simp only []; omega)
  exact Wk.asS (n := 19) rfl sv_ sq_
 have hc0' := hc0
 (try simp only [V.cnd, ne_eq] at hc0')
 refine CD.exit ?_
 refine sr_ ?_
 refine om_ ?_
 refine OD.wk (Wk.as_ (n := 19) (l' := [(4, _)]) (S' := S) rfl (by first | rfl | simp [St.put]) sl_) ?_
 refine OD.nil ?_
 refine CD.ret ?_
 refine ⟨.inr rfl, _, S, sv_, ret_one results89 (res_tmp le_ lk), ?_⟩
 refine ⟨?_, rfl⟩; first | (rw [idxG_hit (by omega) h0 (by assumption)]) | (rw [idxG_none (by omega) h0])

theorem contains_vc (ls : List ColL) (g : Nat) (caps : List D) (S : List Blk) (p : ColL → Bool) (hcall : ∀ args w, (callFunc g args).run Tryd.prog w = .ok (.enter g args) w) (hp : ∀ x ∈ ls, VC Tryd.prog G g (.agg (cC x) :: caps) S (fun r S' => r = .v (.bool (p x)) ∧ S' = S)) (hlen : ls.length ≤ 1000000) : VC Tryd.prog G 74 [.list 2 (ls.flatMap cC) ls.length, .clo (.func g) caps] S (fun r S' => r = .v (.bool (ls.any p)) ∧ S' = S) := by
 refine VC.body func74 rfl ntmps74 le_ fun X0 w0 S00 => ?_
 refine sr_ ?_
 refine om_ ?_
 refine OD.wk (Wk.as_ (n := 9) (l' := [(0, _), (1, _)]) (S' := S) rfl (by first | rfl | simp [St.put]) sl_) ?_
 refine OD.nil ?_
 refine sr_ ?_
 refine om_ ?_
 refine om_ ?_
 refine OD.call wp_ rfl rfl rfl call89 (index_vc ls g caps S p hcall hp hlen) ⟨opd_tmp rfl lk, opd_tmp rfl lk, trivial⟩ (perm_all _) ?_; rintro _ S2 ⟨rfl, hS2⟩; rw [hS2]; clear hS2
 refine os_ bn_ ?_
 refine om_ ?_
 refine OD.wk (Wk.as_ (n := 9) (l' := [(4, _)]) (S' := S) rfl (by first | rfl | simp [St.put]) sl_) ?_
 refine OD.nil ?_
 refine CD.ret ?_
 refine ⟨.inr rfl, _, S, sv_, ret_one results74 (res_tmp le_ lk), ?_⟩
 refine ⟨?_, rfl⟩; rw [idxG_any]

theorem same_vp (c : ColL) (s : ByteArray) (k : Int) : VP Tryd.prog G 75 [.agg (cC c), .iptr [.v (.string s), .v (.int .i64 k)] 0] (.v (.bool (eqS c.n s))) := by
 refine VC.body func75 rfl ntmps75 le_ fun X0 w0 S00 => ?_
 unfold cC
 refine sr_ ?_
 refine OD.box (ds := [_, _]) wp_ rfl rfl ot rfl rfl (fun b2 => ?_)
 refine om_ ?_
 refine on_ [(1, _), (2, _)] [⟨b2, 95, 2, [_, _]⟩] ?_
 refine sr_ ?_
 refine os_ (fa_ 0) ?_
 refine os_ (lb_ 0) ?_
 refine os_ (fa_ 0) ?_
 refine os_ ld_ ?_
 refine os_ bn_ ?_
 refine om_ ?_
 refine nm_ [3] ?_
 refine CD.ret ?_
 refine r1_ ?_
 exact ⟨by unfold eqS; first | rfl | simp_all, rfl⟩

def dvC (v : List ColL) (r : D) : Prop := r = .list 2 (v.flatMap cC) v.length ∧ v.length ≤ 6

theorem kind_lt {l : List Tk} {p : Nat} (h : ¬ kindP l p = 0) : p + 1 ≤ l.length := by
 unfold kindP at h
 split at h
 ·exact isQ_lt (by assumption)
 split at h
 ·exact isQ_lt (by assumption)
 split at h
 ·exact isQ_lt (by assumption)
 exact absurd rfl h

theorem info95_Pa9 : (Tryd.prog.info? 95).map (fun i => (i.zero, i.size, i.bytes)) = some (some (.agg #[.string ⟨#[]⟩, .int .i64 0]), 2, 24) := by kernel_rfl

theorem places95_Pa9 : ∀ w, ((#[{ name := "Name", type := 9, offset := 0, embedded := false, tag := "", pkgPath := "", byteOffset := 0 }, { name := "Kind", type := 3, offset := 1, embedded := false, tag := "", pkgPath := "", byteOffset := 16 }] : Array Field).mapM fun f => do pure (f.offset, ← sizeOf f.type) : Sem (Array (Nat × Nat))).run Tryd.prog w = .ok #[(0, 1), (1, 1)] w := fun w => by simp [sizeOf3, sizeOf9]

theorem columns_vx {br : Nat} {l : List Tk} (hl : l.length ≤ 100) (hm : (0, marksC) ∈ G) (hw : (2, wordsC) ∈ G) (hty : (1, typesC) ∈ G) (ht : ∀ t ∈ l, t.s.size ≤ maxLen ∧ (t.k = 2 → 0 ≤ t.n ∧ t.n ≤ 9223372036854775807)) (p : Nat) (hp : p ≤ l.length) (os : List OpL) (R : Rs (List ColL)) (hR : R = (markP l ⟨#[40]⟩ p os).bind fun _ p ops => colsP l 8 [] p ops) (ad : Option Addr) (n cap : Nat) : VX Tryd.prog G 46 [.v (.pointer (some ⟨br, 0, none⟩))] [⟨br, 70, 3, [.list 3 (l.flatMap cT) l.length, .v (.int .i64 ((p : Nat) : Int)), .v (.slice ad n cap)]⟩] (fun r S' => EndR br l R dvC r S') (PanX R) := by
 refine VX.body func46 rfl ntmps46 le_ fun X0 w0 S00 => ?_
 refine CD.seq ?_
 refine CD.region ?_
 refine om_ ?_
 refine nm_ [0] ?_
 refine sr_ ?_
 refine om_ ?_
 refine nm_ [0, 3] ?_
 refine sr_ ?_
 refine om_ ?_
 refine OD.callX wp_ rfl rfl rfl call49 (mark_vx l hl p ⟨#[40]⟩ ad n cap br) ⟨ot, opd_const, trivial⟩ (List.Perm.refl _) (fun ch hch => (Or.inr ⟨ch, rfl, ⟨_, _, hR.trans (by rw [mark_no hch.1]; rfl), hch.2⟩⟩ : BodyX _ _ _ _ _ _)) ?_
 rintro _ _ ⟨hm1, rfl⟩
 refine OD.perm (S' := ⟨br, 70, 3, [.list 3 (l.flatMap cT) l.length, .v (.int .i64 (((p + 1) : Nat) : Int)), .v (.slice ad n cap)]⟩ :: []) (List.Perm.refl _) ?_
 have hR1 : R = colsP l 8 [] (p + 1) os := hR.trans (by rw [mark_yes hm1]; rfl)
 refine OD.wk (Wk.as_ (n := 66) (l' := [(0, _), (3, _)]) (S' := (⟨br, 70, 3, [_, _, _]⟩ :: [])) rfl rfl sl_) ?_
 refine OD.nil ?_
 refine CD.seq ?_
 refine CD.block ?_
 refine lp_ (fun (gh__ : Nat × List ColL × Nat × Option Addr × Nat × List Blk) y__ => match gh__ with | (f, out, q, ado, cpo, So) => (f + out.length = 8) ∧ (out.length ≤ 6) ∧ (q ≤ l.length) ∧ (R = colsP l f out q os) ∧ (OwnL 95 2 ((out).flatMap cC) (out).length ado cpo So) ∧ y__ = (⟨66, [(0, .v (.pointer (some ⟨br, 0, none⟩))), (3, .v (.slice ado (out).length cpo))], (⟨br, 70, 3, [.list 3 (l.flatMap cT) l.length, .v (.int .i64 ((q : Nat) : Int)), .v (.slice ad n cap)]⟩ :: So)⟩ : St)) (fun (gh__ : Nat × List ColL × Nat × Option Addr × Nat × List Blk) => match gh__ with | (f, out, q, ado, cpo, So) => f) (8, [], (p + 1), none, 0, []) ⟨rfl, (by decide), (isQ_lt hm1), hR1, (OwnL.cast ownL_nil (by rfl)), rfl⟩ (Wk.asS rfl su_ (by repeat (first | exact trivial | refine ⟨(by (repeat (first | exact look_hit | (apply look_at; focus (first | rfl | (simp; done) | (congr 2; omega) | (apply row_eq; rfl) | (apply row_eq; rfl) | (apply row_eq; simp; done))) | (apply look_miss; focus rfl))); done), ?_⟩))) ?_
 rintro ⟨f, out, q, ado, cpo, So⟩ _ ⟨hfo, ho6, hpl, hRl, hoo, rfl⟩
 rcases f with _ | f
 ·omega
 refine CD.block ?_
 refine CD.seq ?_
 refine sr_ ?_
 refine om_ ?_
 refine os_ ln_ ?_
 refine os_ bn_ ?_
 refine nm_ [0, 3, 11] ?_
 refine CD.cond ot (fun hc0 => ?_) (fun hc0 => ?_)
 ·have hc0' := hc0
  (try simp only [V.cnd, ne_eq] at hc0')
  have h6 : out.length = 6 := by simp at hc0; omega
  have hR2 : R = gv l q 10 := hRl.trans (by rw [colsP, if_pos h6])
  refine CD.region ?_
  refine om_ ?_
  exact OD.callX wp_ rfl rfl rfl call26 (give_vx l hl q 10 ad n cap br) ⟨ot, opd_const, trivial⟩ (List.Perm.refl _) (fun ch hch => (Or.inr ⟨ch, rfl, ⟨_, _, hR2, hch⟩⟩ : BodyX _ _ _ _ _ _)) (fun r S' h => h.elim)
 have hc0' := hc0
 (try simp only [V.cnd, ne_eq] at hc0')
 have h6 : ¬ out.length = 6 := by simp at hc0; omega
 have hR3 : R = (nameP l q os).bind (fun s p1 ops1 => if (out.any fun c => eqS c.n s) = true then gv l (p1 - 1) 9 else if kindP l p1 = 0 then gv l p1 6 else if isQ l (p1 + 1) 4 ⟨#[44]⟩ = true then colsP l f (out ++ [⟨s, kindP l p1⟩]) (p1 + 2) ops1 else (markP l ⟨#[41]⟩ (p1 + 1) ops1).bind fun _ p3 ops3 => .ok (out ++ [⟨s, kindP l p1⟩]) p3 ops3) := hRl.trans (by rw [colsP, if_neg h6])
 refine CD.skip ?_
 refine sr_ ?_
 refine om_ ?_
 refine OD.callX wp_ rfl rfl rfl call45 (name_vx hm hw l hl ht q ad n cap br) ⟨ot, trivial⟩ (List.Perm.refl _) (fun ch hch => (Or.inr ⟨ch, rfl, by obtain ⟨q, e, h1, h2⟩ := hch; exact ⟨q, e, hR3.trans (by rw [h1]; rfl), h2⟩⟩ : BodyX _ _ _ _ _ _)) ?_
 rintro _ _ ⟨s, hr4, rfl, rfl⟩
 refine OD.perm (S' := ⟨br, 70, 3, [.list 3 (l.flatMap cT) l.length, .v (.int .i64 (((q + 1) : Nat) : Int)), .v (.slice ad n cap)]⟩ :: So) (List.Perm.refl _) ?_
 have hlt4 := (name_le (hr4 [])).2.2
 have hR4 : R = if (out.any fun c => eqS c.n s) = true then gv l ((q + 1) - 1) 9 else if kindP l (q + 1) = 0 then gv l (q + 1) 6 else if isQ l ((q + 1) + 1) 4 ⟨#[44]⟩ = true then colsP l f (out ++ [⟨s, kindP l (q + 1)⟩]) ((q + 1) + 1 + 1) os else (markP l ⟨#[41]⟩ ((q + 1) + 1) os).bind (fun _ p3 ops3 => .ok (out ++ [⟨s, kindP l (q + 1)⟩]) p3 ops3) := hR3.trans (by rw [hr4]; rfl)
 refine os_ (still_bld (pl := [(0, _)]) (ds := [_, _]) rfl zeroValue95 runUnderlying95 places95_Pa9 ⟨rfl, ot, trivial⟩ rfl rfl) ?_
 refine OD.alloc (ds := [_, _]) wp_ rfl rfl zeroValue95 rfl (fun b4 => ?_)
 refine ot_ 0 [_, _] sizeOf95 ?_
 refine OD.wk (Wk.as_ (n := 66) (l' := [(0, _), (3, _), (4, _)]) (S' := (⟨b4, 95, 2, [_, _]⟩ :: ⟨br, 70, 3, [_, _, _]⟩ :: So)) rfl rfl sl_) ?_
 refine OD.nil ?_
 refine CD.seq ?_
 refine sr_ ?_
 refine om_ ?_
 refine os_ (still_fn (ds := [_]) rfl ⟨ot, trivial⟩) ?_
 refine OD.look wp_ rfl rfl rfl call74 (contains_vc (out) 75 [.iptr [.v (.string s), .v (.int .i64 0)] 0] [] (fun c => eqS c.n s) call75 (fun c _ => same_vp c s 0) (by omega)) rfl ⟨⟨_, ot, view_own hoo (fm_len cC_len _) (fun B hB => List.mem_cons_of_mem _ (List.mem_cons_of_mem _ hB))⟩, ⟨_, ot, view_clo (by exact ⟨view_box (e := 95) (size := 2) List.mem_cons_self Views.same, trivial⟩)⟩, trivial⟩ ?_
 refine OD.wk (Wk.as_ (n := 66) (l' := [(0, _), (3, _), (4, _), (19, _)]) (S' := (⟨b4, 95, 2, [_, _]⟩ :: ⟨br, 70, 3, [_, _, _]⟩ :: So)) rfl rfl sl_) ?_
 refine OD.nil ?_
 refine CD.cond ot (fun hc1 => ?_) (fun hc1 => ?_)
 ·have hc1' := hc1
  (try simp only [V.cnd, ne_eq] at hc1')
  have hR5 : R = gv l ((q + 1) - 1) 9 := hR4.trans (by rw [if_pos hc1])
  refine sr_ ?_
  refine om_ ?_
  refine os_ nc_ ?_
  refine os_ (fa_ 1) ?_
  refine os_ (lb_ 1) ?_
  refine os_ (still_bin (r := .int .i64 (((q + 1 - 1 : Nat)) : Int)) rfl ot opd_const (bin_sub (by rw [show (((q + 1 : Nat)) : Int) - 1 = ((q + 1 - 1 : Nat) : Int) by omega]; exact wrap_i64 (by omega) (by omega)))) ?_
  refine os_ nc_ ?_
  refine os_ (fa_ 1) ?_
  refine ot_ 1 [_, _, _] sizeOf3 ?_
  refine OD.wk (Wk.as_ (n := 66) (l' := [(0, _), (3, _), (4, _)]) (S' := (⟨b4, 95, 2, [_, _]⟩ :: ⟨br, 70, 3, [_, _, _]⟩ :: So)) rfl rfl sl_) ?_
  refine OD.nil ?_
  refine CD.region ?_
  refine om_ ?_
  exact OD.callX wp_ rfl rfl rfl call26 (give_vx l hl ((q + 1) - 1) 9 ad n cap br) ⟨ot, opd_const, trivial⟩ (List.Perm.swap _ _ _) (fun ch hch => (Or.inr ⟨ch, rfl, ⟨_, _, hR5, hch⟩⟩ : BodyX _ _ _ _ _ _)) (fun r S' h => h.elim)
 have hc1' := hc1
 (try simp only [V.cnd, ne_eq] at hc1')
 have hR6 : R = if kindP l (q + 1) = 0 then gv l (q + 1) 6 else if isQ l ((q + 1) + 1) 4 ⟨#[44]⟩ = true then colsP l f (out ++ [⟨s, kindP l (q + 1)⟩]) ((q + 1) + 1 + 1) os else (markP l ⟨#[41]⟩ ((q + 1) + 1) os).bind (fun _ p3 ops3 => .ok (out ++ [⟨s, kindP l (q + 1)⟩]) p3 ops3) := hR4.trans (by rw [if_neg (F_ hc1)])
 refine CD.skip ?_
 refine CD.seq ?_
 refine sr_ ?_
 refine os_ (still_r1 (mk := Op.load 99) rfl opd_glob (by exact ld_tabs hty isAgg99 sizeOf99 rfl)) ?_
 refine om_ ?_
 refine OD.wk (Wk.as_ (n := 66) (l' := [(0, _), (3, _), (4, _), (29, _), (30, _)]) (S' := (⟨b4, 95, 2, [_, _]⟩ :: ⟨br, 70, 3, [_, _, _]⟩ :: So)) rfl rfl sl_) ?_
 refine OD.nil ?_
 refine CD.block ?_
 refine lp_ (fun (k : Nat) y__ => (k ≤ 4) ∧ y__ = (⟨66, [(0, .v (.pointer (some ⟨br, 0, none⟩))), (3, .v (.slice ado out.length cpo)), (4, .v (.pointer (some ⟨b4, 0, none⟩))), (29, .agg (typesC.map D.v)), (30, .v (.int .i64 (k : Nat)))], (⟨b4, 95, 2, [.v (.string s), .v (.int .i64 (kindUp l (q + 1) k))]⟩ :: ⟨br, 70, 3, [.list 3 (l.flatMap cT) l.length, .v (.int .i64 (((q + 1) : Nat) : Int)), .v (.slice ad n cap)]⟩ :: So)⟩ : St)) (fun (k : Nat) => 4 - k) 0 ⟨(by decide), rfl⟩ (Wk.asS rfl (List.Sublist.refl _) sq_) ?_
 rintro k _ ⟨hk4, rfl⟩
 refine sr_ ?_
 refine os_ bn_ ?_
 refine nm_ [0, 3, 4, 29, 30, 31] ?_
 refine CD.seq ?_
 refine CD.cond ot (fun hc2 => ?_) (fun hc2 => ?_)
 ·have hc2' := hc2
  (try simp only [V.cnd, ne_eq] at hc2')
  have hlt : k < 4 := by simp at hc2; omega
  refine CD.skip ?_
  refine CD.seq ?_
  refine CD.block ?_
  refine sr_ ?_
  refine om_ ?_
  refine os_ (still_vidx (j := k) rfl ot ot runUnderlying99 sizeOf9 isAgg9 rfl hlt (type_at hlt)) ?_
  refine om_ ?_
  refine om_ ?_
  refine OD.wk (Wk.as_ (n := 66) (l' := [(0, _), (3, _), (4, _), (5, _), (6, _), (29, _), (30, _)]) (S' := (⟨b4, 95, 2, [_, _]⟩ :: ⟨br, 70, 3, [_, _, _]⟩ :: So)) rfl rfl sl_) ?_
  refine OD.nil ?_
  refine sr_ ?_
  refine om_ ?_
  refine os_ bn_ ?_
  refine om_ ?_
  refine OD.split (t := 36) lk (fun hg36 => ?_) (fun hg36 => ?_)
  ·have hg36' := hg36; (try simp only [V.cnd, ne_eq] at hg36')
   refine om_ ?_
   refine om_ ?_
   refine OD.call wt_ rfl rfl rfl call73 (is_vc l hl (q + 1) 1 (typesN[k]'hlt) ad n cap br) ⟨ot, opd_const, ot, trivial⟩ (List.Perm.swap _ _ _) ?_
   rintro _ _ ⟨rfl, rfl⟩
   refine OD.perm (S' := ⟨b4, 95, 2, [.v (.string s), .v (.int .i64 (kindUp l (q + 1) k))]⟩ :: ⟨br, 70, 3, [.list 3 (l.flatMap cT) l.length, .v (.int .i64 (((q + 1) : Nat) : Int)), .v (.slice ad n cap)]⟩ :: So) (List.Perm.swap _ _ _) ?_
   refine os_ pkT_ ?_
   refine OD.wk (Wk.as_ (n := 66) (l' := [(0, _), (3, _), (4, _), (5, _), (29, _), (30, _), (40, _)]) (S' := (⟨b4, 95, 2, [_, _]⟩ :: ⟨br, 70, 3, [_, _, _]⟩ :: So)) rfl rfl sl_) ?_
   refine OD.nil ?_
   refine CD.cond ot (fun hc3 => ?_) (fun hc3 => ?_)
   ·have hc3' := hc3
    (try simp only [V.cnd, ne_eq] at hc3')
    have hkn := kind_T (l := l) (p := (q + 1)) hlt (by simpa using hg36) hc3
    refine CD.region ?_
    refine om_ ?_
    refine os_ (fa_ 1) ?_
    refine OD.store (k := 0) (cs' := [_, _]) wp_ rfl rfl ot rfl rfl (Eq.trans ot (congrArg (fun z => D.v (.int .i64 z)) hkn)) rfl rfl sizeOf3 rfl rfl rfl ?_
    refine OD.wk (Wk.as_ (n := 66) (l' := [(0, _), (3, _), (4, _), (29, _), (30, _)]) (S' := (⟨b4, 95, 2, [_, _]⟩ :: ⟨br, 70, 3, [_, _, _]⟩ :: So)) rfl rfl sl_) ?_
    refine OD.nil ?_
    refine CD.region ?_
    refine os_ bn_ ?_
    refine om_ ?_
    refine nm_ [0, 3, 4, 29, 30] ?_
    refine ⟨(k + 1), _, ?_, ?_, (by omega), rfl⟩
    ·first | omega | (simp only []; omega)
    exact Wk.asS (n := 66) rfl (List.Sublist.refl _) sq_
   have hc3' := hc3
   (try simp only [V.cnd, ne_eq] at hc3')
   have hkn : kindUp l (q + 1) k = kindUp l (q + 1) (k + 1) := by first | exact kind_F hlt hc3 | exact kind_0 (by simpa using hg36)
   rw [hkn]
   refine CD.skip ?_
   refine CD.region ?_
   refine os_ bn_ ?_
   refine om_ ?_
   refine nm_ [0, 3, 4, 29, 30] ?_
   refine ⟨(k + 1), _, ?_, ?_, (by omega), rfl⟩
   ·first | omega | (simp only []; omega)
   exact Wk.asS (n := 66) rfl (List.Sublist.refl _) sq_
  have hg36' := hg36; (try simp only [V.cnd, ne_eq] at hg36')
  refine sk_ ?_
  refine sk_ ?_
  refine sk_ ?_
  refine os_ pkF_ ?_
  refine nm_ [0, 3, 4, 5, 29, 30, 40] ?_
  refine CD.condF ot (by first | rfl | assumption) ?_
  have hkn : kindUp l (q + 1) k = kindUp l (q + 1) (k + 1) := by first | exact kind_F hlt hc3 | exact kind_0 (by simpa using hg36)
  rw [hkn]
  refine CD.skip ?_
  refine CD.region ?_
  refine os_ bn_ ?_
  refine om_ ?_
  refine nm_ [0, 3, 4, 29, 30] ?_
  refine ⟨(k + 1), _, ?_, ?_, (by omega), rfl⟩
  ·first | omega | (simp only []; omega)
  exact Wk.asS (n := 66) rfl (List.Sublist.refl _) sq_
 have hc2' := hc2
 (try simp only [V.cnd, ne_eq] at hc2')
 obtain rfl : k = 4 := by simp at hc2; omega
 rw [kind_up]
 refine CD.exit ?_
 refine CD.seq ?_
 refine sr_ ?_
 refine os_ (fa_ 1) ?_
 refine os_ (lb_ 0) ?_
 refine os_ bn_ ?_
 refine nm_ [0, 3, 4, 46] ?_
 refine CD.cond ot (fun hc4 => ?_) (fun hc4 => ?_)
 ·have hc4' := hc4
  (try simp only [V.cnd, ne_eq] at hc4')
  have hk0 : kindP l (q + 1) = 0 := by simpa using hc4
  have hR7 : R = gv l (q + 1) 6 := hR6.trans (by rw [if_pos hk0])
  refine CD.region ?_
  refine om_ ?_
  exact OD.callX wp_ rfl rfl rfl call26 (give_vx l hl (q + 1) 6 ad n cap br) ⟨ot, opd_const, trivial⟩ (List.Perm.swap _ _ _) (fun ch hch => (Or.inr ⟨ch, rfl, ⟨_, _, hR7, hch⟩⟩ : BodyX _ _ _ _ _ _)) (fun r S' h => h.elim)
 have hc4' := hc4
 (try simp only [V.cnd, ne_eq] at hc4')
 have hk0 : ¬ kindP l (q + 1) = 0 := by simpa using hc4
 have hp1 : (q + 1) + 1 ≤ l.length := kind_lt hk0
 have hR8 : R = if isQ l ((q + 1) + 1) 4 ⟨#[44]⟩ = true then colsP l f (out ++ [⟨s, kindP l (q + 1)⟩]) ((q + 1) + 1 + 1) os else (markP l ⟨#[41]⟩ ((q + 1) + 1) os).bind (fun _ p3 ops3 => .ok (out ++ [⟨s, kindP l (q + 1)⟩]) p3 ops3) := hR6.trans (by rw [if_neg hk0])
 refine CD.skip ?_
 refine sr_ ?_
 refine om_ ?_
 refine os_ nc_ ?_
 refine os_ (fa_ 1) ?_
 refine os_ (lb_ 1) ?_
 refine os_ bn_ ?_
 refine os_ nc_ ?_
 refine os_ (fa_ 1) ?_
 refine ot_ 1 [_, _, _] sizeOf3 ?_
 refine OD.wk (Wk.as_ (n := 66) (l' := [(0, _), (3, _), (4, _)]) (S' := (⟨b4, 95, 2, [_, _]⟩ :: ⟨br, 70, 3, [_, _, _]⟩ :: So)) rfl rfl sl_) ?_
 refine OD.nil ?_
 refine sr_ ?_
 refine om_ ?_
 refine os_ (lab_ 0 [_, _]) ?_
 refine ob_ (numD 0 [_]) [.string ⟨#[]⟩, .int .i64 0] [_, _] zeroValue95 runUnderlying27 sizeOf95 (fun b58 => ?_)
 refine og_ 0 58 2 1 ?_
 refine OD.appendG (ls := (out)) (new := [ColL.mk s (kindP l (q + 1))]) (Sq := So) cC_len cC_one wp_ rfl rfl underlying27 info95_Pa9 rfl (by decide) ot hoo (perm_r11 (A := [_, _])) ot (by simp) (by simp only [maxLen, List.length_append, List.length_cons, List.length_nil] at *; omega) (by simp only [maxLen, List.length_append, List.length_cons, List.length_nil] at *; omega) (fun b59 cp59 h159 h259 => ?_)
 refine OD.perm (perm_q11 (S1 := [⟨b59, 95, cp59 * 2, List.flatMap cC ((out) ++ [ColL.mk s (kindP l (q + 1))])⟩]) (A := [_, _])) ?_
 refine om_ ?_
 refine OD.wk (Wk.as_ (n := 66) (l' := [(0, _), (3, _)]) (S' := (⟨b4, 95, 2, [_, _]⟩ :: ⟨br, 70, 3, [_, _, _]⟩ :: [⟨b59, 95, cp59 * 2, List.flatMap cC ((out) ++ [ColL.mk s (kindP l (q + 1))])⟩])) rfl rfl sl_) ?_
 refine OD.nil ?_
 refine sr_ ?_
 refine om_ ?_
 refine OD.call wp_ rfl rfl rfl call43 (eat_vc l hl ((q + 1) + 1) 4 ⟨#[44]⟩ ad n cap br) ⟨ot, opd_const, opd_const, trivial⟩ (List.Perm.swap _ _ _) ?_
 rintro _ _ ⟨rfl, rfl⟩
 refine OD.perm (S' := ⟨b4, 95, 2, [.v (.string s), .v (.int .i64 (kindP l (q + 1)))]⟩ :: ⟨br, 70, 3, [.list 3 (l.flatMap cT) l.length, .v (.int .i64 (((if isQ l ((q + 1) + 1) 4 ⟨#[44]⟩ = true then ((q + 1) + 1) + 1 else ((q + 1) + 1)) : Nat) : Int)), .v (.slice ad n cap)]⟩ :: [⟨b59, 95, cp59 * 2, List.flatMap cC ((out) ++ [ColL.mk s (kindP l (q + 1))])⟩]) (List.Perm.swap _ _ _) ?_
 refine os_ un_ ?_
 refine OD.wk (Wk.as_ (n := 66) (l' := [(0, _), (3, _), (62, _)]) (S' := (⟨b4, 95, 2, [_, _]⟩ :: ⟨br, 70, 3, [_, _, _]⟩ :: [⟨b59, 95, cp59 * 2, List.flatMap cC ((out) ++ [ColL.mk s (kindP l (q + 1))])⟩])) rfl rfl sl_) ?_
 refine OD.nil ?_
 refine CD.cond ot (fun hc5 => ?_) (fun hc5 => ?_)
 ·have hc5' := hc5
  (try simp only [V.cnd, ne_eq] at hc5')
  have ef : isQ l ((q + 1) + 1) 4 ⟨#[44]⟩ = false := by simpa using hc5
  rw [ef]
  simp only [Bool.false_eq_true, if_false]
  have hR9 : R = (markP l ⟨#[41]⟩ ((q + 1) + 1) os).bind (fun _ p3 ops3 => .ok (out ++ [⟨s, kindP l (q + 1)⟩]) p3 ops3) := hR8.trans (by rw [if_neg (F_ ef)])
  refine CD.exit ?_
  refine sr_ ?_
  refine om_ ?_
  refine OD.callX wp_ rfl rfl rfl call49 (mark_vx l hl ((q + 1) + 1) ⟨#[41]⟩ ad n cap br) ⟨ot, opd_const, trivial⟩ (List.Perm.swap _ _ _) (fun ch hch => (Or.inr ⟨ch, rfl, ⟨_, _, hR9.trans (by rw [mark_no hch.1]; rfl), hch.2⟩⟩ : BodyX _ _ _ _ _ _)) ?_
  rintro _ _ ⟨hm10, rfl⟩
  refine OD.perm (S' := ⟨b4, 95, 2, [.v (.string s), .v (.int .i64 (kindP l (q + 1)))]⟩ :: ⟨br, 70, 3, [.list 3 (l.flatMap cT) l.length, .v (.int .i64 (((((q + 1) + 1) + 1) : Nat) : Int)), .v (.slice ad n cap)]⟩ :: [⟨b59, 95, cp59 * 2, List.flatMap cC ((out) ++ [ColL.mk s (kindP l (q + 1))])⟩]) (List.Perm.swap _ _ _) ?_
  have hR10 : R = .ok (out ++ [⟨s, kindP l (q + 1)⟩]) (((q + 1) + 1) + 1) os := hR9.trans (by rw [mark_yes hm10]; rfl)
  refine OD.wk (Wk.as_ (n := 66) (l' := [(3, _)]) (S' := (⟨b4, 95, 2, [_, _]⟩ :: ⟨br, 70, 3, [_, _, _]⟩ :: [⟨b59, 95, cp59 * 2, List.flatMap cC ((out) ++ [ColL.mk s (kindP l (q + 1))])⟩])) rfl rfl sl_) ?_
  refine OD.nil ?_
  refine sr_ ?_
  refine om_ ?_
  refine om_ ?_
  refine nm_ [2] ?_
  refine CD.giveL (t := 2) (Sq := [⟨b59, 95, cp59 * 2, List.flatMap cC ((out) ++ [ColL.mk s (kindP l (q + 1))])⟩]) lk (ownL_row h159 h259) (fm_len cC_len _) (perm_r11 (A := [_, _])) ?_
  refine CD.ret ?_
  refine Or.inl ?_
  refine ⟨.inr rfl, _, [⟨br, 70, 3, [.list 3 (l.flatMap cT) l.length, .v (.int .i64 (((((q + 1) + 1) + 1) : Nat) : Int)), .v (.slice ad n cap)]⟩], sw_, ret_one results46 (res_tmp le_ lk), ?_⟩
  exact ⟨out ++ [⟨s, kindP l (q + 1)⟩], (((q + 1) + 1) + 1), os, _, _, _, hR10, ⟨rfl, by simp; omega⟩, (isQ_lt hm10), rfl⟩
 have hc5' := hc5
 (try simp only [V.cnd, ne_eq] at hc5')
 have et : isQ l ((q + 1) + 1) 4 ⟨#[44]⟩ = true := by simpa using hc5
 rw [et]
 simp only [if_true]
 have hR11 : R = colsP l f (out ++ [⟨s, kindP l (q + 1)⟩]) (((q + 1) + 1) + 1) os := hR8.trans (by rw [if_pos et])
 refine CD.skip ?_
 refine ⟨(f, (out ++ [ColL.mk s (kindP l (q + 1))]), (((q + 1) + 1) + 1), (some ⟨b59, 0, none⟩), cp59, [⟨b59, 95, cp59 * 2, List.flatMap cC ((out) ++ [ColL.mk s (kindP l (q + 1))])⟩]), _, ?_, ?_, (by simp; omega), (by simp; omega), (isQ_lt et), hR11, (OwnL.cast (ownL_row h159 h259) (by rfl)), rfl⟩
 ·first | omega | (simp only []; omega)
 exact Wk.asS (n := 66) rfl su_ (by repeat (first | exact trivial | refine ⟨(by (repeat (first | exact look_hit | (apply look_at; focus (first | rfl | (simp; done) | (congr 2; omega) | (apply row_eq; rfl) | (apply row_eq; rfl) | (apply row_eq; simp; done))) | (apply look_miss; focus rfl))); done), ?_⟩))

end Go.Proofs.YtjgekbmahhhokaaDoor.Pa

namespace Go.Proofs.YtjgekbmahhhokaaDoor.Pa
open Go.Proofs.Tryd
open Go.RowKit V Pk Go.Proofs.YtjgekbmahhhokaaDoor.Vl Go.Proofs.YtjgekbmahhhokaaDoor.Nm
def colF (pre : List ColL) (c : ColL) : Int :=
 if nameF c.n ≠ 0 then nameF c.n else if c.k < 1 ∨ c.k > 3 then 2 else if (pre.any fun d => d.n.toList == c.n.toList) = true then 9 else 0
def colsA : List ColL → List ColL → Int
 | _, [] => 0
 | pre, c :: r => if colF pre c ≠ 0 then colF pre c else colsA (pre ++ [c]) r
def colsF (l : List ColL) : Int := if l.length < 1 ∨ l.length > 6 then 1 else colsA [] l
theorem cols_next {l : List ColL} {i : Nat} (hi : i < l.length) (h : colF (l.take i) l[i] = 0) : colsA (l.take i) (l.drop i) = colsA (l.take (i + 1)) (l.drop (i + 1)) := by
 rw [List.drop_eq_getElem_cons hi, List.take_succ_eq_append_getElem hi]
 exact if_neg (by simp [h])
theorem cols_hit {l : List ColL} {i : Nat} (hi : i < l.length) (h : colF (l.take i) l[i] ≠ 0) : colsA (l.take i) (l.drop i) = colF (l.take i) l[i] := by
 rw [List.drop_eq_getElem_cons hi]
 exact if_pos h
theorem cols_end {l : List ColL} {i : Nat} (hi : ¬ i < l.length) : colsA (l.take i) (l.drop i) = 0 := by
 rw [List.drop_of_length_le (by omega)]; rfl
theorem cT_one (t : Tk) : (cT t).all V.one = true := rfl
def wordT (s : ByteArray) : Tk := ⟨1, s, 0⟩
def markT (s : ByteArray) : Tk := ⟨4, s, 0⟩
def cK (l : List Tk) : List D := [.list 3 (l.flatMap cT) l.length]
theorem cK_len (l : List Tk) : (cK l).length = 1 := rfl
theorem cK_one (l : List Tk) : (cK l).all V.one = true := rfl
theorem map_step {α β : Type} (f : α → β) {l : List α} {i : Nat} (hi : i < l.length) : (l.take i).map f ++ [f l[i]] = (l.take (i + 1)).map f := by rw [List.take_succ_eq_append_getElem hi, List.map_append]; rfl
theorem map_end {α β : Type} (f : α → β) {l : List α} {i : Nat} (hi : l.length ≤ i) : (l.take i).map f = l.map f := by rw [List.take_of_length_le hi]
variable {G : List (Nat × List Value)}

theorem same_vc (h x : ColL) (b : Nat) : VC Tryd.prog G 83 [.agg (cC h), .v (.pointer (some ⟨b, 0, none⟩))] [⟨b, 95, 2, cC x⟩] (fun r S => r = .v (.bool (h.n.toList == x.n.toList)) ∧ S = [⟨b, 95, 2, cC x⟩]) := by
 refine VC.body func83 rfl ntmps83 le_ fun X0 w0 S00 => ?_
 unfold cC
 refine sr_ ?_
 refine OD.box (ds := [_, _]) wp_ rfl rfl ot rfl rfl (fun b2 => ?_)
 refine om_ ?_
 refine on_ [(1, _), (2, _)] [⟨b2, 95, 2, [_, _]⟩, ⟨_, _, _, [_, _]⟩] ?_
 refine sr_ ?_
 refine os_ (fa_ 0) ?_
 refine os_ (lb_ 0) ?_
 refine os_ (fa_ 0) ?_
 refine os_ (lb_ 1) ?_
 refine os_ bn_ ?_
 refine om_ ?_
 refine nm_ [3] ?_
 refine CD.ret ?_
 refine ⟨.inr rfl, _, [⟨b, 95, 2, cC x⟩], sv_, ret_one results83 (res_tmp le_ lk), ?_⟩
 exact ⟨rfl, rfl⟩

theorem cols_vp (hm : (0, marksC) ∈ G) (hw : (2, wordsC) ∈ G) (l : List ColL) (hl : l.length ≤ maxLen) (hok : ∀ c ∈ l, c.n.size ≤ maxLen) : VP Tryd.prog G 62 [.list 2 (l.flatMap cC) l.length] (.v (.int .i64 (colsF l))) := by
 refine VC.body func62 rfl ntmps62 le_ fun X0 w0 S00 => ?_
 have hmx : maxLen = 9223372036854775807 := rfl
 refine sr_ ?_
 refine om_ ?_
 refine nm_ [0] ?_
 refine CD.seq ?_
 refine sr_ ?_
 refine om_ ?_
 refine os_ ln_ ?_
 refine os_ bn_ ?_
 refine om_ ?_
 refine OD.split (t := 9) lk (fun hg9 => ?_) (fun hg9 => ?_)
 ·have hg9' := hg9; (try simp only [V.cnd, ne_eq] at hg9')
  refine sk_ ?_
  refine sk_ ?_
  refine sk_ ?_
  refine os_ pkT_ ?_
  refine nm_ [0, 13] ?_
  refine CD.condT ot (by first | rfl | assumption) ?_
  have hres : colsF l = 1 := if_pos (by omega)
  refine sr_ ?_
  refine om_ ?_
  refine nm_ [2] ?_
  refine CD.ret ?_
  refine r1_ ?_
  rw [hres]; exact ⟨rfl, rfl⟩
 have hg9' := hg9; (try simp only [V.cnd, ne_eq] at hg9')
 refine om_ ?_
 refine os_ ln_ ?_
 refine os_ bn_ ?_
 refine os_ pkF_ ?_
 refine nm_ [0, 13] ?_
 refine CD.cond ot (fun hc0 => ?_) (fun hc0 => ?_)
 ·have hc0' := hc0
  (try simp only [V.cnd, ne_eq] at hc0')
  have hres : colsF l = 1 := if_pos (by omega)
  refine sr_ ?_
  refine om_ ?_
  refine nm_ [2] ?_
  refine CD.ret ?_
  refine r1_ ?_
  rw [hres]; exact ⟨rfl, rfl⟩
 have hc0' := hc0
 (try simp only [V.cnd, ne_eq] at hc0')
 have h16 : ¬ (l.length < 1 ∨ l.length > 6) := by omega
 have hinv0 : colsF l = colsA (l.take 0) (l.drop 0) := if_neg h16
 refine CD.skip ?_
 refine CD.seq ?_
 refine sr_ ?_
 refine om_ ?_
 refine os_ ln_ ?_
 refine om_ ?_
 refine nm_ [0, 14, 15, 16] ?_
 refine CD.block ?_
 refine lp_ (fun (i : Nat) y__ => (i ≤ l.length) ∧ (colsF l = colsA (l.take i) (l.drop i)) ∧ y__ = (⟨41, [(0, .list 2 (l.flatMap cC) l.length), (14, .list 2 (l.flatMap cC) l.length), (15, .v (.int .i64 (l.length : Nat))), (16, .v (.int .i64 (i : Nat)))], []⟩ : St)) (fun (i : Nat) => l.length - i) 0 ⟨(Nat.zero_le _), hinv0, rfl⟩ (Wk.asS rfl sv_ sq_) ?_
 rintro i _ ⟨hi, hinv, rfl⟩
 refine sr_ ?_
 refine os_ bn_ ?_
 refine nm_ [0, 14, 15, 16, 17] ?_
 refine CD.seq ?_
 refine CD.cond ot (fun hc1 => ?_) (fun hc1 => ?_)
 ·have hc1' := hc1
  (try simp only [V.cnd, ne_eq] at hc1')
  have hlt : i < l.length := by omega
  refine CD.skip ?_
  refine CD.seq ?_
  refine CD.block ?_
  refine sr_ ?_
  refine om_ ?_
  refine os_ (ix_ 2) ?_
  refine os_ (la_ [_, _]) ?_
  refine OD.alloc (ds := [_, _]) wp_ rfl rfl zeroValue95 rfl (fun b4 => ?_)
  refine om_ ?_
  refine ot_ 0 [_, _] sizeOf95 ?_
  refine on_ [(0, _), (3, _), (4, _), (14, _), (15, _), (16, _)] [⟨b4, 95, 2, [_, _]⟩] ?_
  refine CD.seq ?_
  refine sr_ ?_
  refine os_ (fa_ 0) ?_
  refine os_ (lb_ 0) ?_
  refine oc_ call61 (name_vp hm hw l[i].n (hok _ (List.getElem_mem hlt))) ?_
  refine om_ ?_
  refine on_ [(0, _), (3, _), (4, _), (5, _), (14, _), (15, _), (16, _)] [⟨b4, 95, 2, [_, _]⟩] ?_
  refine sr_ ?_
  refine om_ ?_
  refine os_ bn_ ?_
  refine nm_ [0, 3, 4, 5, 14, 15, 16, 25] ?_
  refine CD.cond ot (fun hc2 => ?_) (fun hc2 => ?_)
  ·have hc2' := hc2
   (try simp only [V.cnd, ne_eq] at hc2')
   have hne : nameF l[i].n ≠ 0 := by simpa using hc2
   have hf : colF (l.take i) l[i] = nameF l[i].n := if_pos hne
   have hres : colsF l = nameF l[i].n := by rw [hinv, cols_hit hlt (by rw [hf]; exact hne), hf]
   refine sr_ ?_
   refine om_ ?_
   refine om_ ?_
   refine nm_ [2] ?_
   refine CD.ret ?_
   refine r1_ ?_
   rw [hres]; exact ⟨rfl, rfl⟩
  have hc2' := hc2
  (try simp only [V.cnd, ne_eq] at hc2')
  have hn0 : ¬ nameF l[i].n ≠ 0 := by simpa using hc2
  refine CD.skip ?_
  refine CD.seq ?_
  refine sr_ ?_
  refine os_ (fa_ 1) ?_
  refine os_ (lb_ 0) ?_
  refine os_ bn_ ?_
  refine om_ ?_
  refine OD.split (t := 30) lk (fun hg30 => ?_) (fun hg30 => ?_)
  ·have hg30' := hg30; (try simp only [V.cnd, ne_eq] at hg30')
   refine sk_ ?_
   refine sk_ ?_
   refine sk_ ?_
   refine os_ pkT_ ?_
   refine nm_ [0, 3, 4, 14, 15, 16, 34] ?_
   refine CD.condT ot (by first | rfl | assumption) ?_
   have hf : colF (l.take i) l[i] = 2 := by unfold colF; rw [if_neg hn0, if_pos (by omega)]
   have hres : colsF l = 2 := by rw [hinv, cols_hit hlt (by rw [hf]; decide), hf]
   refine sr_ ?_
   refine om_ ?_
   refine nm_ [2] ?_
   refine CD.ret ?_
   refine r1_ ?_
   rw [hres]; exact ⟨rfl, rfl⟩
  have hg30' := hg30; (try simp only [V.cnd, ne_eq] at hg30')
  refine os_ (fa_ 1) ?_
  refine os_ (lb_ 0) ?_
  refine os_ bn_ ?_
  refine os_ pkF_ ?_
  refine nm_ [0, 3, 4, 14, 15, 16, 34] ?_
  refine CD.cond ot (fun hc3 => ?_) (fun hc3 => ?_)
  ·have hc3' := hc3
   (try simp only [V.cnd, ne_eq] at hc3')
   have hf : colF (l.take i) l[i] = 2 := by unfold colF; rw [if_neg hn0, if_pos (by omega)]
   have hres : colsF l = 2 := by rw [hinv, cols_hit hlt (by rw [hf]; decide), hf]
   refine sr_ ?_
   refine om_ ?_
   refine nm_ [2] ?_
   refine CD.ret ?_
   refine r1_ ?_
   rw [hres]; exact ⟨rfl, rfl⟩
  have hc3' := hc3
  (try simp only [V.cnd, ne_eq] at hc3')
  have hk : ¬ (l[i].k < 1 ∨ l[i].k > 3) := by omega
  refine CD.skip ?_
  refine sr_ ?_
  refine om_ ?_
  refine om_ ?_
  refine os_ (still_rs (l := 0) rfl ot trivial ⟨_, ot⟩ (by first | exact sl_head cC_len (fun h => by cases h) runUnderlying27 sizeOf95 (by omega) | exact sl_row (fun h => by cases h) runUnderlying27 sizeOf95 (by omega) | exact sl_list (fun _ => rfl) (fun h => by cases h) runUnderlying27 sizeOf95 (by omega) (by omega))) ?_
  refine os_ (still_fn (ds := [_]) rfl ⟨ot, trivial⟩) ?_
  refine OD.call wp_ rfl rfl rfl call74 (contains_vc (l.take i) 83 [.v (.pointer (some ⟨b4, 0, none⟩))] _ (fun d => d.n.toList == l[i].n.toList) call83 (fun h _ => same_vc h l[i] b4) (by rw [List.length_take]; omega)) ⟨opd_tmp rfl lk, opd_tmp rfl lk, trivial⟩ (perm_one (k := 0) rfl) ?_; rintro _ S2 ⟨rfl, hS2⟩; rw [hS2]; clear hS2
  refine on_ [(0, _), (14, _), (15, _), (16, _), (39, _)] [⟨b4, 95, 2, [_, _]⟩] ?_
  refine CD.cond ot (fun hc4 => ?_) (fun hc4 => ?_)
  ·have hc4' := hc4
   (try simp only [V.cnd, ne_eq] at hc4')
   have hf : colF (l.take i) l[i] = 9 := by unfold colF; rw [if_neg hn0, if_neg hk, if_pos hc4]
   have hres : colsF l = 9 := by rw [hinv, cols_hit hlt (by rw [hf]; decide), hf]
   refine sr_ ?_
   refine om_ ?_
   refine nm_ [2] ?_
   refine CD.ret ?_
   refine r1_ ?_
   rw [hres]; exact ⟨rfl, rfl⟩
  have hc4' := hc4
  (try simp only [V.cnd, ne_eq] at hc4')
  have hf : colF (l.take i) l[i] = 0 := by unfold colF; rw [if_neg hn0, if_neg hk, if_neg (by rw [hc4]; simp)]
  have hnext := hinv.trans (cols_next hlt hf)
  refine CD.skip ?_
  refine CD.region ?_
  refine os_ bn_ ?_
  refine om_ ?_
  refine nm_ [0, 14, 15, 16] ?_
  refine ⟨(i + 1), _, ?_, ?_, (by omega), hnext, rfl⟩
  ·first | omega | (simp only []; omega)
  exact Wk.asS (n := 41) rfl sv_ sq_
 have hc1' := hc1
 (try simp only [V.cnd, ne_eq] at hc1')
 have hres : colsF l = 0 := by rw [hinv]; exact cols_end (by omega)
 refine CD.exit ?_
 refine sr_ ?_
 refine om_ ?_
 refine nm_ [2] ?_
 refine CD.ret ?_
 refine r1_ ?_
 rw [hres]; exact ⟨rfl, rfl⟩

theorem places24_Pe1 : ∀ w, ((#[{ name := "Kind", type := 3, offset := 0, embedded := false, tag := "", pkgPath := "", byteOffset := 0 }, { name := "Text", type := 9, offset := 1, embedded := false, tag := "", pkgPath := "", byteOffset := 8 }, { name := "Int", type := 3, offset := 2, embedded := false, tag := "", pkgPath := "", byteOffset := 24 }] : Array Field).mapM fun f => do pure (f.offset, ← sizeOf f.type) : Sem (Array (Nat × Nat))).run Tryd.prog w = .ok #[(0, 1), (1, 1), (2, 1)] w := fun w => by simp [sizeOf3, sizeOf9]

theorem mark_vp (s : ByteArray) : VP Tryd.prog G 58 [.v (.string s)] (.agg (cT (markT s))) := by
 refine VC.body func58 rfl ntmps58 le_ fun X0 w0 S00 => ?_
 refine sr_ ?_
 refine OD.alloc (ds := [_, _, _]) wp_ rfl rfl zeroValue24 rfl (fun b2 => ?_)
 refine on_ [(0, _), (2, _)] [⟨b2, 24, 3, [_, _, _]⟩] ?_
 refine sr_ ?_
 refine om_ ?_
 refine os_ (still_bld (pl := [(0, _), (1, _)]) (ds := [_, _, _]) rfl zeroValue24 runUnderlying24 places24_Pe1 ⟨rfl, opd_const, rfl, ot, trivial⟩ rfl rfl) ?_
 refine ot_ 0 [_, _, _] sizeOf24 ?_
 refine on_ [(2, _)] [⟨b2, 24, 3, [_, _, _]⟩] ?_
 refine CD.ret ?_
 refine ⟨.inr rfl, _, [], List.nil_sublist _, ret_one results58 (res_cells (k := 0) (ds := [_, _, _]) le_ lk rfl rfl isAgg24 sizeOf24 rfl rfl), ?_⟩
 exact ⟨rfl, rfl⟩

theorem word_vp (s : ByteArray) : VP Tryd.prog G 79 [.v (.string s)] (.agg (cT (wordT s))) := by
 refine VC.body func79 rfl ntmps79 le_ fun X0 w0 S00 => ?_
 refine sr_ ?_
 refine OD.alloc (ds := [_, _, _]) wp_ rfl rfl zeroValue24 rfl (fun b2 => ?_)
 refine on_ [(0, _), (2, _)] [⟨b2, 24, 3, [_, _, _]⟩] ?_
 refine sr_ ?_
 refine om_ ?_
 refine os_ (still_bld (pl := [(0, _), (1, _)]) (ds := [_, _, _]) rfl zeroValue24 runUnderlying24 places24_Pe1 ⟨rfl, opd_const, rfl, ot, trivial⟩ rfl rfl) ?_
 refine ot_ 0 [_, _, _] sizeOf24 ?_
 refine on_ [(2, _)] [⟨b2, 24, 3, [_, _, _]⟩] ?_
 refine CD.ret ?_
 refine ⟨.inr rfl, _, [], List.nil_sublist _, ret_one results79 (res_cells (k := 0) (ds := [_, _, _]) le_ lk rfl rfl isAgg24 sizeOf24 rfl rfl), ?_⟩
 exact ⟨rfl, rfl⟩

theorem info24_Pe1 : (Tryd.prog.info? 24).map (fun i => (i.zero, i.size, i.bytes)) = some (some (.agg #[.int .i64 0, .string ⟨#[]⟩, .int .i64 0]), 3, 32) := by kernel_rfl

theorem all_vc (l : List ByteArray) (hl : l.length ≤ 10) : VC Tryd.prog G 53 [.list 1 (l.flatMap cS) l.length] [] (RetL cT 24 3 (l.map wordT)) := by
 refine VC.body func53 rfl ntmps53 le_ fun X0 w0 S00 => ?_
 have hmx : maxLen = 9223372036854775807 := rfl
 refine sr_ ?_
 refine om_ ?_
 refine nm_ [0] ?_
 refine sr_ ?_
 refine om_ ?_
 refine nm_ [0, 3] ?_
 refine CD.seq ?_
 refine sr_ ?_
 refine om_ ?_
 refine os_ ln_ ?_
 refine om_ ?_
 refine nm_ [3, 6, 7, 8] ?_
 refine CD.block ?_
 refine lp_ (fun (gh__ : Nat × Option Addr × Nat × List Blk) y__ => match gh__ with | (i, ada, cpa, Sa) => (i ≤ l.length) ∧ (OwnL 24 3 (((l.take i).map wordT).flatMap cT) ((l.take i).map wordT).length ada cpa Sa) ∧ y__ = (⟨19, [(3, .v (.slice ada ((l.take i).map wordT).length cpa)), (6, .list 1 (l.flatMap cS) l.length), (7, .v (.int .i64 (l.length : Nat))), (8, .v (.int .i64 (i : Nat)))], (Sa)⟩ : St)) (fun (gh__ : Nat × Option Addr × Nat × List Blk) => match gh__ with | (i, ada, cpa, Sa) => l.length - i) (0, none, 0, []) ⟨(Nat.zero_le _), (OwnL.cast ownL_nil (by first | rfl | simp)), rfl⟩ (Wk.asS rfl su_ (by repeat (first | exact trivial | refine ⟨(by (repeat (first | exact look_hit | (apply look_at; focus (first | rfl | (simp; done) | (congr 2; omega) | (apply row_eq; exact map_step wordT hlt) | (apply row_eq; simp; done))) | (apply look_miss; focus rfl))); done), ?_⟩))) ?_
 rintro ⟨i, ada, cpa, Sa⟩ _ ⟨hi, hoa, rfl⟩
 refine sr_ ?_
 refine os_ bn_ ?_
 refine nm_ [3, 6, 7, 8, 9] ?_
 refine CD.seq ?_
 refine CD.cond ot (fun hc0 => ?_) (fun hc0 => ?_)
 ·have hc0' := hc0
  (try simp only [V.cnd, ne_eq] at hc0')
  have hlt : i < l.length := by omega
  refine CD.skip ?_
  refine CD.seq ?_
  refine CD.block ?_
  refine sr_ ?_
  refine os_ (ix_ 1) ?_
  refine os_ ld_ ?_
  refine om_ ?_
  refine nm_ [3, 5, 6, 7, 8] ?_
  refine CD.region ?_
  refine om_ ?_
  refine om_ ?_
  refine oc_ call79 (word_vp l[i]) ?_
  refine ob_ (numD 0 [_]) [.int .i64 0, .string ⟨#[]⟩, .int .i64 0] [_, _, _] zeroValue24 runUnderlying26 sizeOf24 (fun b15 => ?_)
  refine og_ 0 15 3 1 ?_
  refine OD.appendG (ls := ((l.take i).map wordT)) (new := [wordT l[i]]) (Sq := Sa) cT_len cT_one wp_ rfl rfl underlying26 info24_Pe1 rfl (by decide) ot hoa (perm_r11 (A := [])) ot (by simp) (by have hmx : maxLen = 9223372036854775807 := rfl; (try simp only [List.length_append, List.length_cons, List.length_nil, List.length_map, List.length_take]); omega) (by have hmx : maxLen = 9223372036854775807 := rfl; (try simp only [List.length_append, List.length_cons, List.length_nil, List.length_map, List.length_take]); omega) (fun b16 cp16 h116 h216 => ?_)
  refine OD.perm (perm_q11 (S1 := [⟨b16, 24, cp16 * 3, List.flatMap cT (((l.take i).map wordT) ++ [wordT l[i]])⟩]) (A := [])) ?_
  refine om_ ?_
  refine OD.wk (Wk.as_ (n := 19) (l' := [(3, _), (6, _), (7, _), (8, _)]) (S' := ([⟨b16, 24, cp16 * 3, List.flatMap cT (((l.take i).map wordT) ++ [wordT l[i]])⟩])) rfl rfl sl_) ?_
  refine OD.nil ?_
  refine CD.region ?_
  refine os_ bn_ ?_
  refine om_ ?_
  refine nm_ [3, 6, 7, 8] ?_
  refine ⟨((i + 1), (some ⟨b16, 0, none⟩), cp16, [⟨b16, 24, cp16 * 3, List.flatMap cT (((l.take i).map wordT) ++ [wordT l[i]])⟩]), _, ?_, ?_, (by omega), (OwnL.cast (ownL_row h116 h216) (by exact map_step wordT hlt)), rfl⟩
  ·first | omega | (simp only []; omega)
  exact Wk.asS (n := 19) rfl su_ (by repeat (first | exact trivial | refine ⟨(by (repeat (first | exact look_hit | (apply look_at; focus (first | rfl | (simp; done) | (congr 2; omega) | (apply row_eq; exact map_step wordT hlt) | (apply row_eq; simp; done))) | (apply look_miss; focus rfl))); done), ?_⟩))
 have hc0' := hc0
 (try simp only [V.cnd, ne_eq] at hc0')
 have hend := map_end wordT (show l.length ≤ i by omega)
 refine CD.exit ?_
 refine sr_ ?_
 refine om_ ?_
 refine om_ ?_
 refine nm_ [2] ?_
 refine CD.ret ?_
 refine ⟨.inr rfl, _, _, (List.Sublist.refl _), ret_one results53 (res_tmp le_ lk), ?_⟩
 exact RetL.cast (RetL.mk hoa) hend

theorem all_vp (l : List ByteArray) (hl : l.length ≤ 10) : VP Tryd.prog G 53 [.list 1 (l.flatMap cS) l.length] (.list 3 ((l.map wordT).flatMap cT) (l.map wordT).length) := VC.given cT_len (all_vc l hl)

def preL (ts : List (List Tk)) : Nat → List Tk
 | 0 => [markT ⟨#[40]⟩]
 | i + 1 => preL ts i ++ (if i > 0 then [markT ⟨#[44]⟩] else []) ++ ts.getD i []
def listL (ts : List (List Tk)) : List Tk := preL ts ts.length ++ [markT ⟨#[41]⟩]
theorem pre_len {ts : List (List Tk)} (h : ∀ x ∈ ts, x.length ≤ 10) : ∀ i, (preL ts i).length ≤ 1 + 11 * i
 | 0 => Nat.le_refl _
 | i + 1 => by
  have ih := pre_len h i
  have h2 : (ts.getD i []).length ≤ 10 := by
   rw [List.getD_eq_getElem?_getD]
   cases hx : ts[i]? with
   | none => exact Nat.zero_le _
   | some x => exact h x (List.mem_of_getElem? hx)
  have h3 : (if i > 0 then [markT ⟨#[44]⟩] else []).length ≤ 1 := by split <;> simp
  unfold preL
  rw [List.length_append, List.length_append]; omega
theorem pre_more {ts : List (List Tk)} {i : Nat} (hi : i < ts.length) (h : 0 < i) : (preL ts i ++ [markT ⟨#[44]⟩]) ++ ts[i] = preL ts (i + 1) := by
 rw [preL, if_pos h, List.getD_eq_getElem?_getD, List.getElem?_eq_getElem hi]; rfl
theorem pre_first {ts : List (List Tk)} {i : Nat} (hi : i < ts.length) (h : ¬ 0 < i) : preL ts i ++ ts[i] = preL ts (i + 1) := by
 rw [preL, if_neg h, List.append_nil, List.getD_eq_getElem?_getD, List.getElem?_eq_getElem hi]; rfl

theorem list_vp (ts : List (List Tk)) (hl : ts.length ≤ 10) (hts : ∀ x ∈ ts, x.length ≤ 10) : VP Tryd.prog G 54 [.list 1 (ts.flatMap cK) ts.length] (.list 3 ((listL ts).flatMap cT) (listL ts).length) := by
 refine VC.body func54 rfl ntmps54 le_ fun X0 w0 S00 => ?_
 have hmx : maxLen = 9223372036854775807 := rfl
 refine sr_ ?_
 refine om_ ?_
 refine nm_ [0] ?_
 refine sr_ ?_
 refine oc_ call58 (mark_vp ⟨#[40]⟩) ?_
 refine ob_ (numD 0 [_]) [.int .i64 0, .string ⟨#[]⟩, .int .i64 0] [_, _, _] zeroValue24 runUnderlying26 sizeOf24 (fun b7 => ?_)
 refine OD.perm (perm_q11 (S1 := [⟨b7, 24, 1 * 3, List.flatMap cT ([markT ⟨#[40]⟩])⟩]) (A := [])) ?_
 refine om_ ?_
 refine OD.wk (Wk.as_ (n := 29) (l' := [(0, _), (3, _)]) (S' := ([⟨b7, 24, 1 * 3, List.flatMap cT ([markT ⟨#[40]⟩])⟩])) rfl rfl sl_) ?_
 refine OD.nil ?_
 refine CD.seq ?_
 refine sr_ ?_
 refine om_ ?_
 refine os_ ln_ ?_
 refine om_ ?_
 refine nm_ [3, 8, 9, 10] ?_
 refine CD.block ?_
 refine lp_ (fun (gh__ : Nat × Option Addr × Nat × List Blk) y__ => match gh__ with | (i, ada, cpa, Sa) => (i ≤ ts.length) ∧ (OwnL 24 3 ((preL ts i).flatMap cT) (preL ts i).length ada cpa Sa) ∧ y__ = (⟨29, [(3, .v (.slice ada (preL ts i).length cpa)), (8, .list 1 (ts.flatMap cK) ts.length), (9, .v (.int .i64 (ts.length : Nat))), (10, .v (.int .i64 (i : Nat)))], (Sa)⟩ : St)) (fun (gh__ : Nat × Option Addr × Nat × List Blk) => match gh__ with | (i, ada, cpa, Sa) => ts.length - i) (0, (some ⟨b7, 0, none⟩), 1, [⟨b7, 24, 1 * 3, List.flatMap cT ([markT ⟨#[40]⟩])⟩]) ⟨(Nat.zero_le _), (OwnL.cast (ownL_row (g := cT) (sz := 3) (e := 24) (ls := [markT ⟨#[40]⟩]) (Nat.le_refl _) (show 1 ≤ maxLen by decide)) (by rfl)), rfl⟩ (Wk.asS rfl su_ (by repeat (first | exact trivial | refine ⟨(by (repeat (first | exact look_hit | (apply look_at; focus (first | rfl | (simp; done) | (congr 2; omega) | (apply row_eq; first | exact pre_more hlt (by omega) | exact pre_first hlt (by omega)) | (apply row_eq; rfl) | (apply row_eq; simp; done))) | (apply look_miss; focus rfl))); done), ?_⟩))) ?_
 rintro ⟨i, ada, cpa, Sa⟩ _ ⟨hi, hoa, rfl⟩
 refine sr_ ?_
 refine os_ bn_ ?_
 refine nm_ [3, 8, 9, 10, 11] ?_
 refine CD.seq ?_
 refine CD.cond ot (fun hc0 => ?_) (fun hc0 => ?_)
 ·have hc0' := hc0
  (try simp only [V.cnd, ne_eq] at hc0')
  have hlt : i < ts.length := by omega
  refine CD.skip ?_
  refine CD.seq ?_
  refine CD.block ?_
  refine sr_ ?_
  refine om_ ?_
  refine os_ (ix_ 1) ?_
  refine os_ ld_ ?_
  refine om_ ?_
  refine om_ ?_
  refine nm_ [3, 4, 5, 8, 9, 10] ?_
  refine CD.seq ?_
  refine sr_ ?_
  refine om_ ?_
  refine os_ bn_ ?_
  refine nm_ [3, 5, 8, 9, 10, 16] ?_
  refine CD.cond ot (fun hc1 => ?_) (fun hc1 => ?_)
  ·have hc1' := hc1
   (try simp only [V.cnd, ne_eq] at hc1')
   refine CD.region ?_
   refine om_ ?_
   refine oc_ call58 (mark_vp ⟨#[44]⟩) ?_
   refine ob_ (numD 0 [_]) [.int .i64 0, .string ⟨#[]⟩, .int .i64 0] [_, _, _] zeroValue24 runUnderlying26 sizeOf24 (fun b19 => ?_)
   refine og_ 0 19 3 1 ?_
   refine OD.appendG (ls := (preL ts i)) (new := [markT ⟨#[44]⟩]) (Sq := Sa) cT_len cT_one wp_ rfl rfl underlying26 info24_Pe1 rfl (by decide) ot hoa (perm_r11 (A := [])) ot (by simp) (by have hmx : maxLen = 9223372036854775807 := rfl; have q1 := pre_len hts i; (try have q2 := hts _ (List.getElem_mem hlt)); (try simp only [List.length_append, List.length_cons, List.length_nil]); omega) (by have hmx : maxLen = 9223372036854775807 := rfl; have q1 := pre_len hts i; (try have q2 := hts _ (List.getElem_mem hlt)); (try simp only [List.length_append, List.length_cons, List.length_nil]); omega) (fun b20 cp20 h120 h220 => ?_)
   refine OD.perm (perm_q11 (S1 := [⟨b20, 24, cp20 * 3, List.flatMap cT ((preL ts i) ++ [markT ⟨#[44]⟩])⟩]) (A := [])) ?_
   refine om_ ?_
   refine OD.wk (Wk.as_ (n := 29) (l' := [(3, _), (5, _), (8, _), (9, _), (10, _)]) (S' := ([⟨b20, 24, cp20 * 3, List.flatMap cT ((preL ts i) ++ [markT ⟨#[44]⟩])⟩])) rfl rfl sl_) ?_
   refine OD.nil ?_
   refine CD.region ?_
   refine om_ ?_
   refine om_ ?_
   refine OD.appendAny (ls := ((preL ts i) ++ [markT ⟨#[44]⟩])) (new := ts[i]) (Sq := [⟨b20, 24, cp20 * 3, List.flatMap cT ((preL ts i) ++ [markT ⟨#[44]⟩])⟩]) cT_len cT_one wp_ rfl rfl underlying26 info24_Pe1 rfl (by decide) runUnderlying26 sizeOf24 ot (ownL_row h120 h220) (perm_r11 (A := [])) ot (by have hmx : maxLen = 9223372036854775807 := rfl; have q1 := pre_len hts i; (try have q2 := hts _ (List.getElem_mem hlt)); (try simp only [List.length_append, List.length_cons, List.length_nil]); omega) (by have hmx : maxLen = 9223372036854775807 := rfl; have q1 := pre_len hts i; (try have q2 := hts _ (List.getElem_mem hlt)); (try simp only [List.length_append, List.length_cons, List.length_nil]); omega) (fun ad23 cp23 S23 ho23 => ?_)
   refine OD.perm (perm_q11 (A := [])) ?_
   refine om_ ?_
   refine OD.wk (Wk.as_ (n := 29) (l' := [(3, _), (8, _), (9, _), (10, _)]) (S' := (S23)) rfl rfl sl_) ?_
   refine OD.nil ?_
   refine CD.region ?_
   refine os_ bn_ ?_
   refine om_ ?_
   refine nm_ [3, 8, 9, 10] ?_
   refine ⟨((i + 1), ad23, cp23, S23), _, ?_, ?_, (by omega), (OwnL.cast ho23 (by first | exact pre_more hlt (by omega) | exact pre_first hlt (by omega))), rfl⟩
   ·first | omega | (simp only []; omega)
   exact Wk.asS (n := 29) rfl su_ (by repeat (first | exact trivial | refine ⟨(by (repeat (first | exact look_hit | (apply look_at; focus (first | rfl | (simp; done) | (congr 2; omega) | (apply row_eq; first | exact pre_more hlt (by omega) | exact pre_first hlt (by omega)) | (apply row_eq; rfl) | (apply row_eq; simp; done))) | (apply look_miss; focus rfl))); done), ?_⟩))
  have hc1' := hc1
  (try simp only [V.cnd, ne_eq] at hc1')
  refine CD.skip ?_
  refine CD.region ?_
  refine om_ ?_
  refine om_ ?_
  refine OD.appendAny (ls := (preL ts i)) (new := ts[i]) (Sq := Sa) cT_len cT_one wp_ rfl rfl underlying26 info24_Pe1 rfl (by decide) runUnderlying26 sizeOf24 ot hoa (perm_r11 (A := [])) ot (by have hmx : maxLen = 9223372036854775807 := rfl; have q1 := pre_len hts i; (try have q2 := hts _ (List.getElem_mem hlt)); (try simp only [List.length_append, List.length_cons, List.length_nil]); omega) (by have hmx : maxLen = 9223372036854775807 := rfl; have q1 := pre_len hts i; (try have q2 := hts _ (List.getElem_mem hlt)); (try simp only [List.length_append, List.length_cons, List.length_nil]); omega) (fun ad23 cp23 S23 ho23 => ?_)
  refine OD.perm (perm_q11 (A := [])) ?_
  refine om_ ?_
  refine OD.wk (Wk.as_ (n := 29) (l' := [(3, _), (8, _), (9, _), (10, _)]) (S' := (S23)) rfl rfl sl_) ?_
  refine OD.nil ?_
  refine CD.region ?_
  refine os_ bn_ ?_
  refine om_ ?_
  refine nm_ [3, 8, 9, 10] ?_
  refine ⟨((i + 1), ad23, cp23, S23), _, ?_, ?_, (by omega), (OwnL.cast ho23 (by first | exact pre_more hlt (by omega) | exact pre_first hlt (by omega))), rfl⟩
  ·first | omega | (simp only []; omega)
  exact Wk.asS (n := 29) rfl su_ (by repeat (first | exact trivial | refine ⟨(by (repeat (first | exact look_hit | (apply look_at; focus (first | rfl | (simp; done) | (congr 2; omega) | (apply row_eq; first | exact pre_more hlt (by omega) | exact pre_first hlt (by omega)) | (apply row_eq; rfl) | (apply row_eq; simp; done))) | (apply look_miss; focus rfl))); done), ?_⟩))
 have hc0' := hc0
 (try simp only [V.cnd, ne_eq] at hc0')
 have hie : i = ts.length := by omega
 have hfin : preL ts i ++ [markT ⟨#[41]⟩] = listL ts := by unfold listL; rw [← hie]
 refine CD.exit ?_
 refine sr_ ?_
 refine om_ ?_
 refine oc_ call58 (mark_vp ⟨#[41]⟩) ?_
 refine ob_ (numD 0 [_]) [.int .i64 0, .string ⟨#[]⟩, .int .i64 0] [_, _, _] zeroValue24 runUnderlying26 sizeOf24 (fun b27 => ?_)
 refine og_ 0 27 3 1 ?_
 refine OD.appendG (ls := (preL ts i)) (new := [markT ⟨#[41]⟩]) (Sq := Sa) cT_len cT_one wp_ rfl rfl underlying26 info24_Pe1 rfl (by decide) ot hoa (perm_r11 (A := [])) ot (by simp) (by have hmx : maxLen = 9223372036854775807 := rfl; have q1 := pre_len hts i; (try have q2 := hts _ (List.getElem_mem hlt)); (try simp only [List.length_append, List.length_cons, List.length_nil]); omega) (by have hmx : maxLen = 9223372036854775807 := rfl; have q1 := pre_len hts i; (try have q2 := hts _ (List.getElem_mem hlt)); (try simp only [List.length_append, List.length_cons, List.length_nil]); omega) (fun b28 cp28 h128 h228 => ?_)
 refine OD.perm (perm_q11 (S1 := [⟨b28, 24, cp28 * 3, List.flatMap cT ((preL ts i) ++ [markT ⟨#[41]⟩])⟩]) (A := [])) ?_
 refine om_ ?_
 refine OD.wk (Wk.as_ (n := 29) (l' := [(2, _)]) (S' := ([⟨b28, 24, cp28 * 3, List.flatMap cT ((preL ts i) ++ [markT ⟨#[41]⟩])⟩])) rfl rfl sl_) ?_
 refine OD.nil ?_
 refine CD.giveL (t := 2) (Sq := [⟨b28, 24, cp28 * 3, List.flatMap cT ((preL ts i) ++ [markT ⟨#[41]⟩])⟩]) lk (ownL_row h128 h228) (fm_len cT_len _) (perm_r11 (A := [])) ?_
 refine CD.ret ?_
 refine ⟨.inr rfl, rt_ results54 ?_⟩
 rw [hfin]; exact ⟨rfl, rfl⟩

def showV (v : Vl) : List Tk :=
 if v.k = 0 then [wordT ⟨#[78, 85, 76, 76]⟩]
 else if v.k = 1 then [wordT (if v.n = 0 then ⟨#[70, 65, 76, 83, 69]⟩ else ⟨#[84, 82, 85, 69]⟩)]
 else if v.k = 3 then [⟨3, v.s, 0⟩]
 else if v.n < 0 then [markT ⟨#[45]⟩, ⟨2, ⟨#[]⟩, -v.n⟩] else [⟨2, ⟨#[]⟩, v.n⟩]
def okV (v : Vl) : Prop := (v.k = 1 → v.n = 0 ∨ v.n = 1) ∧ -9223372036854775807 ≤ v.n ∧ v.n ≤ 9223372036854775807
theorem showV_len (v : Vl) : 0 < (showV v).length ∧ (showV v).length ≤ 2 := by
 unfold showV; repeat' split
 all_goals exact ⟨by simp, by simp⟩
def markN : List ByteArray := [⟨#[]⟩, ⟨#[]⟩, ⟨#[]⟩, ⟨#[]⟩, ⟨#[]⟩, ⟨#[]⟩, ⟨#[61]⟩, ⟨#[60]⟩, ⟨#[43]⟩, ⟨#[45]⟩, ⟨#[42]⟩]
def betT (k : Int) : Tk := if k = 3 then wordT ⟨#[65, 78, 68]⟩ else if k = 4 then wordT ⟨#[79, 82]⟩ else markT (markN.getD k.toNat ⟨#[]⟩)
theorem mk_at {j : Nat} (h : j < 11) : (markN.map fun s => D.v (.string s))[j * 1]? = some (.v (.string (markN[j]'h))) := by
 rw [Nat.mul_one, List.getElem?_map, List.getElem?_eq_getElem h]; rfl

theorem showValue_vp (v : Vl) (h : okV v) : VP Tryd.prog G 55 [.agg (cV v)] (.list 3 ((showV v).flatMap cT) (showV v).length) := by
 refine VC.body func55 rfl ntmps55 le_ fun X0 w0 S00 => ?_
 obtain ⟨h1, h2, h3⟩ := h
 unfold cV
 refine sr_ ?_
 refine OD.box (ds := [_, _, _]) wp_ rfl rfl ot rfl rfl (fun b1 => ?_)
 refine om_ ?_
 refine on_ [(1, _)] [⟨b1, 37, 3, [_, _, _]⟩] ?_
 refine CD.seq ?_
 refine CD.block ?_
 refine sr_ ?_
 refine os_ (fa_ 0) ?_
 refine os_ (lb_ 0) ?_
 refine os_ bn_ ?_
 refine om_ ?_
 refine nm_ [1, 3] ?_
 refine CD.cond ot (fun hc0 => ?_) (fun hc0 => ?_)
 ·have hc0' := hc0
  (try simp only [V.cnd, ne_eq] at hc0')
  refine sr_ ?_
  refine ob_ (numD 0 [_]) [.string ⟨#[]⟩] [_] zeroValue9 runUnderlying29 sizeOf9 (fun b7 => ?_)
  refine OD.perm (perm_q11 (S1 := [⟨b7, 9, 1 * 1, List.flatMap cS ([⟨#[78, 85, 76, 76]⟩])⟩]) (A := [_])) ?_
  refine OD.giveL (t := 7) (Sq := [⟨b7, 9, 1 * 1, List.flatMap cS ([⟨#[78, 85, 76, 76]⟩])⟩]) lk (ownL_row (g := cS) (sz := 1) (e := 9) (ls := [⟨#[78, 85, 76, 76]⟩]) (Nat.le_refl _) (show 1 ≤ maxLen by decide)) (fm_len cS_len _) (perm_r11 (A := [_])) ?_
  refine oc_ call53 (all_vp [⟨#[78, 85, 76, 76]⟩] (by show 1 ≤ 10; decide)) ?_
  refine om_ ?_
  refine on_ [(2, _)] [⟨b1, 37, 3, [_, _, _]⟩] ?_
  refine CD.ret ?_
  refine ⟨.inr rfl, rt_ results55 ?_⟩
  refine ⟨?_, rfl⟩
  unfold showV
  first | (rw [if_pos hc0']; first | done | rfl) | (rw [if_neg hc0', if_pos hk1, hj]; rcases j with _ | _ | j <;> first | rfl | omega) | (rw [if_neg hc0', if_neg hc1', if_pos hc2']; first | done | rfl) | (rw [if_neg hc0', if_neg hc1', if_neg hc2', if_pos (by omega), show -v.n = 0 - v.n by omega]; first | done | rfl) | (rw [if_neg hc0', if_neg hc1', if_neg hc2', if_neg (by omega)]; first | done | rfl)
 have hc0' := hc0
 (try simp only [V.cnd, ne_eq] at hc0')
 refine sr_ ?_
 refine os_ (fa_ 0) ?_
 refine os_ (lb_ 0) ?_
 refine os_ bn_ ?_
 refine om_ ?_
 refine nm_ [1, 9] ?_
 refine CD.cond ot (fun hc1 => ?_) (fun hc1 => ?_)
 ·have hc1' := hc1
  (try simp only [V.cnd, ne_eq] at hc1')
  have hk1 : v.k = 1 := by simpa using hc1
  obtain ⟨j, hj, hj2⟩ : ∃ j : Nat, v.n = (j : Int) ∧ j < 2 := by (rcases h1 hk1 with h | h; exact ⟨0, h, by decide⟩; exact ⟨1, h, by decide⟩)
  rw [hj]
  refine sr_ ?_
  refine ob_ (numD 0 [_, _]) [.string ⟨#[]⟩, .string ⟨#[]⟩] [_, _] zeroValue9 runUnderlying29 sizeOf9 (fun b13 => ?_)
  refine OD.perm (perm_q11 (S1 := [⟨b13, 9, 2 * 1, List.flatMap cS ([⟨#[70, 65, 76, 83, 69]⟩, ⟨#[84, 82, 85, 69]⟩])⟩]) (A := [_])) ?_
  refine OD.giveL (t := 13) (Sq := [⟨b13, 9, 2 * 1, List.flatMap cS ([⟨#[70, 65, 76, 83, 69]⟩, ⟨#[84, 82, 85, 69]⟩])⟩]) lk (ownL_row (g := cS) (sz := 1) (e := 9) (ls := [⟨#[70, 65, 76, 83, 69]⟩, ⟨#[84, 82, 85, 69]⟩]) (Nat.le_refl _) (show 2 ≤ maxLen by decide)) (fm_len cS_len _) (perm_r11 (A := [_])) ?_
  refine os_ (fa_ 1) ?_
  refine os_ (lb_ 0) ?_
  refine os_ (ix_ 1 (h := by first | exact .l (j := j) rfl (by show j < 2; omega) | exact .r (j := j) rfl (by show j < 2; omega))) ?_
  refine os_ (still_r1 (mk := Op.load 9) rfl ot (by exact ld_fm0 (i := j) cS_len isAgg9 (by show j < 2; omega) rfl)) ?_
  refine ob_ (numD 0 [_]) [.string ⟨#[]⟩] [_] zeroValue9 runUnderlying29 sizeOf9 (fun b18 => ?_)
  refine OD.perm (perm_q11 (S1 := [⟨b18, 9, 1 * 1, List.flatMap cS ([([⟨#[70, 65, 76, 83, 69]⟩, ⟨#[84, 82, 85, 69]⟩] : List ByteArray)[j]'(by show j < 2; omega)])⟩]) (A := [_])) ?_
  refine OD.giveL (t := 18) (Sq := [⟨b18, 9, 1 * 1, List.flatMap cS ([([⟨#[70, 65, 76, 83, 69]⟩, ⟨#[84, 82, 85, 69]⟩] : List ByteArray)[j]'(by show j < 2; omega)])⟩]) lk (ownL_row (g := cS) (sz := 1) (e := 9) (ls := [([⟨#[70, 65, 76, 83, 69]⟩, ⟨#[84, 82, 85, 69]⟩] : List ByteArray)[j]'(by show j < 2; omega)]) (Nat.le_refl _) (show 1 ≤ maxLen by decide)) (fm_len cS_len _) (perm_r11 (A := [_])) ?_
  refine oc_ call53 (all_vp [([⟨#[70, 65, 76, 83, 69]⟩, ⟨#[84, 82, 85, 69]⟩] : List ByteArray)[j]'(by show j < 2; omega)] (by show 1 ≤ 10; decide)) ?_
  refine om_ ?_
  refine on_ [(2, _)] [⟨b1, 37, 3, [_, _, _]⟩] ?_
  refine CD.ret ?_
  refine ⟨.inr rfl, rt_ results55 ?_⟩
  refine ⟨?_, rfl⟩
  unfold showV
  first | (rw [if_pos hc0']; first | done | rfl) | (rw [if_neg hc0', if_pos hk1, hj]; rcases j with _ | _ | j <;> first | rfl | omega) | (rw [if_neg hc0', if_neg hc1', if_pos hc2']; first | done | rfl) | (rw [if_neg hc0', if_neg hc1', if_neg hc2', if_pos (by omega), show -v.n = 0 - v.n by omega]; first | done | rfl) | (rw [if_neg hc0', if_neg hc1', if_neg hc2', if_neg (by omega)]; first | done | rfl)
 have hc1' := hc1
 (try simp only [V.cnd, ne_eq] at hc1')
 refine sr_ ?_
 refine os_ (fa_ 0) ?_
 refine os_ (lb_ 0) ?_
 refine os_ bn_ ?_
 refine om_ ?_
 refine nm_ [1, 20] ?_
 refine CD.cond ot (fun hc2 => ?_) (fun hc2 => ?_)
 ·have hc2' := hc2
  (try simp only [V.cnd, ne_eq] at hc2')
  refine sr_ ?_
  refine os_ (fa_ 2) ?_
  refine os_ (lb_ 0) ?_
  refine os_ (still_bld (pl := [(0, _), (1, _)]) (ds := [_, _, _]) rfl zeroValue24 runUnderlying24 places24_Pe1 ⟨rfl, opd_const, rfl, ot, trivial⟩ rfl rfl) ?_
  refine ob_ (numD 0 [_]) [.int .i64 0, .string ⟨#[]⟩, .int .i64 0] [_, _, _] zeroValue24 runUnderlying26 sizeOf24 (fun b27 => ?_)
  refine OD.perm (perm_q11 (S1 := [⟨b27, 24, 1 * 3, List.flatMap cT ([(⟨3, v.s, 0⟩ : Tk)])⟩]) (A := [_])) ?_
  refine om_ ?_
  refine OD.wk (Wk.as_ (n := 42) (l' := [(2, _)]) (S' := (⟨b1, 37, 3, [_, _, _]⟩ :: [⟨b27, 24, 1 * 3, List.flatMap cT ([(⟨3, v.s, 0⟩ : Tk)])⟩])) rfl rfl sl_) ?_
  refine OD.nil ?_
  refine CD.giveL (t := 2) (Sq := [⟨b27, 24, 1 * 3, List.flatMap cT ([(⟨3, v.s, 0⟩ : Tk)])⟩]) lk (ownL_row (g := cT) (sz := 3) (e := 24) (ls := [(⟨3, v.s, 0⟩ : Tk)]) (Nat.le_refl _) (show 1 ≤ maxLen by decide)) (fm_len cT_len _) (perm_r11 (A := [_])) ?_
  refine CD.ret ?_
  refine ⟨.inr rfl, rt_ results55 ?_⟩
  refine ⟨?_, rfl⟩
  unfold showV
  first | (rw [if_pos hc0']; first | done | rfl) | (rw [if_neg hc0', if_pos hk1, hj]; rcases j with _ | _ | j <;> first | rfl | omega) | (rw [if_neg hc0', if_neg hc1', if_pos hc2']; first | done | rfl) | (rw [if_neg hc0', if_neg hc1', if_neg hc2', if_pos (by omega), show -v.n = 0 - v.n by omega]; first | done | rfl) | (rw [if_neg hc0', if_neg hc1', if_neg hc2', if_neg (by omega)]; first | done | rfl)
 have hc2' := hc2
 (try simp only [V.cnd, ne_eq] at hc2')
 refine sr_ ?_
 refine os_ (fa_ 1) ?_
 refine os_ (lb_ 0) ?_
 refine os_ bn_ ?_
 refine om_ ?_
 refine nm_ [1, 28] ?_
 refine CD.cond ot (fun hc3 => ?_) (fun hc3 => ?_)
 ·have hc3' := hc3
  (try simp only [V.cnd, ne_eq] at hc3')
  refine CD.seq ?_
  refine CD.draw (bks _) kr_ (fun _ h => h) ?_
  refine a0_ 1 rfl (fa_ 1) ?_
  refine a0_ 2 rfl (lb_ 0) ?_
  refine a0_ 3 rfl (still_un rfl ot (un_neg (wrap_i64 (by omega) (by omega)))) ?_
  refine a0_ 4 rfl (still_bld (pl := [(0, _), (2, _)]) (ds := [_, _, _]) rfl zeroValue24 runUnderlying24 places24_Pe1 ⟨rfl, opd_const, rfl, ot, trivial⟩ rfl rfl) ?_
  refine AD0.later rfl ?_
  refine AD.one (i := 0) kr_ ?_
  refine ac_ call58 (mark_vp ⟨#[45]⟩) ?_
  refine AD.one (i := 5) kr_ ?_
  refine ab_ (numD 0 [_, _]) [.int .i64 0, .string ⟨#[]⟩, .int .i64 0, .int .i64 0, .string ⟨#[]⟩, .int .i64 0] [_, _, _, _, _, _] zeroValue24 runUnderlying26 sizeOf24 (fun b37 => ?_)
  refine ag_ 0 37 3 2 ?_
  refine a1_ 6 rfl mv_ ?_
  refine aw_ [(2, _)] [⟨b1, 37, 3, [_, _, _]⟩] ?_
  refine AD.done kr_ ?_
  refine CD.ret ?_
  refine ⟨.inr rfl, rt_ results55 ?_⟩
  refine ⟨?_, rfl⟩
  unfold showV
  first | (rw [if_pos hc0']; first | done | rfl) | (rw [if_neg hc0', if_pos hk1, hj]; rcases j with _ | _ | j <;> first | rfl | omega) | (rw [if_neg hc0', if_neg hc1', if_pos hc2']; first | done | rfl) | (rw [if_neg hc0', if_neg hc1', if_neg hc2', if_pos (by omega), show -v.n = 0 - v.n by omega]; first | done | rfl) | (rw [if_neg hc0', if_neg hc1', if_neg hc2', if_neg (by omega)]; first | done | rfl)
 have hc3' := hc3
 (try simp only [V.cnd, ne_eq] at hc3')
 refine CD.skip ?_
 refine sr_ ?_
 refine os_ (fa_ 1) ?_
 refine os_ (lb_ 0) ?_
 refine os_ (still_bld (pl := [(0, _), (2, _)]) (ds := [_, _, _]) rfl zeroValue24 runUnderlying24 places24_Pe1 ⟨rfl, opd_const, rfl, ot, trivial⟩ rfl rfl) ?_
 refine ob_ (numD 0 [_]) [.int .i64 0, .string ⟨#[]⟩, .int .i64 0] [_, _, _] zeroValue24 runUnderlying26 sizeOf24 (fun b41 => ?_)
 refine OD.perm (perm_q11 (S1 := [⟨b41, 24, 1 * 3, List.flatMap cT ([(⟨2, ⟨#[]⟩, v.n⟩ : Tk)])⟩]) (A := [_])) ?_
 refine om_ ?_
 refine OD.wk (Wk.as_ (n := 42) (l' := [(2, _)]) (S' := (⟨b1, 37, 3, [_, _, _]⟩ :: [⟨b41, 24, 1 * 3, List.flatMap cT ([(⟨2, ⟨#[]⟩, v.n⟩ : Tk)])⟩])) rfl rfl sl_) ?_
 refine OD.nil ?_
 refine CD.giveL (t := 2) (Sq := [⟨b41, 24, 1 * 3, List.flatMap cT ([(⟨2, ⟨#[]⟩, v.n⟩ : Tk)])⟩]) lk (ownL_row (g := cT) (sz := 3) (e := 24) (ls := [(⟨2, ⟨#[]⟩, v.n⟩ : Tk)]) (Nat.le_refl _) (show 1 ≤ maxLen by decide)) (fm_len cT_len _) (perm_r11 (A := [_])) ?_
 refine CD.ret ?_
 refine ⟨.inr rfl, rt_ results55 ?_⟩
 refine ⟨?_, rfl⟩
 unfold showV
 first | (rw [if_pos hc0']; first | done | rfl) | (rw [if_neg hc0', if_pos hk1, hj]; rcases j with _ | _ | j <;> first | rfl | omega) | (rw [if_neg hc0', if_neg hc1', if_pos hc2']; first | done | rfl) | (rw [if_neg hc0', if_neg hc1', if_neg hc2', if_pos (by omega), show -v.n = 0 - v.n by omega]; first | done | rfl) | (rw [if_neg hc0', if_neg hc1', if_neg hc2', if_neg (by omega)]; first | done | rfl)

theorem between_vp (k : Int) (h : k = 3 ∨ k = 4 ∨ 6 ≤ k ∧ k ≤ 10) : VP Tryd.prog G 82 [.v (.int .i64 k)] (.agg (cT (betT k))) := by
 refine VC.body func82 rfl ntmps82 le_ fun X0 w0 S00 => ?_
 refine sr_ ?_
 refine OD.alloc (ds := [_, _, _]) wp_ rfl rfl zeroValue24 rfl (fun b2 => ?_)
 refine on_ [(0, _), (2, _)] [⟨b2, 24, 3, [_, _, _]⟩] ?_
 refine CD.seq ?_
 refine sr_ ?_
 refine om_ ?_
 refine nm_ [0, 2, 3] ?_
 refine CD.block ?_
 refine sr_ ?_
 refine os_ bn_ ?_
 refine om_ ?_
 refine nm_ [0, 2, 3, 4] ?_
 refine CD.cond ot (fun hc0 => ?_) (fun hc0 => ?_)
 ·have hc0' := hc0
  (try simp only [V.cnd, ne_eq] at hc0')
  refine sr_ ?_
  refine oc_ call79 (word_vp ⟨#[65, 78, 68]⟩) ?_
  refine ot_ 0 [_, _, _] sizeOf24 ?_
  refine on_ [(2, _)] [⟨b2, 24, 3, [_, _, _]⟩] ?_
  refine CD.ret ?_
  refine ⟨.inr rfl, _, [], List.nil_sublist _, ret_one results82 (res_cells (k := 0) (ds := [_, _, _]) le_ lk rfl rfl isAgg24 sizeOf24 rfl rfl), ?_⟩
  refine ⟨?_, rfl⟩
  unfold betT
  first | (rw [if_neg hk3, if_neg hk4, show ((j : Nat) : Int).toNat = j from rfl, List.getD_eq_getElem?_getD, List.getElem?_eq_getElem hj]; rfl) | (rw [if_pos (by simpa using hc0)]; rfl) | (rw [if_neg (by simpa using hc0), if_pos (by simpa using hc1)]; rfl)
 have hc0' := hc0
 (try simp only [V.cnd, ne_eq] at hc0')
 refine sr_ ?_
 refine os_ bn_ ?_
 refine om_ ?_
 refine nm_ [0, 2, 7] ?_
 refine CD.cond ot (fun hc1 => ?_) (fun hc1 => ?_)
 ·have hc1' := hc1
  (try simp only [V.cnd, ne_eq] at hc1')
  refine sr_ ?_
  refine oc_ call79 (word_vp ⟨#[79, 82]⟩) ?_
  refine ot_ 0 [_, _, _] sizeOf24 ?_
  refine on_ [(2, _)] [⟨b2, 24, 3, [_, _, _]⟩] ?_
  refine CD.ret ?_
  refine ⟨.inr rfl, _, [], List.nil_sublist _, ret_one results82 (res_cells (k := 0) (ds := [_, _, _]) le_ lk rfl rfl isAgg24 sizeOf24 rfl rfl), ?_⟩
  refine ⟨?_, rfl⟩
  unfold betT
  first | (rw [if_neg hk3, if_neg hk4, show ((j : Nat) : Int).toNat = j from rfl, List.getD_eq_getElem?_getD, List.getElem?_eq_getElem hj]; rfl) | (rw [if_pos (by simpa using hc0)]; rfl) | (rw [if_neg (by simpa using hc0), if_pos (by simpa using hc1)]; rfl)
 have hc1' := hc1
 (try simp only [V.cnd, ne_eq] at hc1')
 refine CD.skip ?_
 refine CD.seq ?_
 have hk3 : ¬ k = 3 := by simpa using hc0
 have hk4 : ¬ k = 4 := by simpa using hc1
 obtain ⟨j, rfl⟩ : ∃ j : Nat, k = (j : Int) := ⟨k.toNat, by omega⟩
 have hj : j < 11 := by omega
 refine CD.region ?_
 refine os_ (still_bldA (pl := [(6, _), (7, _), (8, _), (9, _), (10, _)]) (ds := [_, _, _, _, _, _, _, _, _, _, _]) rfl zeroValue128 runUnderlying128 sizeOf9 ⟨rfl, opd_const, rfl, opd_const, rfl, opd_const, rfl, opd_const, rfl, opd_const, trivial⟩ rfl rfl) ?_
 refine om_ ?_
 refine os_ (still_vidx (j := j) rfl ot ot runUnderlying128 sizeOf9 isAgg9 rfl hj (mk_at hj)) ?_
 refine oc_ call58 (mark_vp (markN[j]'hj)) ?_
 refine ot_ 0 [_, _, _] sizeOf24 ?_
 refine on_ [(2, _)] [⟨b2, 24, 3, [_, _, _]⟩] ?_
 refine CD.ret ?_
 refine ⟨.inr rfl, _, [], List.nil_sublist _, ret_one results82 (res_cells (k := 0) (ds := [_, _, _]) le_ lk rfl rfl isAgg24 sizeOf24 rfl rfl), ?_⟩
 refine ⟨?_, rfl⟩
 unfold betT
 first | (rw [if_neg hk3, if_neg hk4, show ((j : Nat) : Int).toNat = j from rfl, List.getD_eq_getElem?_getD, List.getElem?_eq_getElem hj]; rfl) | (rw [if_pos (by simpa using hc0)]; rfl) | (rw [if_neg (by simpa using hc0), if_pos (by simpa using hc1)]; rfl)

end Go.Proofs.YtjgekbmahhhokaaDoor.Pa
