/-
  What the proof of BoundsOne leans on, part 6 of 6: walks of the program's functions at the level of values, and plain facts of what they compute.
-/
import Derived.Test.YtfooincnmobemaaDoorPBoundsOne5
namespace Go.Proofs.YtfooincnmobemaaDoor.Ex
open Go.RowKit V Pk Vl Go.Proofs.YtfooincnmobemaaDoor.Nm Go.Proofs.YtfooincnmobemaaDoor.Pc Go.Proofs.YtfooincnmobemaaDoor.Cd
set_option linter.unusedVariables false
set_option linter.unusedSimpArgs false

variable {G : List (Nat × List Value)}
theorem ok_numV {x : Int} (h1 : 0 ≤ x) (h2 : x ≤ 9000) : (numV x).Ok := ok_int ⟨by omega, by omega⟩
def FineO (o : OpL) : Prop := o.nm.size ≤ maxLen ∧ o.v.Ok
theorem fine_id : FineO idO := ⟨by decide, ok_no⟩
theorem fine_bare (k : Int) : FineO (bareOp k) := ⟨Nat.zero_le _, ok_no⟩
theorem fine_lit {x : Int} (h1 : 0 ≤ x) (h2 : x ≤ 9000) : FineO (litO x) := ⟨Nat.zero_le _, ok_numV h1 h2⟩
theorem fine_nil : ∀ o ∈ ([] : List OpL), FineO o := fun o h => by cases h
theorem fine_cons {o : OpL} {r : List OpL} (h : FineO o) (hr : ∀ o ∈ r, FineO o) : ∀ x ∈ o :: r, FineO x := fun x hx => by
 rcases List.mem_cons.1 hx with rfl | hx
 ·exact h
 ·exact hr x hx
theorem Bounds_at {m : Int} (hm : (3, marksC) ∈ G) (hw : (0, wordsC) ∈ G) (ht : (2, typesC) ∈ G) (hG : (1, [Value.int .i64 m]) ∈ G) (ops : List OpL) (hf : ∀ o ∈ ops, FineO o) : VP Tryd.prog G 16 [.list 2 (colsL.flatMap cC) colsL.length, .list 5 (ops.flatMap cO) ops.length] (bdD (boundsR colsL ops)) :=
 Bounds_vp hm hw ht hG colsL (by decide) cols_sz ops (fun o h => (hf o h).1) (fun o h => (hf o h).2)
theorem enc_at {m : Int} (hm : (3, marksC) ∈ G) (hw : (0, wordsC) ∈ G) (ht : (2, typesC) ∈ G) (hG : (1, [Value.int .i64 m]) ∈ G) (x : Int) (h1 : 0 ≤ x) (h2 : x ≤ 9000) : VP Tryd.prog G 17 [.list 3 ([numV x].flatMap cV) [numV x].length] (.tup [.list 1 ((keyX x).flatMap cB) (keyX x).length, .v (.int .i64 0)]) := by
 have h := enc_vp hG [numV x] (by simp [maxLen]) (fun v hv => by rw [List.mem_singleton] at hv; rw [hv]; exact ok_numV h1 h2)
 rw [enc_num] at h
 exact h

def TGM (m : Int) : List (Nat × List Value) := [(3, marksC), (0, wordsC), (2, typesC), (1, [Value.int .i64 m])]
theorem tm1 {m : Int} : (3, marksC) ∈ TGM m := List.mem_cons_self
theorem tm2 {m : Int} : (0, wordsC) ∈ TGM m := List.mem_cons_of_mem _ List.mem_cons_self
theorem tm3 {m : Int} : (2, typesC) ∈ TGM m := List.mem_cons_of_mem _ (List.mem_cons_of_mem _ List.mem_cons_self)
theorem tm4 {m : Int} : (1, [Value.int .i64 m]) ∈ TGM m := List.mem_cons_of_mem _ (List.mem_cons_of_mem _ (List.mem_cons_of_mem _ List.mem_cons_self))
theorem tgmx {w : World} {m : Int} (h1 : MarksTab w) (h2 : WordsTab w) (h3 : TypesTab w) (h4 : Tab.TabAt w 1 [Value.int .i64 m]) : ∀ g ∈ TGM m, g.2 ≠ [] ∧ TabX w g.1 g.2 := fun g hg => by
 simp only [TGM, List.mem_cons, List.not_mem_nil, or_false] at hg
 rcases hg with rfl | rfl | rfl | rfl
 ·exact ⟨by decide, .of h1 rfl⟩
 ·exact ⟨by decide, .of h2 rfl⟩
 ·exact ⟨by decide, .of h3 rfl⟩
 ·exact ⟨by simp, .of h4 rfl⟩

theorem places33_Exb : ∀ w, ((#[{ name := "Kind", type := 3, offset := 0, embedded := false, tag := "", pkgPath := "", byteOffset := 0 }, { name := "Int", type := 3, offset := 1, embedded := false, tag := "", pkgPath := "", byteOffset := 8 }, { name := "Text", type := 9, offset := 2, embedded := false, tag := "", pkgPath := "", byteOffset := 16 }] : Array Field).mapM fun f => do pure (f.offset, ← sizeOf f.type) : Sem (Array (Nat × Nat))).run Tryd.prog w = .ok #[(0, 1), (1, 1), (2, 1)] w := fun w => by simp [Tryd.sizeOf3, Tryd.sizeOf9]

theorem places40_Exb : ∀ w, ((#[{ name := "Kind", type := 3, offset := 0, embedded := false, tag := "", pkgPath := "", byteOffset := 0 }, { name := "Value", type := 33, offset := 1, embedded := false, tag := "", pkgPath := "", byteOffset := 8 }, { name := "Name", type := 9, offset := 4, embedded := false, tag := "", pkgPath := "", byteOffset := 40 }] : Array Field).mapM fun f => do pure (f.offset, ← sizeOf f.type) : Sem (Array (Nat × Nat))).run Tryd.prog w = .ok #[(0, 1), (1, 3), (4, 1)] w := fun w => by simp [Tryd.sizeOf3, Tryd.sizeOf33, Tryd.sizeOf9]

set_option maxHeartbeats 4000000 in
set_option maxRecDepth 100000 in
theorem one0_vp {m : Int} (hm : (3, marksC) ∈ G) (hw : (0, wordsC) ∈ G) (ht : (2, typesC) ∈ G) (hG : (1, [Value.int .i64 m]) ∈ G) (n : Int) (n1 : -9223372036854775808 ≤ n) (n2 : n ≤ 9223372036854775807) (form : Int) (form1 : -9223372036854775808 ≤ form) (form2 : form ≤ 9223372036854775807) (hk : pickedF form 7 = 0) : VP Tryd.prog G 5 [.v (.int .i64 n), .v (.int .i64 form)] (.v (.bool true)) := by
 refine VC.body Tryd.func5 rfl Tryd.ntmps5 (Nat.le_of_ble_eq_true rfl) fun X0 w0 S00 => ?_
 have hxb := pickedF_bd n (show (1 : Int) ≤ 1000 by decide)
 have hbv := Bounds_at hm hw ht hG [idO, litO (pickedF n 1000), bareOp 6] (fine_cons fine_id (fine_cons (fine_lit (by omega) (by omega)) (fine_cons (fine_bare 6) fine_nil)))
 rw [one0 hxb.1] at hbv
 unfold bdD bytesL at hbv
 have hev := enc_at hm hw ht hG (pickedF n 1000) hxb.1 (by omega)
 have hkl := key_len (pickedF n 1000)
 have hpn := (picked_vp G n 1000 n1 n2 (by decide))
 have hpk := (picked_vp G form 7 form1 form2 (by decide))
 rw [hk] at hpk
 skip
 generalize (pickedF n 1000) = x at *
 refine CD.seq ?_
 refine CD.region ?_
 refine OD.still (wants_plain rfl) rfl (still_as rfl opd_const) ?_
 refine OD.wk (Wk.as_ (n := 134) (l' := [(0, _), (1, _)]) (S' := []) rfl rfl ⟨lk, lk, trivial⟩) ?_
 refine OD.nil ?_
 refine CD.seq ?_
 refine CD.region ?_
 refine OD.still (wants_plain rfl) rfl (still_mv rfl ot) ?_
 refine OD.callP (wants_plain rfl) rfl rfl rfl Tryd.call15 (hpn) ⟨ot, opd_const, trivial⟩ ?_
 refine OD.still (wants_plain rfl) rfl (still_bld (pl := [(0, _), (1, _)]) (ds := [_, _, _]) rfl Tryd.zeroValue33 Tryd.runUnderlying33 places33_Exb ⟨rfl, opd_const, rfl, ot, trivial⟩ rfl rfl) ?_
 refine OD.alloc (ds := [_, _, _]) (wants_plain rfl) rfl rfl Tryd.zeroValue33 rfl (fun b5 => ?_)
 refine OD.store (k := 0) (cs' := [_, _, _]) (wants_plain rfl) rfl rfl ot rfl rfl ot rfl rfl Tryd.sizeOf33 rfl rfl rfl ?_
 refine OD.wk (Wk.as_ (n := 134) (l' := [(1, _), (5, _)]) (S' := [⟨b5, 33, 3, [_, _, _]⟩]) rfl rfl ⟨lk, lk, trivial⟩) ?_
 refine OD.nil ?_
 refine CD.seq ?_
 refine CD.region ?_
 refine OD.still (wants_plain rfl) rfl (still_bld (pl := [(0, _), (2, _)]) (ds := [_, _, _, _, _]) rfl Tryd.zeroValue40 Tryd.runUnderlying40 places40_Exb ⟨rfl, opd_const, rfl, opd_const, trivial⟩ rfl rfl) ?_
 refine OD.alloc (ds := [_, _, _, _, _]) (wants_plain rfl) rfl rfl Tryd.zeroValue40 rfl (fun b6 => ?_)
 refine OD.store (k := 0) (cs' := [_, _, _, _, _]) (wants_plain rfl) rfl rfl ot rfl rfl ot rfl rfl Tryd.sizeOf40 rfl rfl rfl ?_
 refine OD.wk (Wk.as_ (n := 134) (l' := [(1, _), (5, _), (6, _)]) (S' := [⟨b6, 40, 5, [_, _, _, _, _]⟩, ⟨b5, 33, 3, [_, _, _]⟩]) rfl rfl ⟨lk, lk, lk, trivial⟩) ?_
 refine OD.nil ?_
 refine CD.seq ?_
 refine CD.region ?_
 refine OD.still (wants_plain rfl) rfl (still_r1 (mk := Op.load 33) rfl ot (by first | exact ld_blks (k := 1) (ds := [_, _, _]) rfl rfl Tryd.isAgg33 Tryd.sizeOf33 rfl rfl | exact ld_is (ds := [_, _, _]) Tryd.isAgg33 Tryd.sizeOf33 rfl rfl)) ?_
 refine OD.still (wants_plain rfl) rfl (still_bld (pl := [(0, _), (1, _)]) (ds := [_, _, _, _, _]) rfl Tryd.zeroValue40 Tryd.runUnderlying40 places40_Exb ⟨rfl, opd_const, rfl, ot, trivial⟩ rfl rfl) ?_
 refine OD.alloc (ds := [_, _, _, _, _]) (wants_plain rfl) rfl rfl Tryd.zeroValue40 rfl (fun b7 => ?_)
 refine OD.store (k := 0) (cs' := [_, _, _, _, _]) (wants_plain rfl) rfl rfl ot rfl rfl ot rfl rfl Tryd.sizeOf40 rfl rfl rfl ?_
 refine OD.wk (Wk.as_ (n := 134) (l' := [(1, _), (5, _), (6, _), (7, _)]) (S' := [⟨b7, 40, 5, [_, _, _, _, _]⟩, ⟨b6, 40, 5, [_, _, _, _, _]⟩, ⟨b5, 33, 3, [_, _, _]⟩]) rfl rfl ⟨lk, lk, lk, lk, trivial⟩) ?_
 refine OD.nil ?_
 refine CD.seq ?_
 refine CD.region ?_
 refine OD.still (wants_plain rfl) rfl (still_r1 (mk := Op.load 40) rfl ot (by first | exact ld_blks (k := 1) (ds := [_, _, _, _, _]) rfl rfl Tryd.isAgg40 Tryd.sizeOf40 rfl rfl | exact ld_is (ds := [_, _, _, _, _]) Tryd.isAgg40 Tryd.sizeOf40 rfl rfl)) ?_
 refine OD.still (wants_plain rfl) rfl (still_r1 (mk := Op.load 40) rfl ot (by first | exact ld_blks (k := 0) (ds := [_, _, _, _, _]) rfl rfl Tryd.isAgg40 Tryd.sizeOf40 rfl rfl | exact ld_is (ds := [_, _, _, _, _]) Tryd.isAgg40 Tryd.sizeOf40 rfl rfl)) ?_
 refine OD.still (wants_plain rfl) rfl (still_bld (pl := [(0, _)]) (ds := [_, _, _, _, _]) rfl Tryd.zeroValue40 Tryd.runUnderlying40 places40_Exb ⟨rfl, opd_const, trivial⟩ rfl rfl) ?_
 refine OD.bldS (pl := numD 0 [_, _, _]) (zvs := [.int .i64 0, .int .i64 0, .int .i64 0, .string ⟨#[]⟩, .string ⟨#[]⟩, .int .i64 0, .int .i64 0, .int .i64 0, .string ⟨#[]⟩, .string ⟨#[]⟩, .int .i64 0, .int .i64 0, .int .i64 0, .string ⟨#[]⟩, .string ⟨#[]⟩]) (ds := [_, _, _, _, _, _, _, _, _, _, _, _, _, _, _]) (wants_plain rfl) rfl rfl Tryd.zeroValue40 Tryd.runUnderlying25 Tryd.sizeOf40 rfl rfl (by kernel_rfl) ⟨rfl, ot, rfl, ot, rfl, ot, trivial⟩ (by exact rfl) (fill_full (by exact rfl) (by exact rfl) (by exact rfl)) (fun b26 => ?_)
 refine OD.perm (perm_q11 (S1 := [⟨b26, 40, 3 * 5, List.flatMap cO ([idO, litO x, bareOp 6])⟩]) (A := [_, _, _])) ?_
 refine OD.giveL (t := 26) (Sq := [⟨b26, 40, 3 * 5, List.flatMap cO ([idO, litO x, bareOp 6])⟩]) lk (ownL_row (g := cO) (sz := 5) (e := 40) (ls := [idO, litO x, bareOp 6]) (Nat.le_refl _) (show 3 ≤ maxLen by decide)) (fm_len cO_len _) (perm_r11 (A := [_, _, _])) ?_
 refine OD.still (wants_plain rfl) rfl (still_r1 (mk := Op.load 40) rfl ot (by first | exact ld_blks (k := 0) (ds := [_, _, _, _, _]) rfl rfl Tryd.isAgg40 Tryd.sizeOf40 rfl rfl | exact ld_is (ds := [_, _, _, _, _]) Tryd.isAgg40 Tryd.sizeOf40 rfl rfl)) ?_
 refine OD.still (wants_plain rfl) rfl (still_r1 (mk := Op.load 40) rfl ot (by first | exact ld_blks (k := 1) (ds := [_, _, _, _, _]) rfl rfl Tryd.isAgg40 Tryd.sizeOf40 rfl rfl | exact ld_is (ds := [_, _, _, _, _]) Tryd.isAgg40 Tryd.sizeOf40 rfl rfl)) ?_
 refine OD.still (wants_plain rfl) rfl (still_bld (pl := [(0, _)]) (ds := [_, _, _, _, _]) rfl Tryd.zeroValue40 Tryd.runUnderlying40 places40_Exb ⟨rfl, opd_const, trivial⟩ rfl rfl) ?_
 refine OD.bldS (pl := numD 0 [_, _, _]) (zvs := [.int .i64 0, .int .i64 0, .int .i64 0, .string ⟨#[]⟩, .string ⟨#[]⟩, .int .i64 0, .int .i64 0, .int .i64 0, .string ⟨#[]⟩, .string ⟨#[]⟩, .int .i64 0, .int .i64 0, .int .i64 0, .string ⟨#[]⟩, .string ⟨#[]⟩]) (ds := [_, _, _, _, _, _, _, _, _, _, _, _, _, _, _]) (wants_plain rfl) rfl rfl Tryd.zeroValue40 Tryd.runUnderlying25 Tryd.sizeOf40 rfl rfl (by kernel_rfl) ⟨rfl, ot, rfl, ot, rfl, ot, trivial⟩ (by exact rfl) (fill_full (by exact rfl) (by exact rfl) (by exact rfl)) (fun b30 => ?_)
 refine OD.perm (perm_q11 (S1 := [⟨b30, 40, 3 * 5, List.flatMap cO ([litO x, idO, bareOp 6])⟩]) (A := [_, _, _])) ?_
 refine OD.giveL (t := 30) (Sq := [⟨b30, 40, 3 * 5, List.flatMap cO ([litO x, idO, bareOp 6])⟩]) lk (ownL_row (g := cO) (sz := 5) (e := 40) (ls := [litO x, idO, bareOp 6]) (Nat.le_refl _) (show 3 ≤ maxLen by decide)) (fm_len cO_len _) (perm_r11 (A := [_, _, _])) ?_
 refine OD.still (wants_plain rfl) rfl (still_r1 (mk := Op.load 40) rfl ot (by first | exact ld_blks (k := 1) (ds := [_, _, _, _, _]) rfl rfl Tryd.isAgg40 Tryd.sizeOf40 rfl rfl | exact ld_is (ds := [_, _, _, _, _]) Tryd.isAgg40 Tryd.sizeOf40 rfl rfl)) ?_
 refine OD.still (wants_plain rfl) rfl (still_r1 (mk := Op.load 40) rfl ot (by first | exact ld_blks (k := 0) (ds := [_, _, _, _, _]) rfl rfl Tryd.isAgg40 Tryd.sizeOf40 rfl rfl | exact ld_is (ds := [_, _, _, _, _]) Tryd.isAgg40 Tryd.sizeOf40 rfl rfl)) ?_
 refine OD.still (wants_plain rfl) rfl (still_bld (pl := [(0, _)]) (ds := [_, _, _, _, _]) rfl Tryd.zeroValue40 Tryd.runUnderlying40 places40_Exb ⟨rfl, opd_const, trivial⟩ rfl rfl) ?_
 refine OD.bldS (pl := numD 0 [_, _, _]) (zvs := [.int .i64 0, .int .i64 0, .int .i64 0, .string ⟨#[]⟩, .string ⟨#[]⟩, .int .i64 0, .int .i64 0, .int .i64 0, .string ⟨#[]⟩, .string ⟨#[]⟩, .int .i64 0, .int .i64 0, .int .i64 0, .string ⟨#[]⟩, .string ⟨#[]⟩]) (ds := [_, _, _, _, _, _, _, _, _, _, _, _, _, _, _]) (wants_plain rfl) rfl rfl Tryd.zeroValue40 Tryd.runUnderlying25 Tryd.sizeOf40 rfl rfl (by kernel_rfl) ⟨rfl, ot, rfl, ot, rfl, ot, trivial⟩ (by exact rfl) (fill_full (by exact rfl) (by exact rfl) (by exact rfl)) (fun b34 => ?_)
 refine OD.perm (perm_q11 (S1 := [⟨b34, 40, 3 * 5, List.flatMap cO ([idO, litO x, bareOp 7])⟩]) (A := [_, _, _])) ?_
 refine OD.giveL (t := 34) (Sq := [⟨b34, 40, 3 * 5, List.flatMap cO ([idO, litO x, bareOp 7])⟩]) lk (ownL_row (g := cO) (sz := 5) (e := 40) (ls := [idO, litO x, bareOp 7]) (Nat.le_refl _) (show 3 ≤ maxLen by decide)) (fm_len cO_len _) (perm_r11 (A := [_, _, _])) ?_
 refine OD.still (wants_plain rfl) rfl (still_r1 (mk := Op.load 40) rfl ot (by first | exact ld_blks (k := 0) (ds := [_, _, _, _, _]) rfl rfl Tryd.isAgg40 Tryd.sizeOf40 rfl rfl | exact ld_is (ds := [_, _, _, _, _]) Tryd.isAgg40 Tryd.sizeOf40 rfl rfl)) ?_
 refine OD.still (wants_plain rfl) rfl (still_r1 (mk := Op.load 40) rfl ot (by first | exact ld_blks (k := 1) (ds := [_, _, _, _, _]) rfl rfl Tryd.isAgg40 Tryd.sizeOf40 rfl rfl | exact ld_is (ds := [_, _, _, _, _]) Tryd.isAgg40 Tryd.sizeOf40 rfl rfl)) ?_
 refine OD.still (wants_plain rfl) rfl (still_bld (pl := [(0, _)]) (ds := [_, _, _, _, _]) rfl Tryd.zeroValue40 Tryd.runUnderlying40 places40_Exb ⟨rfl, opd_const, trivial⟩ rfl rfl) ?_
 refine OD.bldS (pl := numD 0 [_, _, _]) (zvs := [.int .i64 0, .int .i64 0, .int .i64 0, .string ⟨#[]⟩, .string ⟨#[]⟩, .int .i64 0, .int .i64 0, .int .i64 0, .string ⟨#[]⟩, .string ⟨#[]⟩, .int .i64 0, .int .i64 0, .int .i64 0, .string ⟨#[]⟩, .string ⟨#[]⟩]) (ds := [_, _, _, _, _, _, _, _, _, _, _, _, _, _, _]) (wants_plain rfl) rfl rfl Tryd.zeroValue40 Tryd.runUnderlying25 Tryd.sizeOf40 rfl rfl (by kernel_rfl) ⟨rfl, ot, rfl, ot, rfl, ot, trivial⟩ (by exact rfl) (fill_full (by exact rfl) (by exact rfl) (by exact rfl)) (fun b38 => ?_)
 refine OD.perm (perm_q11 (S1 := [⟨b38, 40, 3 * 5, List.flatMap cO ([litO x, idO, bareOp 7])⟩]) (A := [_, _, _])) ?_
 refine OD.giveL (t := 38) (Sq := [⟨b38, 40, 3 * 5, List.flatMap cO ([litO x, idO, bareOp 7])⟩]) lk (ownL_row (g := cO) (sz := 5) (e := 40) (ls := [litO x, idO, bareOp 7]) (Nat.le_refl _) (show 3 ≤ maxLen by decide)) (fm_len cO_len _) (perm_r11 (A := [_, _, _])) ?_
 refine OD.still (wants_plain rfl) rfl (still_r1 (mk := Op.load 40) rfl ot (by first | exact ld_blks (k := 1) (ds := [_, _, _, _, _]) rfl rfl Tryd.isAgg40 Tryd.sizeOf40 rfl rfl | exact ld_is (ds := [_, _, _, _, _]) Tryd.isAgg40 Tryd.sizeOf40 rfl rfl)) ?_
 refine OD.still (wants_plain rfl) rfl (still_r1 (mk := Op.load 40) rfl ot (by first | exact ld_blks (k := 0) (ds := [_, _, _, _, _]) rfl rfl Tryd.isAgg40 Tryd.sizeOf40 rfl rfl | exact ld_is (ds := [_, _, _, _, _]) Tryd.isAgg40 Tryd.sizeOf40 rfl rfl)) ?_
 refine OD.still (wants_plain rfl) rfl (still_bld (pl := [(0, _)]) (ds := [_, _, _, _, _]) rfl Tryd.zeroValue40 Tryd.runUnderlying40 places40_Exb ⟨rfl, opd_const, trivial⟩ rfl rfl) ?_
 refine OD.still (wants_plain rfl) rfl (still_bld (pl := [(0, _)]) (ds := [_, _, _, _, _]) rfl Tryd.zeroValue40 Tryd.runUnderlying40 places40_Exb ⟨rfl, opd_const, trivial⟩ rfl rfl) ?_
 refine OD.bldS (pl := numD 0 [_, _, _, _]) (zvs := [.int .i64 0, .int .i64 0, .int .i64 0, .string ⟨#[]⟩, .string ⟨#[]⟩, .int .i64 0, .int .i64 0, .int .i64 0, .string ⟨#[]⟩, .string ⟨#[]⟩, .int .i64 0, .int .i64 0, .int .i64 0, .string ⟨#[]⟩, .string ⟨#[]⟩, .int .i64 0, .int .i64 0, .int .i64 0, .string ⟨#[]⟩, .string ⟨#[]⟩]) (ds := [_, _, _, _, _, _, _, _, _, _, _, _, _, _, _, _, _, _, _, _]) (wants_plain rfl) rfl rfl Tryd.zeroValue40 Tryd.runUnderlying25 Tryd.sizeOf40 rfl rfl (by kernel_rfl) ⟨rfl, ot, rfl, ot, rfl, ot, rfl, ot, trivial⟩ (by exact rfl) (fill_full (by exact rfl) (by exact rfl) (by exact rfl)) (fun b43 => ?_)
 refine OD.perm (perm_q11 (S1 := [⟨b43, 40, 4 * 5, List.flatMap cO ([idO, litO x, bareOp 7, bareOp 5])⟩]) (A := [_, _, _])) ?_
 refine OD.giveL (t := 43) (Sq := [⟨b43, 40, 4 * 5, List.flatMap cO ([idO, litO x, bareOp 7, bareOp 5])⟩]) lk (ownL_row (g := cO) (sz := 5) (e := 40) (ls := [idO, litO x, bareOp 7, bareOp 5]) (Nat.le_refl _) (show 4 ≤ maxLen by decide)) (fm_len cO_len _) (perm_r11 (A := [_, _, _])) ?_
 refine OD.still (wants_plain rfl) rfl (still_r1 (mk := Op.load 40) rfl ot (by first | exact ld_blks (k := 0) (ds := [_, _, _, _, _]) rfl rfl Tryd.isAgg40 Tryd.sizeOf40 rfl rfl | exact ld_is (ds := [_, _, _, _, _]) Tryd.isAgg40 Tryd.sizeOf40 rfl rfl)) ?_
 refine OD.still (wants_plain rfl) rfl (still_r1 (mk := Op.load 40) rfl ot (by first | exact ld_blks (k := 1) (ds := [_, _, _, _, _]) rfl rfl Tryd.isAgg40 Tryd.sizeOf40 rfl rfl | exact ld_is (ds := [_, _, _, _, _]) Tryd.isAgg40 Tryd.sizeOf40 rfl rfl)) ?_
 refine OD.still (wants_plain rfl) rfl (still_bld (pl := [(0, _)]) (ds := [_, _, _, _, _]) rfl Tryd.zeroValue40 Tryd.runUnderlying40 places40_Exb ⟨rfl, opd_const, trivial⟩ rfl rfl) ?_
 refine OD.still (wants_plain rfl) rfl (still_bld (pl := [(0, _)]) (ds := [_, _, _, _, _]) rfl Tryd.zeroValue40 Tryd.runUnderlying40 places40_Exb ⟨rfl, opd_const, trivial⟩ rfl rfl) ?_
 refine OD.bldS (pl := numD 0 [_, _, _, _]) (zvs := [.int .i64 0, .int .i64 0, .int .i64 0, .string ⟨#[]⟩, .string ⟨#[]⟩, .int .i64 0, .int .i64 0, .int .i64 0, .string ⟨#[]⟩, .string ⟨#[]⟩, .int .i64 0, .int .i64 0, .int .i64 0, .string ⟨#[]⟩, .string ⟨#[]⟩, .int .i64 0, .int .i64 0, .int .i64 0, .string ⟨#[]⟩, .string ⟨#[]⟩]) (ds := [_, _, _, _, _, _, _, _, _, _, _, _, _, _, _, _, _, _, _, _]) (wants_plain rfl) rfl rfl Tryd.zeroValue40 Tryd.runUnderlying25 Tryd.sizeOf40 rfl rfl (by kernel_rfl) ⟨rfl, ot, rfl, ot, rfl, ot, rfl, ot, trivial⟩ (by exact rfl) (fill_full (by exact rfl) (by exact rfl) (by exact rfl)) (fun b48 => ?_)
 refine OD.perm (perm_q11 (S1 := [⟨b48, 40, 4 * 5, List.flatMap cO ([litO x, idO, bareOp 7, bareOp 5])⟩]) (A := [_, _, _])) ?_
 refine OD.giveL (t := 48) (Sq := [⟨b48, 40, 4 * 5, List.flatMap cO ([litO x, idO, bareOp 7, bareOp 5])⟩]) lk (ownL_row (g := cO) (sz := 5) (e := 40) (ls := [litO x, idO, bareOp 7, bareOp 5]) (Nat.le_refl _) (show 4 ≤ maxLen by decide)) (fm_len cO_len _) (perm_r11 (A := [_, _, _])) ?_
 refine OD.still (wants_plain rfl) rfl (still_r1 (mk := Op.load 40) rfl ot (by first | exact ld_blks (k := 1) (ds := [_, _, _, _, _]) rfl rfl Tryd.isAgg40 Tryd.sizeOf40 rfl rfl | exact ld_is (ds := [_, _, _, _, _]) Tryd.isAgg40 Tryd.sizeOf40 rfl rfl)) ?_
 refine OD.still (wants_plain rfl) rfl (still_r1 (mk := Op.load 40) rfl ot (by first | exact ld_blks (k := 0) (ds := [_, _, _, _, _]) rfl rfl Tryd.isAgg40 Tryd.sizeOf40 rfl rfl | exact ld_is (ds := [_, _, _, _, _]) Tryd.isAgg40 Tryd.sizeOf40 rfl rfl)) ?_
 refine OD.still (wants_plain rfl) rfl (still_bld (pl := [(0, _)]) (ds := [_, _, _, _, _]) rfl Tryd.zeroValue40 Tryd.runUnderlying40 places40_Exb ⟨rfl, opd_const, trivial⟩ rfl rfl) ?_
 refine OD.still (wants_plain rfl) rfl (still_bld (pl := [(0, _)]) (ds := [_, _, _, _, _]) rfl Tryd.zeroValue40 Tryd.runUnderlying40 places40_Exb ⟨rfl, opd_const, trivial⟩ rfl rfl) ?_
 refine OD.bldS (pl := numD 0 [_, _, _, _]) (zvs := [.int .i64 0, .int .i64 0, .int .i64 0, .string ⟨#[]⟩, .string ⟨#[]⟩, .int .i64 0, .int .i64 0, .int .i64 0, .string ⟨#[]⟩, .string ⟨#[]⟩, .int .i64 0, .int .i64 0, .int .i64 0, .string ⟨#[]⟩, .string ⟨#[]⟩, .int .i64 0, .int .i64 0, .int .i64 0, .string ⟨#[]⟩, .string ⟨#[]⟩]) (ds := [_, _, _, _, _, _, _, _, _, _, _, _, _, _, _, _, _, _, _, _]) (wants_plain rfl) rfl rfl Tryd.zeroValue40 Tryd.runUnderlying25 Tryd.sizeOf40 rfl rfl (by kernel_rfl) ⟨rfl, ot, rfl, ot, rfl, ot, rfl, ot, trivial⟩ (by exact rfl) (fill_full (by exact rfl) (by exact rfl) (by exact rfl)) (fun b53 => ?_)
 refine OD.perm (perm_q11 (S1 := [⟨b53, 40, 4 * 5, List.flatMap cO ([idO, litO x, bareOp 6, bareOp 5])⟩]) (A := [_, _, _])) ?_
 refine OD.giveL (t := 53) (Sq := [⟨b53, 40, 4 * 5, List.flatMap cO ([idO, litO x, bareOp 6, bareOp 5])⟩]) lk (ownL_row (g := cO) (sz := 5) (e := 40) (ls := [idO, litO x, bareOp 6, bareOp 5]) (Nat.le_refl _) (show 4 ≤ maxLen by decide)) (fm_len cO_len _) (perm_r11 (A := [_, _, _])) ?_
 refine OD.bldS (pl := numD 0 [_, _, _, _, _, _, _]) (zvs := [.slice none 0 0, .slice none 0 0, .slice none 0 0, .slice none 0 0, .slice none 0 0, .slice none 0 0, .slice none 0 0]) (ds := [_, _, _, _, _, _, _]) (wants_plain rfl) rfl rfl Tryd.zeroValue25 Tryd.runUnderlying46 Tryd.sizeOf25 rfl rfl (by kernel_rfl) ⟨rfl, ot, rfl, ot, rfl, ot, rfl, ot, rfl, ot, rfl, ot, rfl, ot, trivial⟩ (by exact rfl) (fill_full (by exact rfl) (by exact rfl) (by exact rfl)) (fun b54 => ?_)
 refine OD.still (wants_plain rfl) rfl (still_as rfl ot) ?_
 refine OD.wk (Wk.as_ (n := 134) (l' := [(1, _), (5, _), (8, _)]) (S' := [⟨b54, 25, 7, [_, _, _, _, _, _, _]⟩, ⟨b7, 40, 5, [_, _, _, _, _]⟩, ⟨b6, 40, 5, [_, _, _, _, _]⟩, ⟨b5, 33, 3, [_, _, _]⟩]) rfl rfl ⟨lk, lk, lk, trivial⟩) ?_
 refine OD.nil ?_
 refine CD.seq ?_
 refine CD.region ?_
 refine OD.still (wants_plain rfl) rfl (still_mv rfl ot) ?_
 refine OD.callP (wants_plain rfl) rfl rfl rfl Tryd.call15 (hpk) ⟨ot, opd_const, trivial⟩ ?_
 refine OD.still (wants_plain rfl) rfl (still_as rfl ot) ?_
 refine OD.wk (Wk.as_ (n := 134) (l' := [(5, _), (8, _), (9, _)]) (S' := [⟨b54, 25, 7, [_, _, _, _, _, _, _]⟩, ⟨b7, 40, 5, [_, _, _, _, _]⟩, ⟨b6, 40, 5, [_, _, _, _, _]⟩, ⟨b5, 33, 3, [_, _, _]⟩]) rfl rfl ⟨lk, lk, lk, trivial⟩) ?_
 refine OD.nil ?_
 refine CD.seq ?_
 refine CD.draw (bks _) (by kernel_rfl) (fun _ h => h) ?_
 refine AD0.take (i := 1) rfl (by kernel_rfl) (by kernel_rfl) (by kernel_rfl) (by repeat (first | exact NP.body | apply NP.then | apply NP.cut | apply NP.inBlock | apply NP.round)) (wants_plain rfl) rfl (still_mv rfl ot) (by exact trivial) ?_
 refine AD0.take (i := 2) rfl (by kernel_rfl) (by kernel_rfl) (by kernel_rfl) (by repeat (first | exact NP.body | apply NP.then | apply NP.cut | apply NP.inBlock | apply NP.round)) (wants_plain rfl) rfl (still_mv rfl ot) (by exact trivial) ?_
 refine AD0.take (i := 3) rfl (by kernel_rfl) (by kernel_rfl) (by kernel_rfl) (by repeat (first | exact NP.body | apply NP.then | apply NP.cut | apply NP.inBlock | apply NP.round)) (wants_plain rfl) rfl (still_r2 (mk := Op.indexAddr 46) rfl ot ot (by first | exact ix_list Tryd.runUnderlying46 Tryd.sizeOf25 (j := 0) rfl (by decide) | exact ix_row Tryd.runUnderlying46 Tryd.sizeOf25 (j := 0) rfl (by decide))) (by exact trivial) ?_
 refine AD0.take (i := 4) rfl (by kernel_rfl) (by kernel_rfl) (by kernel_rfl) (by repeat (first | exact NP.body | apply NP.then | apply NP.cut | apply NP.inBlock | apply NP.round)) (wants_plain rfl) rfl (still_r1 (mk := Op.load 25) rfl ot (by first | exact ld_blk (k := 0) rfl rfl Tryd.isAgg25 rfl | exact ld_blk (k := 1) rfl rfl Tryd.isAgg25 rfl | exact ld_blk (k := 2) rfl rfl Tryd.isAgg25 rfl | exact ld_blk (k := 3) rfl rfl Tryd.isAgg25 rfl | exact ld_i Tryd.isAgg25 rfl)) (by first | exact trivial | exact safe_blk (k0 := 0) rfl rfl | exact safe_blk (k0 := 1) rfl rfl | exact safe_blk (k0 := 2) rfl rfl | exact safe_blk (k0 := 3) rfl rfl) ?_
 refine AD0.later rfl ?_
 refine AD.one (i := 0) (by kernel_rfl) ?_
 refine AStep.callP rfl (wants_plain rfl) rfl rfl rfl Tryd.call10 (colsOf_vp) trivial ?_
 refine AD.one (i := 5) (by kernel_rfl) ?_
 refine AStep.callP rfl (wants_plain rfl) rfl rfl rfl Tryd.call16 (hbv) ⟨ot, ot, trivial⟩ ?_
 refine AD.take (i := 6) rfl (by kernel_rfl) (by kernel_rfl) (by kernel_rfl) (by repeat (first | exact NP.body | apply NP.then | apply NP.cut | apply NP.inBlock | apply NP.round)) (wants_plain rfl) rfl (still_mv rfl ot) (by exact trivial) (by intro h; cases h) ?_
 refine AD.take (i := 7) rfl (by kernel_rfl) (by kernel_rfl) (by kernel_rfl) (by repeat (first | exact NP.body | apply NP.then | apply NP.cut | apply NP.inBlock | apply NP.round)) (wants_plain rfl) rfl (still_extract rfl ot rfl) (by exact trivial) (by intro h; cases h) ?_
 refine AD.take (i := 8) rfl (by kernel_rfl) (by kernel_rfl) (by kernel_rfl) (by repeat (first | exact NP.body | apply NP.then | apply NP.cut | apply NP.inBlock | apply NP.round)) (wants_plain rfl) rfl (still_extract rfl ot rfl) (by exact trivial) (by intro h; cases h) ?_
 refine AD.take (i := 9) rfl (by kernel_rfl) (by kernel_rfl) (by kernel_rfl) (by repeat (first | exact NP.body | apply NP.then | apply NP.cut | apply NP.inBlock | apply NP.round)) (wants_plain rfl) rfl (still_extract rfl ot rfl) (by exact trivial) (by intro h; cases h) ?_
 refine AD.take (i := 10) rfl (by kernel_rfl) (by kernel_rfl) (by kernel_rfl) (by repeat (first | exact NP.body | apply NP.then | apply NP.cut | apply NP.inBlock | apply NP.round)) (wants_plain rfl) rfl (still_as rfl ot) (by exact trivial) (by intro h; cases h) ?_
 refine AD.take (i := 11) rfl (by kernel_rfl) (by kernel_rfl) (by kernel_rfl) (by repeat (first | exact NP.body | apply NP.then | apply NP.cut | apply NP.inBlock | apply NP.round)) (wants_plain rfl) rfl (still_as rfl ot) (by exact trivial) (by intro h; cases h) ?_
 refine AD.take (i := 12) rfl (by kernel_rfl) (by kernel_rfl) (by kernel_rfl) (by repeat (first | exact NP.body | apply NP.then | apply NP.cut | apply NP.inBlock | apply NP.round)) (wants_plain rfl) rfl (still_as rfl ot) (by exact trivial) (by intro h; cases h) ?_
 refine AD.wk (y := ⟨134, [(5, _), (9, _), (10, _), (11, _), (12, _)], [⟨b54, 25, 7, [_, _, _, _, _, _, _]⟩, ⟨b7, 40, 5, [_, _, _, _, _]⟩, ⟨b6, 40, 5, [_, _, _, _, _]⟩, ⟨b5, 33, 3, [_, _, _]⟩]⟩) (Wk.as_ rfl rfl ⟨lk, lk, lk, lk, lk, trivial⟩) rfl ?_
 refine AD.done (by kernel_rfl) ?_
 refine CD.seq ?_
 refine CD.region ?_
 refine OD.still (wants_plain rfl) rfl (still_r1 (mk := Op.load 33) rfl ot (by first | exact ld_blks (k := 3) (ds := [_, _, _]) rfl rfl Tryd.isAgg33 Tryd.sizeOf33 rfl rfl | exact ld_is (ds := [_, _, _]) Tryd.isAgg33 Tryd.sizeOf33 rfl rfl)) ?_
 refine OD.bldS (pl := numD 0 [_]) (zvs := [.int .i64 0, .int .i64 0, .string ⟨#[]⟩]) (ds := [_, _, _]) (wants_plain rfl) rfl rfl Tryd.zeroValue33 Tryd.runUnderlying36 Tryd.sizeOf33 rfl rfl (by kernel_rfl) ⟨rfl, ot, trivial⟩ (by exact rfl) (fill_full (by exact rfl) (by exact rfl) (by exact rfl)) (fun b69 => ?_)
 refine OD.perm (perm_q11 (S1 := [⟨b69, 33, 1 * 3, List.flatMap cV ([numV x])⟩]) (A := [_, _, _, _])) ?_
 refine OD.giveL (t := 69) (Sq := [⟨b69, 33, 1 * 3, List.flatMap cV ([numV x])⟩]) lk (ownL_row (g := cV) (sz := 3) (e := 33) (ls := [numV x]) (Nat.le_refl _) (show 1 ≤ maxLen by decide)) (fm_len cV_len _) (perm_r11 (A := [_, _, _, _])) ?_
 refine OD.callP (wants_plain rfl) rfl rfl rfl Tryd.call17 (hev) ⟨ot, trivial⟩ ?_
 refine OD.still (wants_plain rfl) rfl (still_mv rfl ot) ?_
 refine OD.still (wants_plain rfl) rfl (still_extract rfl ot rfl) ?_
 refine OD.still (wants_plain rfl) rfl (still_extract rfl ot rfl) ?_
 refine OD.still (wants_plain rfl) rfl (still_as rfl ot) ?_
 refine OD.still (wants_plain rfl) rfl (still_as rfl ot) ?_
 refine OD.wk (Wk.as_ (n := 134) (l' := [(9, _), (10, _), (11, _), (12, _), (13, _), (14, _)]) (S' := [⟨b54, 25, 7, [_, _, _, _, _, _, _]⟩, ⟨b7, 40, 5, [_, _, _, _, _]⟩, ⟨b6, 40, 5, [_, _, _, _, _]⟩, ⟨b5, 33, 3, [_, _, _]⟩]) rfl rfl ⟨lk, lk, lk, lk, lk, lk, trivial⟩) ?_
 refine OD.nil ?_
 refine CD.seq ?_
 refine CD.region ?_
 refine OD.still (wants_plain rfl) rfl (still_mv rfl ot) ?_
 refine OD.still (wants_plain rfl) rfl (still_bin rfl ot opd_const bin_lss) ?_
 refine OD.still (wants_plain rfl) rfl (still_mv rfl ot) ?_
 refine OD.split (t := 75) lk (fun hg75 => ?_) (fun hg75 => ?_)
 ·have hg75' := hg75; (try simp only [V.cnd, ne_eq] at hg75')
  refine OD.skip (wants_F rfl rfl rfl lk (by first | rfl | assumption)) rfl ?_
  refine OD.skip (wants_F rfl rfl rfl lk (by first | rfl | assumption)) rfl ?_
  refine OD.still (wants_plain rfl) rfl (still_pickT rfl ot (by first | rfl | assumption) opd_const) ?_
  refine OD.still (wants_plain rfl) rfl (still_mv rfl ot) ?_
  refine OD.skip (wants_F rfl rfl rfl lk (by first | rfl | assumption)) rfl ?_
  refine OD.skip (wants_F rfl rfl rfl lk (by first | rfl | assumption)) rfl ?_
  refine OD.still (wants_plain rfl) rfl (still_pickT rfl ot (by first | rfl | assumption) opd_const) ?_
  refine OD.still (wants_plain rfl) rfl (still_as rfl ot) ?_
  refine OD.wk (Wk.as_ (n := 134) (l' := [(9, _), (10, _), (11, _), (12, _), (13, _), (14, _), (15, _)]) (S' := [⟨b54, 25, 7, [_, _, _, _, _, _, _]⟩, ⟨b7, 40, 5, [_, _, _, _, _]⟩, ⟨b6, 40, 5, [_, _, _, _, _]⟩, ⟨b5, 33, 3, [_, _, _]⟩]) rfl rfl ⟨lk, lk, lk, lk, lk, lk, lk, trivial⟩) ?_
  refine OD.nil ?_
  refine CD.seq ?_
  refine CD.region ?_
  refine OD.still (wants_plain rfl) rfl (still_mv rfl ot) ?_
  refine OD.still (wants_plain rfl) rfl (still_bin rfl ot opd_const bin_lss) ?_
  refine OD.still (wants_plain rfl) rfl (still_mv rfl ot) ?_
  refine OD.split (t := 85) lk (fun hg85 => ?_) (fun hg85 => ?_)
  ·have hg85' := hg85; (try simp only [V.cnd, ne_eq] at hg85')
   refine OD.skip (wants_F rfl rfl rfl lk (by first | rfl | assumption)) rfl ?_
   refine OD.skip (wants_F rfl rfl rfl lk (by first | rfl | assumption)) rfl ?_
   refine OD.still (wants_plain rfl) rfl (still_pickT rfl ot (by first | rfl | assumption) opd_const) ?_
   refine OD.still (wants_plain rfl) rfl (still_as rfl ot) ?_
   refine OD.wk (Wk.as_ (n := 134) (l' := [(10, _), (11, _), (12, _), (13, _), (14, _), (15, _), (16, _)]) (S' := [⟨b54, 25, 7, [_, _, _, _, _, _, _]⟩, ⟨b7, 40, 5, [_, _, _, _, _]⟩, ⟨b6, 40, 5, [_, _, _, _, _]⟩, ⟨b5, 33, 3, [_, _, _]⟩]) rfl rfl ⟨lk, lk, lk, lk, lk, lk, lk, trivial⟩) ?_
   refine OD.nil ?_
   refine CD.seq ?_
   refine CD.seq ?_
   refine CD.region ?_
   refine OD.still (wants_plain rfl) rfl (still_mv rfl ot) ?_
   refine OD.still (wants_plain rfl) rfl (still_bin rfl ot opd_const bin_neq) ?_
   refine OD.still (wants_plain rfl) rfl (still_mv rfl ot) ?_
   refine OD.split (t := 91) lk (fun hg91 => ?_) (fun hg91 => ?_)
   ·exact absurd hg91 (by simp)
   ·have hg91' := hg91; (try simp only [V.cnd, ne_eq] at hg91')
    refine OD.still (wants_T rfl rfl rfl lk (by first | rfl | assumption)) rfl (still_mv rfl ot) ?_
    refine OD.still (wants_T rfl rfl rfl lk (by first | rfl | assumption)) rfl (still_bin rfl ot opd_const bin_neq) ?_
    refine OD.still (wants_plain rfl) rfl (still_pickF rfl ot (by first | rfl | assumption) ot) ?_
    refine OD.still (wants_plain rfl) rfl (still_mv rfl ot) ?_
    refine OD.split (t := 95) lk (fun hg95 => ?_) (fun hg95 => ?_)
    ·exact absurd hg95 (by simp)
    ·have hg95' := hg95; (try simp only [V.cnd, ne_eq] at hg95')
     refine OD.still (wants_T rfl rfl rfl lk (by first | rfl | assumption)) rfl (still_mv rfl ot) ?_
     refine OD.still (wants_T rfl rfl rfl lk (by first | rfl | assumption)) rfl (still_r1 (mk := fun y => .call { callee := .builtin .len, args := #[y], argTypes := #[47] }) rfl ot (by first | exact len_list rfl Tryd.runUnderlying47 | exact len_row rfl Tryd.runUnderlying47)) ?_
     refine OD.still (wants_T rfl rfl rfl lk (by first | rfl | assumption)) rfl (still_bin rfl ot opd_const bin_eql) ?_
     refine OD.still (wants_plain rfl) rfl (still_pickF rfl ot (by first | rfl | assumption) ot) ?_
     refine OD.wk (Wk.as_ (n := 134) (l' := [(10, _), (11, _), (13, _), (15, _), (16, _), (99, _)]) (S' := [⟨b54, 25, 7, [_, _, _, _, _, _, _]⟩, ⟨b7, 40, 5, [_, _, _, _, _]⟩, ⟨b6, 40, 5, [_, _, _, _, _]⟩, ⟨b5, 33, 3, [_, _, _]⟩]) rfl rfl ⟨lk, lk, lk, lk, lk, lk, trivial⟩) ?_
     refine OD.nil ?_
     refine CD.cond ot (fun hc0 => ?_) (fun hc0 => ?_)
     ·exact absurd hc0 (by rw [hkl]; decide)
     ·have hc0' := hc0
      (try simp only [V.cnd, ne_eq] at hc0')
      refine CD.skip ?_
      refine CD.seq ?_
      refine CD.seq ?_
      refine CD.region ?_
      refine OD.still (wants_plain rfl) rfl (still_mv rfl ot) ?_
      refine OD.still (wants_plain rfl) rfl (still_mv rfl ot) ?_
      refine OD.still (wants_T rfl rfl rfl lk (by first | rfl | assumption)) rfl (still_mv rfl ot) ?_
      first | refine OD.still (wants_T rfl rfl rfl lk (by first | rfl | assumption)) rfl (still_ofBytes rfl ot Tryd.underlying47 Tryd.underlying5 Tryd.underlying9) ?_ | refine OD.still (wants_T rfl rfl rfl lk (by first | rfl | assumption)) rfl (still_ofBytesF rfl ot Tryd.underlying47 Tryd.underlying5 Tryd.underlying9) ?_
      refine OD.still (wants_T rfl rfl rfl lk (by first | rfl | assumption)) rfl (still_mv rfl ot) ?_
      first | refine OD.still (wants_T rfl rfl rfl lk (by first | rfl | assumption)) rfl (still_ofBytes rfl ot Tryd.underlying47 Tryd.underlying5 Tryd.underlying9) ?_ | refine OD.still (wants_T rfl rfl rfl lk (by first | rfl | assumption)) rfl (still_ofBytesF rfl ot Tryd.underlying47 Tryd.underlying5 Tryd.underlying9) ?_
      refine OD.still (wants_T rfl rfl rfl lk (by first | rfl | assumption)) rfl (still_bin rfl ot ot bin_sneq) ?_
      refine OD.still (wants_plain rfl) rfl (still_pickT rfl ot (by first | rfl | assumption) ot) ?_
      refine OD.still (wants_plain rfl) rfl (still_mv rfl ot) ?_
      refine OD.split (t := 108) lk (fun hg108 => ?_) (fun hg108 => ?_)
      ·exact absurd hg108 (by simp)
      ·have hg108' := hg108; (try simp only [V.cnd, ne_eq] at hg108')
       refine OD.still (wants_T rfl rfl rfl lk (by first | rfl | assumption)) rfl (still_mv rfl ot) ?_
       refine OD.still (wants_T rfl rfl rfl lk (by first | rfl | assumption)) rfl (still_un rfl ot un_not) ?_
       refine OD.still (wants_T rfl rfl rfl lk (by first | rfl | assumption)) rfl (still_mv rfl ot) ?_
       refine OD.skip (wants_F rfl rfl rfl lk (by first | rfl | assumption)) rfl ?_
       refine OD.skip (wants_F rfl rfl rfl lk (by first | rfl | assumption)) rfl ?_
       refine OD.skip (wants_F rfl rfl rfl lk (by first | rfl | assumption)) rfl ?_
       refine OD.still (wants_T rfl rfl rfl lk (by first | rfl | assumption)) rfl (still_pickF rfl ot (by first | rfl | assumption) opd_const) ?_
       refine OD.still (wants_plain rfl) rfl (still_pickF rfl ot (by first | rfl | assumption) ot) ?_
       refine OD.wk (Wk.as_ (n := 134) (l' := [(11, _), (13, _), (16, _), (116, _)]) (S' := [⟨b54, 25, 7, [_, _, _, _, _, _, _]⟩, ⟨b7, 40, 5, [_, _, _, _, _]⟩, ⟨b6, 40, 5, [_, _, _, _, _]⟩, ⟨b5, 33, 3, [_, _, _]⟩]) rfl rfl ⟨lk, lk, lk, lk, trivial⟩) ?_
       refine OD.nil ?_
       refine CD.condF ot (by first | rfl | assumption) ?_
       refine CD.skip ?_
       refine CD.seq ?_
       refine CD.region ?_
       refine OD.still (wants_plain rfl) rfl (still_mv rfl ot) ?_
       refine OD.still (wants_plain rfl) rfl (still_mv rfl ot) ?_
       refine OD.still (wants_T rfl rfl rfl lk (by first | rfl | assumption)) rfl (still_mv rfl ot) ?_
       first | refine OD.still (wants_T rfl rfl rfl lk (by first | rfl | assumption)) rfl (still_ofBytes rfl ot Tryd.underlying47 Tryd.underlying5 Tryd.underlying9) ?_ | refine OD.still (wants_T rfl rfl rfl lk (by first | rfl | assumption)) rfl (still_ofBytesF rfl ot Tryd.underlying47 Tryd.underlying5 Tryd.underlying9) ?_
       refine OD.still (wants_T rfl rfl rfl lk (by first | rfl | assumption)) rfl (still_mv rfl ot) ?_
       first | refine OD.still (wants_T rfl rfl rfl lk (by first | rfl | assumption)) rfl (still_ofBytes rfl ot Tryd.underlying47 Tryd.underlying5 Tryd.underlying9) ?_ | refine OD.still (wants_T rfl rfl rfl lk (by first | rfl | assumption)) rfl (still_ofBytesF rfl ot Tryd.underlying47 Tryd.underlying5 Tryd.underlying9) ?_
       refine OD.still (wants_T rfl rfl rfl lk (by first | rfl | assumption)) rfl (still_bin rfl ot ot bin_seql) ?_
       refine OD.still (wants_plain rfl) rfl (still_pickT rfl ot (by first | rfl | assumption) ot) ?_
       refine OD.still (wants_plain rfl) rfl (still_mv rfl ot) ?_
       refine OD.split (t := 125) lk (fun hg125 => ?_) (fun hg125 => ?_)
       ·have hg125' := hg125; (try simp only [V.cnd, ne_eq] at hg125')
        refine OD.skip (wants_F rfl rfl rfl lk (by first | rfl | assumption)) rfl ?_
        refine OD.skip (wants_F rfl rfl rfl lk (by first | rfl | assumption)) rfl ?_
        refine OD.skip (wants_F rfl rfl rfl lk (by first | rfl | assumption)) rfl ?_
        refine OD.skip (wants_J (b := false) rfl rfl rfl lk) rfl ?_
        refine OD.skip (wants_J (b := false) rfl rfl rfl lk) rfl ?_
        refine OD.skip (wants_J (b := false) rfl rfl rfl lk) rfl ?_
        refine OD.skip (wants_F rfl rfl rfl lk (by first | rfl | assumption)) rfl ?_
        refine OD.still (wants_plain rfl) rfl (still_pickT rfl ot (by first | rfl | assumption) opd_const) ?_
        refine OD.still (wants_plain rfl) rfl (still_as rfl ot) ?_
        refine OD.wk (Wk.as_ (n := 134) (l' := [(4, _)]) (S' := [⟨b54, 25, 7, [_, _, _, _, _, _, _]⟩, ⟨b7, 40, 5, [_, _, _, _, _]⟩, ⟨b6, 40, 5, [_, _, _, _, _]⟩, ⟨b5, 33, 3, [_, _, _]⟩]) rfl rfl ⟨lk, trivial⟩) ?_
        refine OD.nil ?_
        refine CD.ret ?_
        refine ⟨.inr rfl, _, [], List.nil_sublist _, ret_one Tryd.results5 (res_tmp (Nat.le_of_ble_eq_true rfl) lk), ?_⟩
        first | exact ⟨rfl, rfl⟩ | (refine ⟨vb ?_, rfl⟩; simp)
       ·exact absurd hg125 (by simp)
  ·exact absurd hg85 (by decide)
 ·exact absurd hg75 (by decide)

set_option maxHeartbeats 4000000 in
set_option maxRecDepth 100000 in
theorem one1_vp {m : Int} (hm : (3, marksC) ∈ G) (hw : (0, wordsC) ∈ G) (ht : (2, typesC) ∈ G) (hG : (1, [Value.int .i64 m]) ∈ G) (n : Int) (n1 : -9223372036854775808 ≤ n) (n2 : n ≤ 9223372036854775807) (form : Int) (form1 : -9223372036854775808 ≤ form) (form2 : form ≤ 9223372036854775807) (hk : pickedF form 7 = 1) : VP Tryd.prog G 5 [.v (.int .i64 n), .v (.int .i64 form)] (.v (.bool true)) := by
 refine VC.body Tryd.func5 rfl Tryd.ntmps5 (Nat.le_of_ble_eq_true rfl) fun X0 w0 S00 => ?_
 have hxb := pickedF_bd n (show (1 : Int) ≤ 1000 by decide)
 have hbv := Bounds_at hm hw ht hG [litO (pickedF n 1000), idO, bareOp 6] (fine_cons (fine_lit (by omega) (by omega)) (fine_cons fine_id (fine_cons (fine_bare 6) fine_nil)))
 rw [one1 hxb.1] at hbv
 unfold bdD bytesL at hbv
 have hev := enc_at hm hw ht hG (pickedF n 1000) hxb.1 (by omega)
 have hkl := key_len (pickedF n 1000)
 have hpn := (picked_vp G n 1000 n1 n2 (by decide))
 have hpk := (picked_vp G form 7 form1 form2 (by decide))
 rw [hk] at hpk
 skip
 generalize (pickedF n 1000) = x at *
 refine CD.seq ?_
 refine CD.region ?_
 refine OD.still (wants_plain rfl) rfl (still_as rfl opd_const) ?_
 refine OD.wk (Wk.as_ (n := 134) (l' := [(0, _), (1, _)]) (S' := []) rfl rfl ⟨lk, lk, trivial⟩) ?_
 refine OD.nil ?_
 refine CD.seq ?_
 refine CD.region ?_
 refine OD.still (wants_plain rfl) rfl (still_mv rfl ot) ?_
 refine OD.callP (wants_plain rfl) rfl rfl rfl Tryd.call15 (hpn) ⟨ot, opd_const, trivial⟩ ?_
 refine OD.still (wants_plain rfl) rfl (still_bld (pl := [(0, _), (1, _)]) (ds := [_, _, _]) rfl Tryd.zeroValue33 Tryd.runUnderlying33 places33_Exb ⟨rfl, opd_const, rfl, ot, trivial⟩ rfl rfl) ?_
 refine OD.alloc (ds := [_, _, _]) (wants_plain rfl) rfl rfl Tryd.zeroValue33 rfl (fun b5 => ?_)
 refine OD.store (k := 0) (cs' := [_, _, _]) (wants_plain rfl) rfl rfl ot rfl rfl ot rfl rfl Tryd.sizeOf33 rfl rfl rfl ?_
 refine OD.wk (Wk.as_ (n := 134) (l' := [(1, _), (5, _)]) (S' := [⟨b5, 33, 3, [_, _, _]⟩]) rfl rfl ⟨lk, lk, trivial⟩) ?_
 refine OD.nil ?_
 refine CD.seq ?_
 refine CD.region ?_
 refine OD.still (wants_plain rfl) rfl (still_bld (pl := [(0, _), (2, _)]) (ds := [_, _, _, _, _]) rfl Tryd.zeroValue40 Tryd.runUnderlying40 places40_Exb ⟨rfl, opd_const, rfl, opd_const, trivial⟩ rfl rfl) ?_
 refine OD.alloc (ds := [_, _, _, _, _]) (wants_plain rfl) rfl rfl Tryd.zeroValue40 rfl (fun b6 => ?_)
 refine OD.store (k := 0) (cs' := [_, _, _, _, _]) (wants_plain rfl) rfl rfl ot rfl rfl ot rfl rfl Tryd.sizeOf40 rfl rfl rfl ?_
 refine OD.wk (Wk.as_ (n := 134) (l' := [(1, _), (5, _), (6, _)]) (S' := [⟨b6, 40, 5, [_, _, _, _, _]⟩, ⟨b5, 33, 3, [_, _, _]⟩]) rfl rfl ⟨lk, lk, lk, trivial⟩) ?_
 refine OD.nil ?_
 refine CD.seq ?_
 refine CD.region ?_
 refine OD.still (wants_plain rfl) rfl (still_r1 (mk := Op.load 33) rfl ot (by first | exact ld_blks (k := 1) (ds := [_, _, _]) rfl rfl Tryd.isAgg33 Tryd.sizeOf33 rfl rfl | exact ld_is (ds := [_, _, _]) Tryd.isAgg33 Tryd.sizeOf33 rfl rfl)) ?_
 refine OD.still (wants_plain rfl) rfl (still_bld (pl := [(0, _), (1, _)]) (ds := [_, _, _, _, _]) rfl Tryd.zeroValue40 Tryd.runUnderlying40 places40_Exb ⟨rfl, opd_const, rfl, ot, trivial⟩ rfl rfl) ?_
 refine OD.alloc (ds := [_, _, _, _, _]) (wants_plain rfl) rfl rfl Tryd.zeroValue40 rfl (fun b7 => ?_)
 refine OD.store (k := 0) (cs' := [_, _, _, _, _]) (wants_plain rfl) rfl rfl ot rfl rfl ot rfl rfl Tryd.sizeOf40 rfl rfl rfl ?_
 refine OD.wk (Wk.as_ (n := 134) (l' := [(1, _), (5, _), (6, _), (7, _)]) (S' := [⟨b7, 40, 5, [_, _, _, _, _]⟩, ⟨b6, 40, 5, [_, _, _, _, _]⟩, ⟨b5, 33, 3, [_, _, _]⟩]) rfl rfl ⟨lk, lk, lk, lk, trivial⟩) ?_
 refine OD.nil ?_
 refine CD.seq ?_
 refine CD.region ?_
 refine OD.still (wants_plain rfl) rfl (still_r1 (mk := Op.load 40) rfl ot (by first | exact ld_blks (k := 1) (ds := [_, _, _, _, _]) rfl rfl Tryd.isAgg40 Tryd.sizeOf40 rfl rfl | exact ld_is (ds := [_, _, _, _, _]) Tryd.isAgg40 Tryd.sizeOf40 rfl rfl)) ?_
 refine OD.still (wants_plain rfl) rfl (still_r1 (mk := Op.load 40) rfl ot (by first | exact ld_blks (k := 0) (ds := [_, _, _, _, _]) rfl rfl Tryd.isAgg40 Tryd.sizeOf40 rfl rfl | exact ld_is (ds := [_, _, _, _, _]) Tryd.isAgg40 Tryd.sizeOf40 rfl rfl)) ?_
 refine OD.still (wants_plain rfl) rfl (still_bld (pl := [(0, _)]) (ds := [_, _, _, _, _]) rfl Tryd.zeroValue40 Tryd.runUnderlying40 places40_Exb ⟨rfl, opd_const, trivial⟩ rfl rfl) ?_
 refine OD.bldS (pl := numD 0 [_, _, _]) (zvs := [.int .i64 0, .int .i64 0, .int .i64 0, .string ⟨#[]⟩, .string ⟨#[]⟩, .int .i64 0, .int .i64 0, .int .i64 0, .string ⟨#[]⟩, .string ⟨#[]⟩, .int .i64 0, .int .i64 0, .int .i64 0, .string ⟨#[]⟩, .string ⟨#[]⟩]) (ds := [_, _, _, _, _, _, _, _, _, _, _, _, _, _, _]) (wants_plain rfl) rfl rfl Tryd.zeroValue40 Tryd.runUnderlying25 Tryd.sizeOf40 rfl rfl (by kernel_rfl) ⟨rfl, ot, rfl, ot, rfl, ot, trivial⟩ (by exact rfl) (fill_full (by exact rfl) (by exact rfl) (by exact rfl)) (fun b26 => ?_)
 refine OD.perm (perm_q11 (S1 := [⟨b26, 40, 3 * 5, List.flatMap cO ([idO, litO x, bareOp 6])⟩]) (A := [_, _, _])) ?_
 refine OD.giveL (t := 26) (Sq := [⟨b26, 40, 3 * 5, List.flatMap cO ([idO, litO x, bareOp 6])⟩]) lk (ownL_row (g := cO) (sz := 5) (e := 40) (ls := [idO, litO x, bareOp 6]) (Nat.le_refl _) (show 3 ≤ maxLen by decide)) (fm_len cO_len _) (perm_r11 (A := [_, _, _])) ?_
 refine OD.still (wants_plain rfl) rfl (still_r1 (mk := Op.load 40) rfl ot (by first | exact ld_blks (k := 0) (ds := [_, _, _, _, _]) rfl rfl Tryd.isAgg40 Tryd.sizeOf40 rfl rfl | exact ld_is (ds := [_, _, _, _, _]) Tryd.isAgg40 Tryd.sizeOf40 rfl rfl)) ?_
 refine OD.still (wants_plain rfl) rfl (still_r1 (mk := Op.load 40) rfl ot (by first | exact ld_blks (k := 1) (ds := [_, _, _, _, _]) rfl rfl Tryd.isAgg40 Tryd.sizeOf40 rfl rfl | exact ld_is (ds := [_, _, _, _, _]) Tryd.isAgg40 Tryd.sizeOf40 rfl rfl)) ?_
 refine OD.still (wants_plain rfl) rfl (still_bld (pl := [(0, _)]) (ds := [_, _, _, _, _]) rfl Tryd.zeroValue40 Tryd.runUnderlying40 places40_Exb ⟨rfl, opd_const, trivial⟩ rfl rfl) ?_
 refine OD.bldS (pl := numD 0 [_, _, _]) (zvs := [.int .i64 0, .int .i64 0, .int .i64 0, .string ⟨#[]⟩, .string ⟨#[]⟩, .int .i64 0, .int .i64 0, .int .i64 0, .string ⟨#[]⟩, .string ⟨#[]⟩, .int .i64 0, .int .i64 0, .int .i64 0, .string ⟨#[]⟩, .string ⟨#[]⟩]) (ds := [_, _, _, _, _, _, _, _, _, _, _, _, _, _, _]) (wants_plain rfl) rfl rfl Tryd.zeroValue40 Tryd.runUnderlying25 Tryd.sizeOf40 rfl rfl (by kernel_rfl) ⟨rfl, ot, rfl, ot, rfl, ot, trivial⟩ (by exact rfl) (fill_full (by exact rfl) (by exact rfl) (by exact rfl)) (fun b30 => ?_)
 refine OD.perm (perm_q11 (S1 := [⟨b30, 40, 3 * 5, List.flatMap cO ([litO x, idO, bareOp 6])⟩]) (A := [_, _, _])) ?_
 refine OD.giveL (t := 30) (Sq := [⟨b30, 40, 3 * 5, List.flatMap cO ([litO x, idO, bareOp 6])⟩]) lk (ownL_row (g := cO) (sz := 5) (e := 40) (ls := [litO x, idO, bareOp 6]) (Nat.le_refl _) (show 3 ≤ maxLen by decide)) (fm_len cO_len _) (perm_r11 (A := [_, _, _])) ?_
 refine OD.still (wants_plain rfl) rfl (still_r1 (mk := Op.load 40) rfl ot (by first | exact ld_blks (k := 1) (ds := [_, _, _, _, _]) rfl rfl Tryd.isAgg40 Tryd.sizeOf40 rfl rfl | exact ld_is (ds := [_, _, _, _, _]) Tryd.isAgg40 Tryd.sizeOf40 rfl rfl)) ?_
 refine OD.still (wants_plain rfl) rfl (still_r1 (mk := Op.load 40) rfl ot (by first | exact ld_blks (k := 0) (ds := [_, _, _, _, _]) rfl rfl Tryd.isAgg40 Tryd.sizeOf40 rfl rfl | exact ld_is (ds := [_, _, _, _, _]) Tryd.isAgg40 Tryd.sizeOf40 rfl rfl)) ?_
 refine OD.still (wants_plain rfl) rfl (still_bld (pl := [(0, _)]) (ds := [_, _, _, _, _]) rfl Tryd.zeroValue40 Tryd.runUnderlying40 places40_Exb ⟨rfl, opd_const, trivial⟩ rfl rfl) ?_
 refine OD.bldS (pl := numD 0 [_, _, _]) (zvs := [.int .i64 0, .int .i64 0, .int .i64 0, .string ⟨#[]⟩, .string ⟨#[]⟩, .int .i64 0, .int .i64 0, .int .i64 0, .string ⟨#[]⟩, .string ⟨#[]⟩, .int .i64 0, .int .i64 0, .int .i64 0, .string ⟨#[]⟩, .string ⟨#[]⟩]) (ds := [_, _, _, _, _, _, _, _, _, _, _, _, _, _, _]) (wants_plain rfl) rfl rfl Tryd.zeroValue40 Tryd.runUnderlying25 Tryd.sizeOf40 rfl rfl (by kernel_rfl) ⟨rfl, ot, rfl, ot, rfl, ot, trivial⟩ (by exact rfl) (fill_full (by exact rfl) (by exact rfl) (by exact rfl)) (fun b34 => ?_)
 refine OD.perm (perm_q11 (S1 := [⟨b34, 40, 3 * 5, List.flatMap cO ([idO, litO x, bareOp 7])⟩]) (A := [_, _, _])) ?_
 refine OD.giveL (t := 34) (Sq := [⟨b34, 40, 3 * 5, List.flatMap cO ([idO, litO x, bareOp 7])⟩]) lk (ownL_row (g := cO) (sz := 5) (e := 40) (ls := [idO, litO x, bareOp 7]) (Nat.le_refl _) (show 3 ≤ maxLen by decide)) (fm_len cO_len _) (perm_r11 (A := [_, _, _])) ?_
 refine OD.still (wants_plain rfl) rfl (still_r1 (mk := Op.load 40) rfl ot (by first | exact ld_blks (k := 0) (ds := [_, _, _, _, _]) rfl rfl Tryd.isAgg40 Tryd.sizeOf40 rfl rfl | exact ld_is (ds := [_, _, _, _, _]) Tryd.isAgg40 Tryd.sizeOf40 rfl rfl)) ?_
 refine OD.still (wants_plain rfl) rfl (still_r1 (mk := Op.load 40) rfl ot (by first | exact ld_blks (k := 1) (ds := [_, _, _, _, _]) rfl rfl Tryd.isAgg40 Tryd.sizeOf40 rfl rfl | exact ld_is (ds := [_, _, _, _, _]) Tryd.isAgg40 Tryd.sizeOf40 rfl rfl)) ?_
 refine OD.still (wants_plain rfl) rfl (still_bld (pl := [(0, _)]) (ds := [_, _, _, _, _]) rfl Tryd.zeroValue40 Tryd.runUnderlying40 places40_Exb ⟨rfl, opd_const, trivial⟩ rfl rfl) ?_
 refine OD.bldS (pl := numD 0 [_, _, _]) (zvs := [.int .i64 0, .int .i64 0, .int .i64 0, .string ⟨#[]⟩, .string ⟨#[]⟩, .int .i64 0, .int .i64 0, .int .i64 0, .string ⟨#[]⟩, .string ⟨#[]⟩, .int .i64 0, .int .i64 0, .int .i64 0, .string ⟨#[]⟩, .string ⟨#[]⟩]) (ds := [_, _, _, _, _, _, _, _, _, _, _, _, _, _, _]) (wants_plain rfl) rfl rfl Tryd.zeroValue40 Tryd.runUnderlying25 Tryd.sizeOf40 rfl rfl (by kernel_rfl) ⟨rfl, ot, rfl, ot, rfl, ot, trivial⟩ (by exact rfl) (fill_full (by exact rfl) (by exact rfl) (by exact rfl)) (fun b38 => ?_)
 refine OD.perm (perm_q11 (S1 := [⟨b38, 40, 3 * 5, List.flatMap cO ([litO x, idO, bareOp 7])⟩]) (A := [_, _, _])) ?_
 refine OD.giveL (t := 38) (Sq := [⟨b38, 40, 3 * 5, List.flatMap cO ([litO x, idO, bareOp 7])⟩]) lk (ownL_row (g := cO) (sz := 5) (e := 40) (ls := [litO x, idO, bareOp 7]) (Nat.le_refl _) (show 3 ≤ maxLen by decide)) (fm_len cO_len _) (perm_r11 (A := [_, _, _])) ?_
 refine OD.still (wants_plain rfl) rfl (still_r1 (mk := Op.load 40) rfl ot (by first | exact ld_blks (k := 1) (ds := [_, _, _, _, _]) rfl rfl Tryd.isAgg40 Tryd.sizeOf40 rfl rfl | exact ld_is (ds := [_, _, _, _, _]) Tryd.isAgg40 Tryd.sizeOf40 rfl rfl)) ?_
 refine OD.still (wants_plain rfl) rfl (still_r1 (mk := Op.load 40) rfl ot (by first | exact ld_blks (k := 0) (ds := [_, _, _, _, _]) rfl rfl Tryd.isAgg40 Tryd.sizeOf40 rfl rfl | exact ld_is (ds := [_, _, _, _, _]) Tryd.isAgg40 Tryd.sizeOf40 rfl rfl)) ?_
 refine OD.still (wants_plain rfl) rfl (still_bld (pl := [(0, _)]) (ds := [_, _, _, _, _]) rfl Tryd.zeroValue40 Tryd.runUnderlying40 places40_Exb ⟨rfl, opd_const, trivial⟩ rfl rfl) ?_
 refine OD.still (wants_plain rfl) rfl (still_bld (pl := [(0, _)]) (ds := [_, _, _, _, _]) rfl Tryd.zeroValue40 Tryd.runUnderlying40 places40_Exb ⟨rfl, opd_const, trivial⟩ rfl rfl) ?_
 refine OD.bldS (pl := numD 0 [_, _, _, _]) (zvs := [.int .i64 0, .int .i64 0, .int .i64 0, .string ⟨#[]⟩, .string ⟨#[]⟩, .int .i64 0, .int .i64 0, .int .i64 0, .string ⟨#[]⟩, .string ⟨#[]⟩, .int .i64 0, .int .i64 0, .int .i64 0, .string ⟨#[]⟩, .string ⟨#[]⟩, .int .i64 0, .int .i64 0, .int .i64 0, .string ⟨#[]⟩, .string ⟨#[]⟩]) (ds := [_, _, _, _, _, _, _, _, _, _, _, _, _, _, _, _, _, _, _, _]) (wants_plain rfl) rfl rfl Tryd.zeroValue40 Tryd.runUnderlying25 Tryd.sizeOf40 rfl rfl (by kernel_rfl) ⟨rfl, ot, rfl, ot, rfl, ot, rfl, ot, trivial⟩ (by exact rfl) (fill_full (by exact rfl) (by exact rfl) (by exact rfl)) (fun b43 => ?_)
 refine OD.perm (perm_q11 (S1 := [⟨b43, 40, 4 * 5, List.flatMap cO ([idO, litO x, bareOp 7, bareOp 5])⟩]) (A := [_, _, _])) ?_
 refine OD.giveL (t := 43) (Sq := [⟨b43, 40, 4 * 5, List.flatMap cO ([idO, litO x, bareOp 7, bareOp 5])⟩]) lk (ownL_row (g := cO) (sz := 5) (e := 40) (ls := [idO, litO x, bareOp 7, bareOp 5]) (Nat.le_refl _) (show 4 ≤ maxLen by decide)) (fm_len cO_len _) (perm_r11 (A := [_, _, _])) ?_
 refine OD.still (wants_plain rfl) rfl (still_r1 (mk := Op.load 40) rfl ot (by first | exact ld_blks (k := 0) (ds := [_, _, _, _, _]) rfl rfl Tryd.isAgg40 Tryd.sizeOf40 rfl rfl | exact ld_is (ds := [_, _, _, _, _]) Tryd.isAgg40 Tryd.sizeOf40 rfl rfl)) ?_
 refine OD.still (wants_plain rfl) rfl (still_r1 (mk := Op.load 40) rfl ot (by first | exact ld_blks (k := 1) (ds := [_, _, _, _, _]) rfl rfl Tryd.isAgg40 Tryd.sizeOf40 rfl rfl | exact ld_is (ds := [_, _, _, _, _]) Tryd.isAgg40 Tryd.sizeOf40 rfl rfl)) ?_
 refine OD.still (wants_plain rfl) rfl (still_bld (pl := [(0, _)]) (ds := [_, _, _, _, _]) rfl Tryd.zeroValue40 Tryd.runUnderlying40 places40_Exb ⟨rfl, opd_const, trivial⟩ rfl rfl) ?_
 refine OD.still (wants_plain rfl) rfl (still_bld (pl := [(0, _)]) (ds := [_, _, _, _, _]) rfl Tryd.zeroValue40 Tryd.runUnderlying40 places40_Exb ⟨rfl, opd_const, trivial⟩ rfl rfl) ?_
 refine OD.bldS (pl := numD 0 [_, _, _, _]) (zvs := [.int .i64 0, .int .i64 0, .int .i64 0, .string ⟨#[]⟩, .string ⟨#[]⟩, .int .i64 0, .int .i64 0, .int .i64 0, .string ⟨#[]⟩, .string ⟨#[]⟩, .int .i64 0, .int .i64 0, .int .i64 0, .string ⟨#[]⟩, .string ⟨#[]⟩, .int .i64 0, .int .i64 0, .int .i64 0, .string ⟨#[]⟩, .string ⟨#[]⟩]) (ds := [_, _, _, _, _, _, _, _, _, _, _, _, _, _, _, _, _, _, _, _]) (wants_plain rfl) rfl rfl Tryd.zeroValue40 Tryd.runUnderlying25 Tryd.sizeOf40 rfl rfl (by kernel_rfl) ⟨rfl, ot, rfl, ot, rfl, ot, rfl, ot, trivial⟩ (by exact rfl) (fill_full (by exact rfl) (by exact rfl) (by exact rfl)) (fun b48 => ?_)
 refine OD.perm (perm_q11 (S1 := [⟨b48, 40, 4 * 5, List.flatMap cO ([litO x, idO, bareOp 7, bareOp 5])⟩]) (A := [_, _, _])) ?_
 refine OD.giveL (t := 48) (Sq := [⟨b48, 40, 4 * 5, List.flatMap cO ([litO x, idO, bareOp 7, bareOp 5])⟩]) lk (ownL_row (g := cO) (sz := 5) (e := 40) (ls := [litO x, idO, bareOp 7, bareOp 5]) (Nat.le_refl _) (show 4 ≤ maxLen by decide)) (fm_len cO_len _) (perm_r11 (A := [_, _, _])) ?_
 refine OD.still (wants_plain rfl) rfl (still_r1 (mk := Op.load 40) rfl ot (by first | exact ld_blks (k := 1) (ds := [_, _, _, _, _]) rfl rfl Tryd.isAgg40 Tryd.sizeOf40 rfl rfl | exact ld_is (ds := [_, _, _, _, _]) Tryd.isAgg40 Tryd.sizeOf40 rfl rfl)) ?_
 refine OD.still (wants_plain rfl) rfl (still_r1 (mk := Op.load 40) rfl ot (by first | exact ld_blks (k := 0) (ds := [_, _, _, _, _]) rfl rfl Tryd.isAgg40 Tryd.sizeOf40 rfl rfl | exact ld_is (ds := [_, _, _, _, _]) Tryd.isAgg40 Tryd.sizeOf40 rfl rfl)) ?_
 refine OD.still (wants_plain rfl) rfl (still_bld (pl := [(0, _)]) (ds := [_, _, _, _, _]) rfl Tryd.zeroValue40 Tryd.runUnderlying40 places40_Exb ⟨rfl, opd_const, trivial⟩ rfl rfl) ?_
 refine OD.still (wants_plain rfl) rfl (still_bld (pl := [(0, _)]) (ds := [_, _, _, _, _]) rfl Tryd.zeroValue40 Tryd.runUnderlying40 places40_Exb ⟨rfl, opd_const, trivial⟩ rfl rfl) ?_
 refine OD.bldS (pl := numD 0 [_, _, _, _]) (zvs := [.int .i64 0, .int .i64 0, .int .i64 0, .string ⟨#[]⟩, .string ⟨#[]⟩, .int .i64 0, .int .i64 0, .int .i64 0, .string ⟨#[]⟩, .string ⟨#[]⟩, .int .i64 0, .int .i64 0, .int .i64 0, .string ⟨#[]⟩, .string ⟨#[]⟩, .int .i64 0, .int .i64 0, .int .i64 0, .string ⟨#[]⟩, .string ⟨#[]⟩]) (ds := [_, _, _, _, _, _, _, _, _, _, _, _, _, _, _, _, _, _, _, _]) (wants_plain rfl) rfl rfl Tryd.zeroValue40 Tryd.runUnderlying25 Tryd.sizeOf40 rfl rfl (by kernel_rfl) ⟨rfl, ot, rfl, ot, rfl, ot, rfl, ot, trivial⟩ (by exact rfl) (fill_full (by exact rfl) (by exact rfl) (by exact rfl)) (fun b53 => ?_)
 refine OD.perm (perm_q11 (S1 := [⟨b53, 40, 4 * 5, List.flatMap cO ([idO, litO x, bareOp 6, bareOp 5])⟩]) (A := [_, _, _])) ?_
 refine OD.giveL (t := 53) (Sq := [⟨b53, 40, 4 * 5, List.flatMap cO ([idO, litO x, bareOp 6, bareOp 5])⟩]) lk (ownL_row (g := cO) (sz := 5) (e := 40) (ls := [idO, litO x, bareOp 6, bareOp 5]) (Nat.le_refl _) (show 4 ≤ maxLen by decide)) (fm_len cO_len _) (perm_r11 (A := [_, _, _])) ?_
 refine OD.bldS (pl := numD 0 [_, _, _, _, _, _, _]) (zvs := [.slice none 0 0, .slice none 0 0, .slice none 0 0, .slice none 0 0, .slice none 0 0, .slice none 0 0, .slice none 0 0]) (ds := [_, _, _, _, _, _, _]) (wants_plain rfl) rfl rfl Tryd.zeroValue25 Tryd.runUnderlying46 Tryd.sizeOf25 rfl rfl (by kernel_rfl) ⟨rfl, ot, rfl, ot, rfl, ot, rfl, ot, rfl, ot, rfl, ot, rfl, ot, trivial⟩ (by exact rfl) (fill_full (by exact rfl) (by exact rfl) (by exact rfl)) (fun b54 => ?_)
 refine OD.still (wants_plain rfl) rfl (still_as rfl ot) ?_
 refine OD.wk (Wk.as_ (n := 134) (l' := [(1, _), (5, _), (8, _)]) (S' := [⟨b54, 25, 7, [_, _, _, _, _, _, _]⟩, ⟨b7, 40, 5, [_, _, _, _, _]⟩, ⟨b6, 40, 5, [_, _, _, _, _]⟩, ⟨b5, 33, 3, [_, _, _]⟩]) rfl rfl ⟨lk, lk, lk, trivial⟩) ?_
 refine OD.nil ?_
 refine CD.seq ?_
 refine CD.region ?_
 refine OD.still (wants_plain rfl) rfl (still_mv rfl ot) ?_
 refine OD.callP (wants_plain rfl) rfl rfl rfl Tryd.call15 (hpk) ⟨ot, opd_const, trivial⟩ ?_
 refine OD.still (wants_plain rfl) rfl (still_as rfl ot) ?_
 refine OD.wk (Wk.as_ (n := 134) (l' := [(5, _), (8, _), (9, _)]) (S' := [⟨b54, 25, 7, [_, _, _, _, _, _, _]⟩, ⟨b7, 40, 5, [_, _, _, _, _]⟩, ⟨b6, 40, 5, [_, _, _, _, _]⟩, ⟨b5, 33, 3, [_, _, _]⟩]) rfl rfl ⟨lk, lk, lk, trivial⟩) ?_
 refine OD.nil ?_
 refine CD.seq ?_
 refine CD.draw (bks _) (by kernel_rfl) (fun _ h => h) ?_
 refine AD0.take (i := 1) rfl (by kernel_rfl) (by kernel_rfl) (by kernel_rfl) (by repeat (first | exact NP.body | apply NP.then | apply NP.cut | apply NP.inBlock | apply NP.round)) (wants_plain rfl) rfl (still_mv rfl ot) (by exact trivial) ?_
 refine AD0.take (i := 2) rfl (by kernel_rfl) (by kernel_rfl) (by kernel_rfl) (by repeat (first | exact NP.body | apply NP.then | apply NP.cut | apply NP.inBlock | apply NP.round)) (wants_plain rfl) rfl (still_mv rfl ot) (by exact trivial) ?_
 refine AD0.take (i := 3) rfl (by kernel_rfl) (by kernel_rfl) (by kernel_rfl) (by repeat (first | exact NP.body | apply NP.then | apply NP.cut | apply NP.inBlock | apply NP.round)) (wants_plain rfl) rfl (still_r2 (mk := Op.indexAddr 46) rfl ot ot (by first | exact ix_list Tryd.runUnderlying46 Tryd.sizeOf25 (j := 1) rfl (by decide) | exact ix_row Tryd.runUnderlying46 Tryd.sizeOf25 (j := 1) rfl (by decide))) (by exact trivial) ?_
 refine AD0.take (i := 4) rfl (by kernel_rfl) (by kernel_rfl) (by kernel_rfl) (by repeat (first | exact NP.body | apply NP.then | apply NP.cut | apply NP.inBlock | apply NP.round)) (wants_plain rfl) rfl (still_r1 (mk := Op.load 25) rfl ot (by first | exact ld_blk (k := 0) rfl rfl Tryd.isAgg25 rfl | exact ld_blk (k := 1) rfl rfl Tryd.isAgg25 rfl | exact ld_blk (k := 2) rfl rfl Tryd.isAgg25 rfl | exact ld_blk (k := 3) rfl rfl Tryd.isAgg25 rfl | exact ld_i Tryd.isAgg25 rfl)) (by first | exact trivial | exact safe_blk (k0 := 0) rfl rfl | exact safe_blk (k0 := 1) rfl rfl | exact safe_blk (k0 := 2) rfl rfl | exact safe_blk (k0 := 3) rfl rfl) ?_
 refine AD0.later rfl ?_
 refine AD.one (i := 0) (by kernel_rfl) ?_
 refine AStep.callP rfl (wants_plain rfl) rfl rfl rfl Tryd.call10 (colsOf_vp) trivial ?_
 refine AD.one (i := 5) (by kernel_rfl) ?_
 refine AStep.callP rfl (wants_plain rfl) rfl rfl rfl Tryd.call16 (hbv) ⟨ot, ot, trivial⟩ ?_
 refine AD.take (i := 6) rfl (by kernel_rfl) (by kernel_rfl) (by kernel_rfl) (by repeat (first | exact NP.body | apply NP.then | apply NP.cut | apply NP.inBlock | apply NP.round)) (wants_plain rfl) rfl (still_mv rfl ot) (by exact trivial) (by intro h; cases h) ?_
 refine AD.take (i := 7) rfl (by kernel_rfl) (by kernel_rfl) (by kernel_rfl) (by repeat (first | exact NP.body | apply NP.then | apply NP.cut | apply NP.inBlock | apply NP.round)) (wants_plain rfl) rfl (still_extract rfl ot rfl) (by exact trivial) (by intro h; cases h) ?_
 refine AD.take (i := 8) rfl (by kernel_rfl) (by kernel_rfl) (by kernel_rfl) (by repeat (first | exact NP.body | apply NP.then | apply NP.cut | apply NP.inBlock | apply NP.round)) (wants_plain rfl) rfl (still_extract rfl ot rfl) (by exact trivial) (by intro h; cases h) ?_
 refine AD.take (i := 9) rfl (by kernel_rfl) (by kernel_rfl) (by kernel_rfl) (by repeat (first | exact NP.body | apply NP.then | apply NP.cut | apply NP.inBlock | apply NP.round)) (wants_plain rfl) rfl (still_extract rfl ot rfl) (by exact trivial) (by intro h; cases h) ?_
 refine AD.take (i := 10) rfl (by kernel_rfl) (by kernel_rfl) (by kernel_rfl) (by repeat (first | exact NP.body | apply NP.then | apply NP.cut | apply NP.inBlock | apply NP.round)) (wants_plain rfl) rfl (still_as rfl ot) (by exact trivial) (by intro h; cases h) ?_
 refine AD.take (i := 11) rfl (by kernel_rfl) (by kernel_rfl) (by kernel_rfl) (by repeat (first | exact NP.body | apply NP.then | apply NP.cut | apply NP.inBlock | apply NP.round)) (wants_plain rfl) rfl (still_as rfl ot) (by exact trivial) (by intro h; cases h) ?_
 refine AD.take (i := 12) rfl (by kernel_rfl) (by kernel_rfl) (by kernel_rfl) (by repeat (first | exact NP.body | apply NP.then | apply NP.cut | apply NP.inBlock | apply NP.round)) (wants_plain rfl) rfl (still_as rfl ot) (by exact trivial) (by intro h; cases h) ?_
 refine AD.wk (y := ⟨134, [(5, _), (9, _), (10, _), (11, _), (12, _)], [⟨b54, 25, 7, [_, _, _, _, _, _, _]⟩, ⟨b7, 40, 5, [_, _, _, _, _]⟩, ⟨b6, 40, 5, [_, _, _, _, _]⟩, ⟨b5, 33, 3, [_, _, _]⟩]⟩) (Wk.as_ rfl rfl ⟨lk, lk, lk, lk, lk, trivial⟩) rfl ?_
 refine AD.done (by kernel_rfl) ?_
 refine CD.seq ?_
 refine CD.region ?_
 refine OD.still (wants_plain rfl) rfl (still_r1 (mk := Op.load 33) rfl ot (by first | exact ld_blks (k := 3) (ds := [_, _, _]) rfl rfl Tryd.isAgg33 Tryd.sizeOf33 rfl rfl | exact ld_is (ds := [_, _, _]) Tryd.isAgg33 Tryd.sizeOf33 rfl rfl)) ?_
 refine OD.bldS (pl := numD 0 [_]) (zvs := [.int .i64 0, .int .i64 0, .string ⟨#[]⟩]) (ds := [_, _, _]) (wants_plain rfl) rfl rfl Tryd.zeroValue33 Tryd.runUnderlying36 Tryd.sizeOf33 rfl rfl (by kernel_rfl) ⟨rfl, ot, trivial⟩ (by exact rfl) (fill_full (by exact rfl) (by exact rfl) (by exact rfl)) (fun b69 => ?_)
 refine OD.perm (perm_q11 (S1 := [⟨b69, 33, 1 * 3, List.flatMap cV ([numV x])⟩]) (A := [_, _, _, _])) ?_
 refine OD.giveL (t := 69) (Sq := [⟨b69, 33, 1 * 3, List.flatMap cV ([numV x])⟩]) lk (ownL_row (g := cV) (sz := 3) (e := 33) (ls := [numV x]) (Nat.le_refl _) (show 1 ≤ maxLen by decide)) (fm_len cV_len _) (perm_r11 (A := [_, _, _, _])) ?_
 refine OD.callP (wants_plain rfl) rfl rfl rfl Tryd.call17 (hev) ⟨ot, trivial⟩ ?_
 refine OD.still (wants_plain rfl) rfl (still_mv rfl ot) ?_
 refine OD.still (wants_plain rfl) rfl (still_extract rfl ot rfl) ?_
 refine OD.still (wants_plain rfl) rfl (still_extract rfl ot rfl) ?_
 refine OD.still (wants_plain rfl) rfl (still_as rfl ot) ?_
 refine OD.still (wants_plain rfl) rfl (still_as rfl ot) ?_
 refine OD.wk (Wk.as_ (n := 134) (l' := [(9, _), (10, _), (11, _), (12, _), (13, _), (14, _)]) (S' := [⟨b54, 25, 7, [_, _, _, _, _, _, _]⟩, ⟨b7, 40, 5, [_, _, _, _, _]⟩, ⟨b6, 40, 5, [_, _, _, _, _]⟩, ⟨b5, 33, 3, [_, _, _]⟩]) rfl rfl ⟨lk, lk, lk, lk, lk, lk, trivial⟩) ?_
 refine OD.nil ?_
 refine CD.seq ?_
 refine CD.region ?_
 refine OD.still (wants_plain rfl) rfl (still_mv rfl ot) ?_
 refine OD.still (wants_plain rfl) rfl (still_bin rfl ot opd_const bin_lss) ?_
 refine OD.still (wants_plain rfl) rfl (still_mv rfl ot) ?_
 refine OD.split (t := 75) lk (fun hg75 => ?_) (fun hg75 => ?_)
 ·have hg75' := hg75; (try simp only [V.cnd, ne_eq] at hg75')
  refine OD.skip (wants_F rfl rfl rfl lk (by first | rfl | assumption)) rfl ?_
  refine OD.skip (wants_F rfl rfl rfl lk (by first | rfl | assumption)) rfl ?_
  refine OD.still (wants_plain rfl) rfl (still_pickT rfl ot (by first | rfl | assumption) opd_const) ?_
  refine OD.still (wants_plain rfl) rfl (still_mv rfl ot) ?_
  refine OD.skip (wants_F rfl rfl rfl lk (by first | rfl | assumption)) rfl ?_
  refine OD.skip (wants_F rfl rfl rfl lk (by first | rfl | assumption)) rfl ?_
  refine OD.still (wants_plain rfl) rfl (still_pickT rfl ot (by first | rfl | assumption) opd_const) ?_
  refine OD.still (wants_plain rfl) rfl (still_as rfl ot) ?_
  refine OD.wk (Wk.as_ (n := 134) (l' := [(9, _), (10, _), (11, _), (12, _), (13, _), (14, _), (15, _)]) (S' := [⟨b54, 25, 7, [_, _, _, _, _, _, _]⟩, ⟨b7, 40, 5, [_, _, _, _, _]⟩, ⟨b6, 40, 5, [_, _, _, _, _]⟩, ⟨b5, 33, 3, [_, _, _]⟩]) rfl rfl ⟨lk, lk, lk, lk, lk, lk, lk, trivial⟩) ?_
  refine OD.nil ?_
  refine CD.seq ?_
  refine CD.region ?_
  refine OD.still (wants_plain rfl) rfl (still_mv rfl ot) ?_
  refine OD.still (wants_plain rfl) rfl (still_bin rfl ot opd_const bin_lss) ?_
  refine OD.still (wants_plain rfl) rfl (still_mv rfl ot) ?_
  refine OD.split (t := 85) lk (fun hg85 => ?_) (fun hg85 => ?_)
  ·have hg85' := hg85; (try simp only [V.cnd, ne_eq] at hg85')
   refine OD.skip (wants_F rfl rfl rfl lk (by first | rfl | assumption)) rfl ?_
   refine OD.skip (wants_F rfl rfl rfl lk (by first | rfl | assumption)) rfl ?_
   refine OD.still (wants_plain rfl) rfl (still_pickT rfl ot (by first | rfl | assumption) opd_const) ?_
   refine OD.still (wants_plain rfl) rfl (still_as rfl ot) ?_
   refine OD.wk (Wk.as_ (n := 134) (l' := [(10, _), (11, _), (12, _), (13, _), (14, _), (15, _), (16, _)]) (S' := [⟨b54, 25, 7, [_, _, _, _, _, _, _]⟩, ⟨b7, 40, 5, [_, _, _, _, _]⟩, ⟨b6, 40, 5, [_, _, _, _, _]⟩, ⟨b5, 33, 3, [_, _, _]⟩]) rfl rfl ⟨lk, lk, lk, lk, lk, lk, lk, trivial⟩) ?_
   refine OD.nil ?_
   refine CD.seq ?_
   refine CD.seq ?_
   refine CD.region ?_
   refine OD.still (wants_plain rfl) rfl (still_mv rfl ot) ?_
   refine OD.still (wants_plain rfl) rfl (still_bin rfl ot opd_const bin_neq) ?_
   refine OD.still (wants_plain rfl) rfl (still_mv rfl ot) ?_
   refine OD.split (t := 91) lk (fun hg91 => ?_) (fun hg91 => ?_)
   ·exact absurd hg91 (by simp)
   ·have hg91' := hg91; (try simp only [V.cnd, ne_eq] at hg91')
    refine OD.still (wants_T rfl rfl rfl lk (by first | rfl | assumption)) rfl (still_mv rfl ot) ?_
    refine OD.still (wants_T rfl rfl rfl lk (by first | rfl | assumption)) rfl (still_bin rfl ot opd_const bin_neq) ?_
    refine OD.still (wants_plain rfl) rfl (still_pickF rfl ot (by first | rfl | assumption) ot) ?_
    refine OD.still (wants_plain rfl) rfl (still_mv rfl ot) ?_
    refine OD.split (t := 95) lk (fun hg95 => ?_) (fun hg95 => ?_)
    ·exact absurd hg95 (by simp)
    ·have hg95' := hg95; (try simp only [V.cnd, ne_eq] at hg95')
     refine OD.still (wants_T rfl rfl rfl lk (by first | rfl | assumption)) rfl (still_mv rfl ot) ?_
     refine OD.still (wants_T rfl rfl rfl lk (by first | rfl | assumption)) rfl (still_r1 (mk := fun y => .call { callee := .builtin .len, args := #[y], argTypes := #[47] }) rfl ot (by first | exact len_list rfl Tryd.runUnderlying47 | exact len_row rfl Tryd.runUnderlying47)) ?_
     refine OD.still (wants_T rfl rfl rfl lk (by first | rfl | assumption)) rfl (still_bin rfl ot opd_const bin_eql) ?_
     refine OD.still (wants_plain rfl) rfl (still_pickF rfl ot (by first | rfl | assumption) ot) ?_
     refine OD.wk (Wk.as_ (n := 134) (l' := [(10, _), (11, _), (13, _), (15, _), (16, _), (99, _)]) (S' := [⟨b54, 25, 7, [_, _, _, _, _, _, _]⟩, ⟨b7, 40, 5, [_, _, _, _, _]⟩, ⟨b6, 40, 5, [_, _, _, _, _]⟩, ⟨b5, 33, 3, [_, _, _]⟩]) rfl rfl ⟨lk, lk, lk, lk, lk, lk, trivial⟩) ?_
     refine OD.nil ?_
     refine CD.cond ot (fun hc0 => ?_) (fun hc0 => ?_)
     ·exact absurd hc0 (by rw [hkl]; decide)
     ·have hc0' := hc0
      (try simp only [V.cnd, ne_eq] at hc0')
      refine CD.skip ?_
      refine CD.seq ?_
      refine CD.seq ?_
      refine CD.region ?_
      refine OD.still (wants_plain rfl) rfl (still_mv rfl ot) ?_
      refine OD.still (wants_plain rfl) rfl (still_mv rfl ot) ?_
      refine OD.still (wants_T rfl rfl rfl lk (by first | rfl | assumption)) rfl (still_mv rfl ot) ?_
      first | refine OD.still (wants_T rfl rfl rfl lk (by first | rfl | assumption)) rfl (still_ofBytes rfl ot Tryd.underlying47 Tryd.underlying5 Tryd.underlying9) ?_ | refine OD.still (wants_T rfl rfl rfl lk (by first | rfl | assumption)) rfl (still_ofBytesF rfl ot Tryd.underlying47 Tryd.underlying5 Tryd.underlying9) ?_
      refine OD.still (wants_T rfl rfl rfl lk (by first | rfl | assumption)) rfl (still_mv rfl ot) ?_
      first | refine OD.still (wants_T rfl rfl rfl lk (by first | rfl | assumption)) rfl (still_ofBytes rfl ot Tryd.underlying47 Tryd.underlying5 Tryd.underlying9) ?_ | refine OD.still (wants_T rfl rfl rfl lk (by first | rfl | assumption)) rfl (still_ofBytesF rfl ot Tryd.underlying47 Tryd.underlying5 Tryd.underlying9) ?_
      refine OD.still (wants_T rfl rfl rfl lk (by first | rfl | assumption)) rfl (still_bin rfl ot ot bin_sneq) ?_
      refine OD.still (wants_plain rfl) rfl (still_pickT rfl ot (by first | rfl | assumption) ot) ?_
      refine OD.still (wants_plain rfl) rfl (still_mv rfl ot) ?_
      refine OD.split (t := 108) lk (fun hg108 => ?_) (fun hg108 => ?_)
      ·exact absurd hg108 (by simp)
      ·have hg108' := hg108; (try simp only [V.cnd, ne_eq] at hg108')
       refine OD.still (wants_T rfl rfl rfl lk (by first | rfl | assumption)) rfl (still_mv rfl ot) ?_
       refine OD.still (wants_T rfl rfl rfl lk (by first | rfl | assumption)) rfl (still_un rfl ot un_not) ?_
       refine OD.still (wants_T rfl rfl rfl lk (by first | rfl | assumption)) rfl (still_mv rfl ot) ?_
       refine OD.skip (wants_F rfl rfl rfl lk (by first | rfl | assumption)) rfl ?_
       refine OD.skip (wants_F rfl rfl rfl lk (by first | rfl | assumption)) rfl ?_
       refine OD.skip (wants_F rfl rfl rfl lk (by first | rfl | assumption)) rfl ?_
       refine OD.still (wants_T rfl rfl rfl lk (by first | rfl | assumption)) rfl (still_pickF rfl ot (by first | rfl | assumption) opd_const) ?_
       refine OD.still (wants_plain rfl) rfl (still_pickF rfl ot (by first | rfl | assumption) ot) ?_
       refine OD.wk (Wk.as_ (n := 134) (l' := [(11, _), (13, _), (16, _), (116, _)]) (S' := [⟨b54, 25, 7, [_, _, _, _, _, _, _]⟩, ⟨b7, 40, 5, [_, _, _, _, _]⟩, ⟨b6, 40, 5, [_, _, _, _, _]⟩, ⟨b5, 33, 3, [_, _, _]⟩]) rfl rfl ⟨lk, lk, lk, lk, trivial⟩) ?_
       refine OD.nil ?_
       refine CD.condF ot (by first | rfl | assumption) ?_
       refine CD.skip ?_
       refine CD.seq ?_
       refine CD.region ?_
       refine OD.still (wants_plain rfl) rfl (still_mv rfl ot) ?_
       refine OD.still (wants_plain rfl) rfl (still_mv rfl ot) ?_
       refine OD.still (wants_T rfl rfl rfl lk (by first | rfl | assumption)) rfl (still_mv rfl ot) ?_
       first | refine OD.still (wants_T rfl rfl rfl lk (by first | rfl | assumption)) rfl (still_ofBytes rfl ot Tryd.underlying47 Tryd.underlying5 Tryd.underlying9) ?_ | refine OD.still (wants_T rfl rfl rfl lk (by first | rfl | assumption)) rfl (still_ofBytesF rfl ot Tryd.underlying47 Tryd.underlying5 Tryd.underlying9) ?_
       refine OD.still (wants_T rfl rfl rfl lk (by first | rfl | assumption)) rfl (still_mv rfl ot) ?_
       first | refine OD.still (wants_T rfl rfl rfl lk (by first | rfl | assumption)) rfl (still_ofBytes rfl ot Tryd.underlying47 Tryd.underlying5 Tryd.underlying9) ?_ | refine OD.still (wants_T rfl rfl rfl lk (by first | rfl | assumption)) rfl (still_ofBytesF rfl ot Tryd.underlying47 Tryd.underlying5 Tryd.underlying9) ?_
       refine OD.still (wants_T rfl rfl rfl lk (by first | rfl | assumption)) rfl (still_bin rfl ot ot bin_seql) ?_
       refine OD.still (wants_plain rfl) rfl (still_pickT rfl ot (by first | rfl | assumption) ot) ?_
       refine OD.still (wants_plain rfl) rfl (still_mv rfl ot) ?_
       refine OD.split (t := 125) lk (fun hg125 => ?_) (fun hg125 => ?_)
       ·have hg125' := hg125; (try simp only [V.cnd, ne_eq] at hg125')
        refine OD.skip (wants_F rfl rfl rfl lk (by first | rfl | assumption)) rfl ?_
        refine OD.skip (wants_F rfl rfl rfl lk (by first | rfl | assumption)) rfl ?_
        refine OD.skip (wants_F rfl rfl rfl lk (by first | rfl | assumption)) rfl ?_
        refine OD.skip (wants_J (b := false) rfl rfl rfl lk) rfl ?_
        refine OD.skip (wants_J (b := false) rfl rfl rfl lk) rfl ?_
        refine OD.skip (wants_J (b := false) rfl rfl rfl lk) rfl ?_
        refine OD.skip (wants_F rfl rfl rfl lk (by first | rfl | assumption)) rfl ?_
        refine OD.still (wants_plain rfl) rfl (still_pickT rfl ot (by first | rfl | assumption) opd_const) ?_
        refine OD.still (wants_plain rfl) rfl (still_as rfl ot) ?_
        refine OD.wk (Wk.as_ (n := 134) (l' := [(4, _)]) (S' := [⟨b54, 25, 7, [_, _, _, _, _, _, _]⟩, ⟨b7, 40, 5, [_, _, _, _, _]⟩, ⟨b6, 40, 5, [_, _, _, _, _]⟩, ⟨b5, 33, 3, [_, _, _]⟩]) rfl rfl ⟨lk, trivial⟩) ?_
        refine OD.nil ?_
        refine CD.ret ?_
        refine ⟨.inr rfl, _, [], List.nil_sublist _, ret_one Tryd.results5 (res_tmp (Nat.le_of_ble_eq_true rfl) lk), ?_⟩
        first | exact ⟨rfl, rfl⟩ | (refine ⟨vb ?_, rfl⟩; simp)
       ·exact absurd hg125 (by simp)
  ·exact absurd hg85 (by decide)
 ·exact absurd hg75 (by decide)

set_option maxHeartbeats 4000000 in
set_option maxRecDepth 100000 in
theorem one2_vp {m : Int} (hm : (3, marksC) ∈ G) (hw : (0, wordsC) ∈ G) (ht : (2, typesC) ∈ G) (hG : (1, [Value.int .i64 m]) ∈ G) (n : Int) (n1 : -9223372036854775808 ≤ n) (n2 : n ≤ 9223372036854775807) (form : Int) (form1 : -9223372036854775808 ≤ form) (form2 : form ≤ 9223372036854775807) (hk : pickedF form 7 = 2) : VP Tryd.prog G 5 [.v (.int .i64 n), .v (.int .i64 form)] (.v (.bool true)) := by
 refine VC.body Tryd.func5 rfl Tryd.ntmps5 (Nat.le_of_ble_eq_true rfl) fun X0 w0 S00 => ?_
 have hxb := pickedF_bd n (show (1 : Int) ≤ 1000 by decide)
 have hbv := Bounds_at hm hw ht hG [idO, litO (pickedF n 1000), bareOp 7] (fine_cons fine_id (fine_cons (fine_lit (by omega) (by omega)) (fine_cons (fine_bare 7) fine_nil)))
 rw [one2 hxb.1] at hbv
 unfold bdD bytesL at hbv
 have hev := enc_at hm hw ht hG (pickedF n 1000) hxb.1 (by omega)
 have hkl := key_len (pickedF n 1000)
 have hpn := (picked_vp G n 1000 n1 n2 (by decide))
 have hpk := (picked_vp G form 7 form1 form2 (by decide))
 rw [hk] at hpk
 skip
 generalize (pickedF n 1000) = x at *
 refine CD.seq ?_
 refine CD.region ?_
 refine OD.still (wants_plain rfl) rfl (still_as rfl opd_const) ?_
 refine OD.wk (Wk.as_ (n := 134) (l' := [(0, _), (1, _)]) (S' := []) rfl rfl ⟨lk, lk, trivial⟩) ?_
 refine OD.nil ?_
 refine CD.seq ?_
 refine CD.region ?_
 refine OD.still (wants_plain rfl) rfl (still_mv rfl ot) ?_
 refine OD.callP (wants_plain rfl) rfl rfl rfl Tryd.call15 (hpn) ⟨ot, opd_const, trivial⟩ ?_
 refine OD.still (wants_plain rfl) rfl (still_bld (pl := [(0, _), (1, _)]) (ds := [_, _, _]) rfl Tryd.zeroValue33 Tryd.runUnderlying33 places33_Exb ⟨rfl, opd_const, rfl, ot, trivial⟩ rfl rfl) ?_
 refine OD.alloc (ds := [_, _, _]) (wants_plain rfl) rfl rfl Tryd.zeroValue33 rfl (fun b5 => ?_)
 refine OD.store (k := 0) (cs' := [_, _, _]) (wants_plain rfl) rfl rfl ot rfl rfl ot rfl rfl Tryd.sizeOf33 rfl rfl rfl ?_
 refine OD.wk (Wk.as_ (n := 134) (l' := [(1, _), (5, _)]) (S' := [⟨b5, 33, 3, [_, _, _]⟩]) rfl rfl ⟨lk, lk, trivial⟩) ?_
 refine OD.nil ?_
 refine CD.seq ?_
 refine CD.region ?_
 refine OD.still (wants_plain rfl) rfl (still_bld (pl := [(0, _), (2, _)]) (ds := [_, _, _, _, _]) rfl Tryd.zeroValue40 Tryd.runUnderlying40 places40_Exb ⟨rfl, opd_const, rfl, opd_const, trivial⟩ rfl rfl) ?_
 refine OD.alloc (ds := [_, _, _, _, _]) (wants_plain rfl) rfl rfl Tryd.zeroValue40 rfl (fun b6 => ?_)
 refine OD.store (k := 0) (cs' := [_, _, _, _, _]) (wants_plain rfl) rfl rfl ot rfl rfl ot rfl rfl Tryd.sizeOf40 rfl rfl rfl ?_
 refine OD.wk (Wk.as_ (n := 134) (l' := [(1, _), (5, _), (6, _)]) (S' := [⟨b6, 40, 5, [_, _, _, _, _]⟩, ⟨b5, 33, 3, [_, _, _]⟩]) rfl rfl ⟨lk, lk, lk, trivial⟩) ?_
 refine OD.nil ?_
 refine CD.seq ?_
 refine CD.region ?_
 refine OD.still (wants_plain rfl) rfl (still_r1 (mk := Op.load 33) rfl ot (by first | exact ld_blks (k := 1) (ds := [_, _, _]) rfl rfl Tryd.isAgg33 Tryd.sizeOf33 rfl rfl | exact ld_is (ds := [_, _, _]) Tryd.isAgg33 Tryd.sizeOf33 rfl rfl)) ?_
 refine OD.still (wants_plain rfl) rfl (still_bld (pl := [(0, _), (1, _)]) (ds := [_, _, _, _, _]) rfl Tryd.zeroValue40 Tryd.runUnderlying40 places40_Exb ⟨rfl, opd_const, rfl, ot, trivial⟩ rfl rfl) ?_
 refine OD.alloc (ds := [_, _, _, _, _]) (wants_plain rfl) rfl rfl Tryd.zeroValue40 rfl (fun b7 => ?_)
 refine OD.store (k := 0) (cs' := [_, _, _, _, _]) (wants_plain rfl) rfl rfl ot rfl rfl ot rfl rfl Tryd.sizeOf40 rfl rfl rfl ?_
 refine OD.wk (Wk.as_ (n := 134) (l' := [(1, _), (5, _), (6, _), (7, _)]) (S' := [⟨b7, 40, 5, [_, _, _, _, _]⟩, ⟨b6, 40, 5, [_, _, _, _, _]⟩, ⟨b5, 33, 3, [_, _, _]⟩]) rfl rfl ⟨lk, lk, lk, lk, trivial⟩) ?_
 refine OD.nil ?_
 refine CD.seq ?_
 refine CD.region ?_
 refine OD.still (wants_plain rfl) rfl (still_r1 (mk := Op.load 40) rfl ot (by first | exact ld_blks (k := 1) (ds := [_, _, _, _, _]) rfl rfl Tryd.isAgg40 Tryd.sizeOf40 rfl rfl | exact ld_is (ds := [_, _, _, _, _]) Tryd.isAgg40 Tryd.sizeOf40 rfl rfl)) ?_
 refine OD.still (wants_plain rfl) rfl (still_r1 (mk := Op.load 40) rfl ot (by first | exact ld_blks (k := 0) (ds := [_, _, _, _, _]) rfl rfl Tryd.isAgg40 Tryd.sizeOf40 rfl rfl | exact ld_is (ds := [_, _, _, _, _]) Tryd.isAgg40 Tryd.sizeOf40 rfl rfl)) ?_
 refine OD.still (wants_plain rfl) rfl (still_bld (pl := [(0, _)]) (ds := [_, _, _, _, _]) rfl Tryd.zeroValue40 Tryd.runUnderlying40 places40_Exb ⟨rfl, opd_const, trivial⟩ rfl rfl) ?_
 refine OD.bldS (pl := numD 0 [_, _, _]) (zvs := [.int .i64 0, .int .i64 0, .int .i64 0, .string ⟨#[]⟩, .string ⟨#[]⟩, .int .i64 0, .int .i64 0, .int .i64 0, .string ⟨#[]⟩, .string ⟨#[]⟩, .int .i64 0, .int .i64 0, .int .i64 0, .string ⟨#[]⟩, .string ⟨#[]⟩]) (ds := [_, _, _, _, _, _, _, _, _, _, _, _, _, _, _]) (wants_plain rfl) rfl rfl Tryd.zeroValue40 Tryd.runUnderlying25 Tryd.sizeOf40 rfl rfl (by kernel_rfl) ⟨rfl, ot, rfl, ot, rfl, ot, trivial⟩ (by exact rfl) (fill_full (by exact rfl) (by exact rfl) (by exact rfl)) (fun b26 => ?_)
 refine OD.perm (perm_q11 (S1 := [⟨b26, 40, 3 * 5, List.flatMap cO ([idO, litO x, bareOp 6])⟩]) (A := [_, _, _])) ?_
 refine OD.giveL (t := 26) (Sq := [⟨b26, 40, 3 * 5, List.flatMap cO ([idO, litO x, bareOp 6])⟩]) lk (ownL_row (g := cO) (sz := 5) (e := 40) (ls := [idO, litO x, bareOp 6]) (Nat.le_refl _) (show 3 ≤ maxLen by decide)) (fm_len cO_len _) (perm_r11 (A := [_, _, _])) ?_
 refine OD.still (wants_plain rfl) rfl (still_r1 (mk := Op.load 40) rfl ot (by first | exact ld_blks (k := 0) (ds := [_, _, _, _, _]) rfl rfl Tryd.isAgg40 Tryd.sizeOf40 rfl rfl | exact ld_is (ds := [_, _, _, _, _]) Tryd.isAgg40 Tryd.sizeOf40 rfl rfl)) ?_
 refine OD.still (wants_plain rfl) rfl (still_r1 (mk := Op.load 40) rfl ot (by first | exact ld_blks (k := 1) (ds := [_, _, _, _, _]) rfl rfl Tryd.isAgg40 Tryd.sizeOf40 rfl rfl | exact ld_is (ds := [_, _, _, _, _]) Tryd.isAgg40 Tryd.sizeOf40 rfl rfl)) ?_
 refine OD.still (wants_plain rfl) rfl (still_bld (pl := [(0, _)]) (ds := [_, _, _, _, _]) rfl Tryd.zeroValue40 Tryd.runUnderlying40 places40_Exb ⟨rfl, opd_const, trivial⟩ rfl rfl) ?_
 refine OD.bldS (pl := numD 0 [_, _, _]) (zvs := [.int .i64 0, .int .i64 0, .int .i64 0, .string ⟨#[]⟩, .string ⟨#[]⟩, .int .i64 0, .int .i64 0, .int .i64 0, .string ⟨#[]⟩, .string ⟨#[]⟩, .int .i64 0, .int .i64 0, .int .i64 0, .string ⟨#[]⟩, .string ⟨#[]⟩]) (ds := [_, _, _, _, _, _, _, _, _, _, _, _, _, _, _]) (wants_plain rfl) rfl rfl Tryd.zeroValue40 Tryd.runUnderlying25 Tryd.sizeOf40 rfl rfl (by kernel_rfl) ⟨rfl, ot, rfl, ot, rfl, ot, trivial⟩ (by exact rfl) (fill_full (by exact rfl) (by exact rfl) (by exact rfl)) (fun b30 => ?_)
 refine OD.perm (perm_q11 (S1 := [⟨b30, 40, 3 * 5, List.flatMap cO ([litO x, idO, bareOp 6])⟩]) (A := [_, _, _])) ?_
 refine OD.giveL (t := 30) (Sq := [⟨b30, 40, 3 * 5, List.flatMap cO ([litO x, idO, bareOp 6])⟩]) lk (ownL_row (g := cO) (sz := 5) (e := 40) (ls := [litO x, idO, bareOp 6]) (Nat.le_refl _) (show 3 ≤ maxLen by decide)) (fm_len cO_len _) (perm_r11 (A := [_, _, _])) ?_
 refine OD.still (wants_plain rfl) rfl (still_r1 (mk := Op.load 40) rfl ot (by first | exact ld_blks (k := 1) (ds := [_, _, _, _, _]) rfl rfl Tryd.isAgg40 Tryd.sizeOf40 rfl rfl | exact ld_is (ds := [_, _, _, _, _]) Tryd.isAgg40 Tryd.sizeOf40 rfl rfl)) ?_
 refine OD.still (wants_plain rfl) rfl (still_r1 (mk := Op.load 40) rfl ot (by first | exact ld_blks (k := 0) (ds := [_, _, _, _, _]) rfl rfl Tryd.isAgg40 Tryd.sizeOf40 rfl rfl | exact ld_is (ds := [_, _, _, _, _]) Tryd.isAgg40 Tryd.sizeOf40 rfl rfl)) ?_
 refine OD.still (wants_plain rfl) rfl (still_bld (pl := [(0, _)]) (ds := [_, _, _, _, _]) rfl Tryd.zeroValue40 Tryd.runUnderlying40 places40_Exb ⟨rfl, opd_const, trivial⟩ rfl rfl) ?_
 refine OD.bldS (pl := numD 0 [_, _, _]) (zvs := [.int .i64 0, .int .i64 0, .int .i64 0, .string ⟨#[]⟩, .string ⟨#[]⟩, .int .i64 0, .int .i64 0, .int .i64 0, .string ⟨#[]⟩, .string ⟨#[]⟩, .int .i64 0, .int .i64 0, .int .i64 0, .string ⟨#[]⟩, .string ⟨#[]⟩]) (ds := [_, _, _, _, _, _, _, _, _, _, _, _, _, _, _]) (wants_plain rfl) rfl rfl Tryd.zeroValue40 Tryd.runUnderlying25 Tryd.sizeOf40 rfl rfl (by kernel_rfl) ⟨rfl, ot, rfl, ot, rfl, ot, trivial⟩ (by exact rfl) (fill_full (by exact rfl) (by exact rfl) (by exact rfl)) (fun b34 => ?_)
 refine OD.perm (perm_q11 (S1 := [⟨b34, 40, 3 * 5, List.flatMap cO ([idO, litO x, bareOp 7])⟩]) (A := [_, _, _])) ?_
 refine OD.giveL (t := 34) (Sq := [⟨b34, 40, 3 * 5, List.flatMap cO ([idO, litO x, bareOp 7])⟩]) lk (ownL_row (g := cO) (sz := 5) (e := 40) (ls := [idO, litO x, bareOp 7]) (Nat.le_refl _) (show 3 ≤ maxLen by decide)) (fm_len cO_len _) (perm_r11 (A := [_, _, _])) ?_
 refine OD.still (wants_plain rfl) rfl (still_r1 (mk := Op.load 40) rfl ot (by first | exact ld_blks (k := 0) (ds := [_, _, _, _, _]) rfl rfl Tryd.isAgg40 Tryd.sizeOf40 rfl rfl | exact ld_is (ds := [_, _, _, _, _]) Tryd.isAgg40 Tryd.sizeOf40 rfl rfl)) ?_
 refine OD.still (wants_plain rfl) rfl (still_r1 (mk := Op.load 40) rfl ot (by first | exact ld_blks (k := 1) (ds := [_, _, _, _, _]) rfl rfl Tryd.isAgg40 Tryd.sizeOf40 rfl rfl | exact ld_is (ds := [_, _, _, _, _]) Tryd.isAgg40 Tryd.sizeOf40 rfl rfl)) ?_
 refine OD.still (wants_plain rfl) rfl (still_bld (pl := [(0, _)]) (ds := [_, _, _, _, _]) rfl Tryd.zeroValue40 Tryd.runUnderlying40 places40_Exb ⟨rfl, opd_const, trivial⟩ rfl rfl) ?_
 refine OD.bldS (pl := numD 0 [_, _, _]) (zvs := [.int .i64 0, .int .i64 0, .int .i64 0, .string ⟨#[]⟩, .string ⟨#[]⟩, .int .i64 0, .int .i64 0, .int .i64 0, .string ⟨#[]⟩, .string ⟨#[]⟩, .int .i64 0, .int .i64 0, .int .i64 0, .string ⟨#[]⟩, .string ⟨#[]⟩]) (ds := [_, _, _, _, _, _, _, _, _, _, _, _, _, _, _]) (wants_plain rfl) rfl rfl Tryd.zeroValue40 Tryd.runUnderlying25 Tryd.sizeOf40 rfl rfl (by kernel_rfl) ⟨rfl, ot, rfl, ot, rfl, ot, trivial⟩ (by exact rfl) (fill_full (by exact rfl) (by exact rfl) (by exact rfl)) (fun b38 => ?_)
 refine OD.perm (perm_q11 (S1 := [⟨b38, 40, 3 * 5, List.flatMap cO ([litO x, idO, bareOp 7])⟩]) (A := [_, _, _])) ?_
 refine OD.giveL (t := 38) (Sq := [⟨b38, 40, 3 * 5, List.flatMap cO ([litO x, idO, bareOp 7])⟩]) lk (ownL_row (g := cO) (sz := 5) (e := 40) (ls := [litO x, idO, bareOp 7]) (Nat.le_refl _) (show 3 ≤ maxLen by decide)) (fm_len cO_len _) (perm_r11 (A := [_, _, _])) ?_
 refine OD.still (wants_plain rfl) rfl (still_r1 (mk := Op.load 40) rfl ot (by first | exact ld_blks (k := 1) (ds := [_, _, _, _, _]) rfl rfl Tryd.isAgg40 Tryd.sizeOf40 rfl rfl | exact ld_is (ds := [_, _, _, _, _]) Tryd.isAgg40 Tryd.sizeOf40 rfl rfl)) ?_
 refine OD.still (wants_plain rfl) rfl (still_r1 (mk := Op.load 40) rfl ot (by first | exact ld_blks (k := 0) (ds := [_, _, _, _, _]) rfl rfl Tryd.isAgg40 Tryd.sizeOf40 rfl rfl | exact ld_is (ds := [_, _, _, _, _]) Tryd.isAgg40 Tryd.sizeOf40 rfl rfl)) ?_
 refine OD.still (wants_plain rfl) rfl (still_bld (pl := [(0, _)]) (ds := [_, _, _, _, _]) rfl Tryd.zeroValue40 Tryd.runUnderlying40 places40_Exb ⟨rfl, opd_const, trivial⟩ rfl rfl) ?_
 refine OD.still (wants_plain rfl) rfl (still_bld (pl := [(0, _)]) (ds := [_, _, _, _, _]) rfl Tryd.zeroValue40 Tryd.runUnderlying40 places40_Exb ⟨rfl, opd_const, trivial⟩ rfl rfl) ?_
 refine OD.bldS (pl := numD 0 [_, _, _, _]) (zvs := [.int .i64 0, .int .i64 0, .int .i64 0, .string ⟨#[]⟩, .string ⟨#[]⟩, .int .i64 0, .int .i64 0, .int .i64 0, .string ⟨#[]⟩, .string ⟨#[]⟩, .int .i64 0, .int .i64 0, .int .i64 0, .string ⟨#[]⟩, .string ⟨#[]⟩, .int .i64 0, .int .i64 0, .int .i64 0, .string ⟨#[]⟩, .string ⟨#[]⟩]) (ds := [_, _, _, _, _, _, _, _, _, _, _, _, _, _, _, _, _, _, _, _]) (wants_plain rfl) rfl rfl Tryd.zeroValue40 Tryd.runUnderlying25 Tryd.sizeOf40 rfl rfl (by kernel_rfl) ⟨rfl, ot, rfl, ot, rfl, ot, rfl, ot, trivial⟩ (by exact rfl) (fill_full (by exact rfl) (by exact rfl) (by exact rfl)) (fun b43 => ?_)
 refine OD.perm (perm_q11 (S1 := [⟨b43, 40, 4 * 5, List.flatMap cO ([idO, litO x, bareOp 7, bareOp 5])⟩]) (A := [_, _, _])) ?_
 refine OD.giveL (t := 43) (Sq := [⟨b43, 40, 4 * 5, List.flatMap cO ([idO, litO x, bareOp 7, bareOp 5])⟩]) lk (ownL_row (g := cO) (sz := 5) (e := 40) (ls := [idO, litO x, bareOp 7, bareOp 5]) (Nat.le_refl _) (show 4 ≤ maxLen by decide)) (fm_len cO_len _) (perm_r11 (A := [_, _, _])) ?_
 refine OD.still (wants_plain rfl) rfl (still_r1 (mk := Op.load 40) rfl ot (by first | exact ld_blks (k := 0) (ds := [_, _, _, _, _]) rfl rfl Tryd.isAgg40 Tryd.sizeOf40 rfl rfl | exact ld_is (ds := [_, _, _, _, _]) Tryd.isAgg40 Tryd.sizeOf40 rfl rfl)) ?_
 refine OD.still (wants_plain rfl) rfl (still_r1 (mk := Op.load 40) rfl ot (by first | exact ld_blks (k := 1) (ds := [_, _, _, _, _]) rfl rfl Tryd.isAgg40 Tryd.sizeOf40 rfl rfl | exact ld_is (ds := [_, _, _, _, _]) Tryd.isAgg40 Tryd.sizeOf40 rfl rfl)) ?_
 refine OD.still (wants_plain rfl) rfl (still_bld (pl := [(0, _)]) (ds := [_, _, _, _, _]) rfl Tryd.zeroValue40 Tryd.runUnderlying40 places40_Exb ⟨rfl, opd_const, trivial⟩ rfl rfl) ?_
 refine OD.still (wants_plain rfl) rfl (still_bld (pl := [(0, _)]) (ds := [_, _, _, _, _]) rfl Tryd.zeroValue40 Tryd.runUnderlying40 places40_Exb ⟨rfl, opd_const, trivial⟩ rfl rfl) ?_
 refine OD.bldS (pl := numD 0 [_, _, _, _]) (zvs := [.int .i64 0, .int .i64 0, .int .i64 0, .string ⟨#[]⟩, .string ⟨#[]⟩, .int .i64 0, .int .i64 0, .int .i64 0, .string ⟨#[]⟩, .string ⟨#[]⟩, .int .i64 0, .int .i64 0, .int .i64 0, .string ⟨#[]⟩, .string ⟨#[]⟩, .int .i64 0, .int .i64 0, .int .i64 0, .string ⟨#[]⟩, .string ⟨#[]⟩]) (ds := [_, _, _, _, _, _, _, _, _, _, _, _, _, _, _, _, _, _, _, _]) (wants_plain rfl) rfl rfl Tryd.zeroValue40 Tryd.runUnderlying25 Tryd.sizeOf40 rfl rfl (by kernel_rfl) ⟨rfl, ot, rfl, ot, rfl, ot, rfl, ot, trivial⟩ (by exact rfl) (fill_full (by exact rfl) (by exact rfl) (by exact rfl)) (fun b48 => ?_)
 refine OD.perm (perm_q11 (S1 := [⟨b48, 40, 4 * 5, List.flatMap cO ([litO x, idO, bareOp 7, bareOp 5])⟩]) (A := [_, _, _])) ?_
 refine OD.giveL (t := 48) (Sq := [⟨b48, 40, 4 * 5, List.flatMap cO ([litO x, idO, bareOp 7, bareOp 5])⟩]) lk (ownL_row (g := cO) (sz := 5) (e := 40) (ls := [litO x, idO, bareOp 7, bareOp 5]) (Nat.le_refl _) (show 4 ≤ maxLen by decide)) (fm_len cO_len _) (perm_r11 (A := [_, _, _])) ?_
 refine OD.still (wants_plain rfl) rfl (still_r1 (mk := Op.load 40) rfl ot (by first | exact ld_blks (k := 1) (ds := [_, _, _, _, _]) rfl rfl Tryd.isAgg40 Tryd.sizeOf40 rfl rfl | exact ld_is (ds := [_, _, _, _, _]) Tryd.isAgg40 Tryd.sizeOf40 rfl rfl)) ?_
 refine OD.still (wants_plain rfl) rfl (still_r1 (mk := Op.load 40) rfl ot (by first | exact ld_blks (k := 0) (ds := [_, _, _, _, _]) rfl rfl Tryd.isAgg40 Tryd.sizeOf40 rfl rfl | exact ld_is (ds := [_, _, _, _, _]) Tryd.isAgg40 Tryd.sizeOf40 rfl rfl)) ?_
 refine OD.still (wants_plain rfl) rfl (still_bld (pl := [(0, _)]) (ds := [_, _, _, _, _]) rfl Tryd.zeroValue40 Tryd.runUnderlying40 places40_Exb ⟨rfl, opd_const, trivial⟩ rfl rfl) ?_
 refine OD.still (wants_plain rfl) rfl (still_bld (pl := [(0, _)]) (ds := [_, _, _, _, _]) rfl Tryd.zeroValue40 Tryd.runUnderlying40 places40_Exb ⟨rfl, opd_const, trivial⟩ rfl rfl) ?_
 refine OD.bldS (pl := numD 0 [_, _, _, _]) (zvs := [.int .i64 0, .int .i64 0, .int .i64 0, .string ⟨#[]⟩, .string ⟨#[]⟩, .int .i64 0, .int .i64 0, .int .i64 0, .string ⟨#[]⟩, .string ⟨#[]⟩, .int .i64 0, .int .i64 0, .int .i64 0, .string ⟨#[]⟩, .string ⟨#[]⟩, .int .i64 0, .int .i64 0, .int .i64 0, .string ⟨#[]⟩, .string ⟨#[]⟩]) (ds := [_, _, _, _, _, _, _, _, _, _, _, _, _, _, _, _, _, _, _, _]) (wants_plain rfl) rfl rfl Tryd.zeroValue40 Tryd.runUnderlying25 Tryd.sizeOf40 rfl rfl (by kernel_rfl) ⟨rfl, ot, rfl, ot, rfl, ot, rfl, ot, trivial⟩ (by exact rfl) (fill_full (by exact rfl) (by exact rfl) (by exact rfl)) (fun b53 => ?_)
 refine OD.perm (perm_q11 (S1 := [⟨b53, 40, 4 * 5, List.flatMap cO ([idO, litO x, bareOp 6, bareOp 5])⟩]) (A := [_, _, _])) ?_
 refine OD.giveL (t := 53) (Sq := [⟨b53, 40, 4 * 5, List.flatMap cO ([idO, litO x, bareOp 6, bareOp 5])⟩]) lk (ownL_row (g := cO) (sz := 5) (e := 40) (ls := [idO, litO x, bareOp 6, bareOp 5]) (Nat.le_refl _) (show 4 ≤ maxLen by decide)) (fm_len cO_len _) (perm_r11 (A := [_, _, _])) ?_
 refine OD.bldS (pl := numD 0 [_, _, _, _, _, _, _]) (zvs := [.slice none 0 0, .slice none 0 0, .slice none 0 0, .slice none 0 0, .slice none 0 0, .slice none 0 0, .slice none 0 0]) (ds := [_, _, _, _, _, _, _]) (wants_plain rfl) rfl rfl Tryd.zeroValue25 Tryd.runUnderlying46 Tryd.sizeOf25 rfl rfl (by kernel_rfl) ⟨rfl, ot, rfl, ot, rfl, ot, rfl, ot, rfl, ot, rfl, ot, rfl, ot, trivial⟩ (by exact rfl) (fill_full (by exact rfl) (by exact rfl) (by exact rfl)) (fun b54 => ?_)
 refine OD.still (wants_plain rfl) rfl (still_as rfl ot) ?_
 refine OD.wk (Wk.as_ (n := 134) (l' := [(1, _), (5, _), (8, _)]) (S' := [⟨b54, 25, 7, [_, _, _, _, _, _, _]⟩, ⟨b7, 40, 5, [_, _, _, _, _]⟩, ⟨b6, 40, 5, [_, _, _, _, _]⟩, ⟨b5, 33, 3, [_, _, _]⟩]) rfl rfl ⟨lk, lk, lk, trivial⟩) ?_
 refine OD.nil ?_
 refine CD.seq ?_
 refine CD.region ?_
 refine OD.still (wants_plain rfl) rfl (still_mv rfl ot) ?_
 refine OD.callP (wants_plain rfl) rfl rfl rfl Tryd.call15 (hpk) ⟨ot, opd_const, trivial⟩ ?_
 refine OD.still (wants_plain rfl) rfl (still_as rfl ot) ?_
 refine OD.wk (Wk.as_ (n := 134) (l' := [(5, _), (8, _), (9, _)]) (S' := [⟨b54, 25, 7, [_, _, _, _, _, _, _]⟩, ⟨b7, 40, 5, [_, _, _, _, _]⟩, ⟨b6, 40, 5, [_, _, _, _, _]⟩, ⟨b5, 33, 3, [_, _, _]⟩]) rfl rfl ⟨lk, lk, lk, trivial⟩) ?_
 refine OD.nil ?_
 refine CD.seq ?_
 refine CD.draw (bks _) (by kernel_rfl) (fun _ h => h) ?_
 refine AD0.take (i := 1) rfl (by kernel_rfl) (by kernel_rfl) (by kernel_rfl) (by repeat (first | exact NP.body | apply NP.then | apply NP.cut | apply NP.inBlock | apply NP.round)) (wants_plain rfl) rfl (still_mv rfl ot) (by exact trivial) ?_
 refine AD0.take (i := 2) rfl (by kernel_rfl) (by kernel_rfl) (by kernel_rfl) (by repeat (first | exact NP.body | apply NP.then | apply NP.cut | apply NP.inBlock | apply NP.round)) (wants_plain rfl) rfl (still_mv rfl ot) (by exact trivial) ?_
 refine AD0.take (i := 3) rfl (by kernel_rfl) (by kernel_rfl) (by kernel_rfl) (by repeat (first | exact NP.body | apply NP.then | apply NP.cut | apply NP.inBlock | apply NP.round)) (wants_plain rfl) rfl (still_r2 (mk := Op.indexAddr 46) rfl ot ot (by first | exact ix_list Tryd.runUnderlying46 Tryd.sizeOf25 (j := 2) rfl (by decide) | exact ix_row Tryd.runUnderlying46 Tryd.sizeOf25 (j := 2) rfl (by decide))) (by exact trivial) ?_
 refine AD0.take (i := 4) rfl (by kernel_rfl) (by kernel_rfl) (by kernel_rfl) (by repeat (first | exact NP.body | apply NP.then | apply NP.cut | apply NP.inBlock | apply NP.round)) (wants_plain rfl) rfl (still_r1 (mk := Op.load 25) rfl ot (by first | exact ld_blk (k := 0) rfl rfl Tryd.isAgg25 rfl | exact ld_blk (k := 1) rfl rfl Tryd.isAgg25 rfl | exact ld_blk (k := 2) rfl rfl Tryd.isAgg25 rfl | exact ld_blk (k := 3) rfl rfl Tryd.isAgg25 rfl | exact ld_i Tryd.isAgg25 rfl)) (by first | exact trivial | exact safe_blk (k0 := 0) rfl rfl | exact safe_blk (k0 := 1) rfl rfl | exact safe_blk (k0 := 2) rfl rfl | exact safe_blk (k0 := 3) rfl rfl) ?_
 refine AD0.later rfl ?_
 refine AD.one (i := 0) (by kernel_rfl) ?_
 refine AStep.callP rfl (wants_plain rfl) rfl rfl rfl Tryd.call10 (colsOf_vp) trivial ?_
 refine AD.one (i := 5) (by kernel_rfl) ?_
 refine AStep.callP rfl (wants_plain rfl) rfl rfl rfl Tryd.call16 (hbv) ⟨ot, ot, trivial⟩ ?_
 refine AD.take (i := 6) rfl (by kernel_rfl) (by kernel_rfl) (by kernel_rfl) (by repeat (first | exact NP.body | apply NP.then | apply NP.cut | apply NP.inBlock | apply NP.round)) (wants_plain rfl) rfl (still_mv rfl ot) (by exact trivial) (by intro h; cases h) ?_
 refine AD.take (i := 7) rfl (by kernel_rfl) (by kernel_rfl) (by kernel_rfl) (by repeat (first | exact NP.body | apply NP.then | apply NP.cut | apply NP.inBlock | apply NP.round)) (wants_plain rfl) rfl (still_extract rfl ot rfl) (by exact trivial) (by intro h; cases h) ?_
 refine AD.take (i := 8) rfl (by kernel_rfl) (by kernel_rfl) (by kernel_rfl) (by repeat (first | exact NP.body | apply NP.then | apply NP.cut | apply NP.inBlock | apply NP.round)) (wants_plain rfl) rfl (still_extract rfl ot rfl) (by exact trivial) (by intro h; cases h) ?_
 refine AD.take (i := 9) rfl (by kernel_rfl) (by kernel_rfl) (by kernel_rfl) (by repeat (first | exact NP.body | apply NP.then | apply NP.cut | apply NP.inBlock | apply NP.round)) (wants_plain rfl) rfl (still_extract rfl ot rfl) (by exact trivial) (by intro h; cases h) ?_
 refine AD.take (i := 10) rfl (by kernel_rfl) (by kernel_rfl) (by kernel_rfl) (by repeat (first | exact NP.body | apply NP.then | apply NP.cut | apply NP.inBlock | apply NP.round)) (wants_plain rfl) rfl (still_as rfl ot) (by exact trivial) (by intro h; cases h) ?_
 refine AD.take (i := 11) rfl (by kernel_rfl) (by kernel_rfl) (by kernel_rfl) (by repeat (first | exact NP.body | apply NP.then | apply NP.cut | apply NP.inBlock | apply NP.round)) (wants_plain rfl) rfl (still_as rfl ot) (by exact trivial) (by intro h; cases h) ?_
 refine AD.take (i := 12) rfl (by kernel_rfl) (by kernel_rfl) (by kernel_rfl) (by repeat (first | exact NP.body | apply NP.then | apply NP.cut | apply NP.inBlock | apply NP.round)) (wants_plain rfl) rfl (still_as rfl ot) (by exact trivial) (by intro h; cases h) ?_
 refine AD.wk (y := ⟨134, [(5, _), (9, _), (10, _), (11, _), (12, _)], [⟨b54, 25, 7, [_, _, _, _, _, _, _]⟩, ⟨b7, 40, 5, [_, _, _, _, _]⟩, ⟨b6, 40, 5, [_, _, _, _, _]⟩, ⟨b5, 33, 3, [_, _, _]⟩]⟩) (Wk.as_ rfl rfl ⟨lk, lk, lk, lk, lk, trivial⟩) rfl ?_
 refine AD.done (by kernel_rfl) ?_
 refine CD.seq ?_
 refine CD.region ?_
 refine OD.still (wants_plain rfl) rfl (still_r1 (mk := Op.load 33) rfl ot (by first | exact ld_blks (k := 3) (ds := [_, _, _]) rfl rfl Tryd.isAgg33 Tryd.sizeOf33 rfl rfl | exact ld_is (ds := [_, _, _]) Tryd.isAgg33 Tryd.sizeOf33 rfl rfl)) ?_
 refine OD.bldS (pl := numD 0 [_]) (zvs := [.int .i64 0, .int .i64 0, .string ⟨#[]⟩]) (ds := [_, _, _]) (wants_plain rfl) rfl rfl Tryd.zeroValue33 Tryd.runUnderlying36 Tryd.sizeOf33 rfl rfl (by kernel_rfl) ⟨rfl, ot, trivial⟩ (by exact rfl) (fill_full (by exact rfl) (by exact rfl) (by exact rfl)) (fun b69 => ?_)
 refine OD.perm (perm_q11 (S1 := [⟨b69, 33, 1 * 3, List.flatMap cV ([numV x])⟩]) (A := [_, _, _, _])) ?_
 refine OD.giveL (t := 69) (Sq := [⟨b69, 33, 1 * 3, List.flatMap cV ([numV x])⟩]) lk (ownL_row (g := cV) (sz := 3) (e := 33) (ls := [numV x]) (Nat.le_refl _) (show 1 ≤ maxLen by decide)) (fm_len cV_len _) (perm_r11 (A := [_, _, _, _])) ?_
 refine OD.callP (wants_plain rfl) rfl rfl rfl Tryd.call17 (hev) ⟨ot, trivial⟩ ?_
 refine OD.still (wants_plain rfl) rfl (still_mv rfl ot) ?_
 refine OD.still (wants_plain rfl) rfl (still_extract rfl ot rfl) ?_
 refine OD.still (wants_plain rfl) rfl (still_extract rfl ot rfl) ?_
 refine OD.still (wants_plain rfl) rfl (still_as rfl ot) ?_
 refine OD.still (wants_plain rfl) rfl (still_as rfl ot) ?_
 refine OD.wk (Wk.as_ (n := 134) (l' := [(9, _), (10, _), (11, _), (12, _), (13, _), (14, _)]) (S' := [⟨b54, 25, 7, [_, _, _, _, _, _, _]⟩, ⟨b7, 40, 5, [_, _, _, _, _]⟩, ⟨b6, 40, 5, [_, _, _, _, _]⟩, ⟨b5, 33, 3, [_, _, _]⟩]) rfl rfl ⟨lk, lk, lk, lk, lk, lk, trivial⟩) ?_
 refine OD.nil ?_
 refine CD.seq ?_
 refine CD.region ?_
 refine OD.still (wants_plain rfl) rfl (still_mv rfl ot) ?_
 refine OD.still (wants_plain rfl) rfl (still_bin rfl ot opd_const bin_lss) ?_
 refine OD.still (wants_plain rfl) rfl (still_mv rfl ot) ?_
 refine OD.split (t := 75) lk (fun hg75 => ?_) (fun hg75 => ?_)
 ·exact absurd hg75 (by decide)
 ·have hg75' := hg75; (try simp only [V.cnd, ne_eq] at hg75')
  refine OD.still (wants_T rfl rfl rfl lk (by first | rfl | assumption)) rfl (still_mv rfl ot) ?_
  refine OD.still (wants_T rfl rfl rfl lk (by first | rfl | assumption)) rfl (still_bin rfl ot opd_const bin_eql) ?_
  refine OD.still (wants_plain rfl) rfl (still_pickF rfl ot (by first | rfl | assumption) ot) ?_
  refine OD.still (wants_plain rfl) rfl (still_mv rfl ot) ?_
  refine OD.split (t := 79) lk (fun hg79 => ?_) (fun hg79 => ?_)
  ·exact absurd hg79 (by decide)
  ·have hg79' := hg79; (try simp only [V.cnd, ne_eq] at hg79')
   refine OD.still (wants_T rfl rfl rfl lk (by first | rfl | assumption)) rfl (still_mv rfl ot) ?_
   refine OD.still (wants_T rfl rfl rfl lk (by first | rfl | assumption)) rfl (still_bin rfl ot opd_const bin_eql) ?_
   refine OD.still (wants_plain rfl) rfl (still_pickF rfl ot (by first | rfl | assumption) ot) ?_
   refine OD.still (wants_plain rfl) rfl (still_as rfl ot) ?_
   refine OD.wk (Wk.as_ (n := 134) (l' := [(9, _), (10, _), (11, _), (12, _), (13, _), (14, _), (15, _)]) (S' := [⟨b54, 25, 7, [_, _, _, _, _, _, _]⟩, ⟨b7, 40, 5, [_, _, _, _, _]⟩, ⟨b6, 40, 5, [_, _, _, _, _]⟩, ⟨b5, 33, 3, [_, _, _]⟩]) rfl rfl ⟨lk, lk, lk, lk, lk, lk, lk, trivial⟩) ?_
   refine OD.nil ?_
   refine CD.seq ?_
   refine CD.region ?_
   refine OD.still (wants_plain rfl) rfl (still_mv rfl ot) ?_
   refine OD.still (wants_plain rfl) rfl (still_bin rfl ot opd_const bin_lss) ?_
   refine OD.still (wants_plain rfl) rfl (still_mv rfl ot) ?_
   refine OD.split (t := 85) lk (fun hg85 => ?_) (fun hg85 => ?_)
   ·have hg85' := hg85; (try simp only [V.cnd, ne_eq] at hg85')
    refine OD.skip (wants_F rfl rfl rfl lk (by first | rfl | assumption)) rfl ?_
    refine OD.skip (wants_F rfl rfl rfl lk (by first | rfl | assumption)) rfl ?_
    refine OD.still (wants_plain rfl) rfl (still_pickT rfl ot (by first | rfl | assumption) opd_const) ?_
    refine OD.still (wants_plain rfl) rfl (still_as rfl ot) ?_
    refine OD.wk (Wk.as_ (n := 134) (l' := [(10, _), (11, _), (12, _), (13, _), (14, _), (15, _), (16, _)]) (S' := [⟨b54, 25, 7, [_, _, _, _, _, _, _]⟩, ⟨b7, 40, 5, [_, _, _, _, _]⟩, ⟨b6, 40, 5, [_, _, _, _, _]⟩, ⟨b5, 33, 3, [_, _, _]⟩]) rfl rfl ⟨lk, lk, lk, lk, lk, lk, lk, trivial⟩) ?_
    refine OD.nil ?_
    refine CD.seq ?_
    refine CD.seq ?_
    refine CD.region ?_
    refine OD.still (wants_plain rfl) rfl (still_mv rfl ot) ?_
    refine OD.still (wants_plain rfl) rfl (still_bin rfl ot opd_const bin_neq) ?_
    refine OD.still (wants_plain rfl) rfl (still_mv rfl ot) ?_
    refine OD.split (t := 91) lk (fun hg91 => ?_) (fun hg91 => ?_)
    ·exact absurd hg91 (by simp)
    ·have hg91' := hg91; (try simp only [V.cnd, ne_eq] at hg91')
     refine OD.still (wants_T rfl rfl rfl lk (by first | rfl | assumption)) rfl (still_mv rfl ot) ?_
     refine OD.still (wants_T rfl rfl rfl lk (by first | rfl | assumption)) rfl (still_bin rfl ot opd_const bin_neq) ?_
     refine OD.still (wants_plain rfl) rfl (still_pickF rfl ot (by first | rfl | assumption) ot) ?_
     refine OD.still (wants_plain rfl) rfl (still_mv rfl ot) ?_
     refine OD.split (t := 95) lk (fun hg95 => ?_) (fun hg95 => ?_)
     ·exact absurd hg95 (by simp)
     ·have hg95' := hg95; (try simp only [V.cnd, ne_eq] at hg95')
      refine OD.still (wants_T rfl rfl rfl lk (by first | rfl | assumption)) rfl (still_mv rfl ot) ?_
      refine OD.still (wants_T rfl rfl rfl lk (by first | rfl | assumption)) rfl (still_r1 (mk := fun y => .call { callee := .builtin .len, args := #[y], argTypes := #[47] }) rfl ot (by first | exact len_list rfl Tryd.runUnderlying47 | exact len_row rfl Tryd.runUnderlying47)) ?_
      refine OD.still (wants_T rfl rfl rfl lk (by first | rfl | assumption)) rfl (still_bin rfl ot opd_const bin_eql) ?_
      refine OD.still (wants_plain rfl) rfl (still_pickF rfl ot (by first | rfl | assumption) ot) ?_
      refine OD.wk (Wk.as_ (n := 134) (l' := [(10, _), (11, _), (13, _), (15, _), (16, _), (99, _)]) (S' := [⟨b54, 25, 7, [_, _, _, _, _, _, _]⟩, ⟨b7, 40, 5, [_, _, _, _, _]⟩, ⟨b6, 40, 5, [_, _, _, _, _]⟩, ⟨b5, 33, 3, [_, _, _]⟩]) rfl rfl ⟨lk, lk, lk, lk, lk, lk, trivial⟩) ?_
      refine OD.nil ?_
      refine CD.cond ot (fun hc0 => ?_) (fun hc0 => ?_)
      ·exact absurd hc0 (by rw [hkl]; decide)
      ·have hc0' := hc0
       (try simp only [V.cnd, ne_eq] at hc0')
       refine CD.skip ?_
       refine CD.seq ?_
       refine CD.seq ?_
       refine CD.region ?_
       refine OD.still (wants_plain rfl) rfl (still_mv rfl ot) ?_
       refine OD.still (wants_plain rfl) rfl (still_mv rfl ot) ?_
       refine OD.split (t := 101) lk (fun hg101 => ?_) (fun hg101 => ?_)
       ·exact absurd hg101 (by decide)
       ·have hg101' := hg101; (try simp only [V.cnd, ne_eq] at hg101')
        refine OD.skip (wants_F rfl rfl rfl lk (by first | rfl | assumption)) rfl ?_
        refine OD.skip (wants_F rfl rfl rfl lk (by first | rfl | assumption)) rfl ?_
        refine OD.skip (wants_F rfl rfl rfl lk (by first | rfl | assumption)) rfl ?_
        refine OD.skip (wants_F rfl rfl rfl lk (by first | rfl | assumption)) rfl ?_
        refine OD.skip (wants_F rfl rfl rfl lk (by first | rfl | assumption)) rfl ?_
        refine OD.still (wants_plain rfl) rfl (still_pickF rfl ot (by first | rfl | assumption) opd_const) ?_
        refine OD.still (wants_plain rfl) rfl (still_mv rfl ot) ?_
        refine OD.still (wants_T rfl rfl rfl lk (by first | rfl | assumption)) rfl (still_mv rfl ot) ?_
        refine OD.still (wants_T rfl rfl rfl lk (by first | rfl | assumption)) rfl (still_un rfl ot un_not) ?_
        refine OD.still (wants_T rfl rfl rfl lk (by first | rfl | assumption)) rfl (still_mv rfl ot) ?_
        refine OD.split (t := 111) lk (fun hg111 => ?_) (fun hg111 => ?_)
        ·have hg111' := hg111; (try simp only [V.cnd, ne_eq] at hg111')
         refine OD.still (wants_T rfl rfl rfl lk (by first | rfl | assumption)) rfl (still_mv rfl ot) ?_
         refine OD.still (wants_T rfl rfl rfl lk (by first | rfl | assumption)) rfl (still_r1 (mk := fun y => .call { callee := .builtin .len, args := #[y], argTypes := #[47] }) rfl ot (by first | exact len_list rfl Tryd.runUnderlying47 | exact len_row rfl Tryd.runUnderlying47)) ?_
         refine OD.still (wants_T rfl rfl rfl lk (by first | rfl | assumption)) rfl (still_bin rfl ot opd_const bin_gtr) ?_
         refine OD.still (wants_T rfl rfl rfl lk (by first | rfl | assumption)) rfl (still_pickT rfl ot (by first | rfl | assumption) ot) ?_
         refine OD.still (wants_plain rfl) rfl (still_pickF rfl ot (by first | rfl | assumption) ot) ?_
         refine OD.wk (Wk.as_ (n := 134) (l' := [(11, _), (13, _), (16, _), (116, _)]) (S' := [⟨b54, 25, 7, [_, _, _, _, _, _, _]⟩, ⟨b7, 40, 5, [_, _, _, _, _]⟩, ⟨b6, 40, 5, [_, _, _, _, _]⟩, ⟨b5, 33, 3, [_, _, _]⟩]) rfl rfl ⟨lk, lk, lk, lk, trivial⟩) ?_
         refine OD.nil ?_
         refine CD.cond ot (fun hc1 => ?_) (fun hc1 => ?_)
         ·exact absurd hc1 (by simp)
         ·have hc1' := hc1
          (try simp only [V.cnd, ne_eq] at hc1')
          refine CD.skip ?_
          refine CD.seq ?_
          refine CD.region ?_
          refine OD.still (wants_plain rfl) rfl (still_mv rfl ot) ?_
          refine OD.still (wants_plain rfl) rfl (still_mv rfl ot) ?_
          refine OD.still (wants_T rfl rfl rfl lk (by first | rfl | assumption)) rfl (still_mv rfl ot) ?_
          first | refine OD.still (wants_T rfl rfl rfl lk (by first | rfl | assumption)) rfl (still_ofBytes rfl ot Tryd.underlying47 Tryd.underlying5 Tryd.underlying9) ?_ | refine OD.still (wants_T rfl rfl rfl lk (by first | rfl | assumption)) rfl (still_ofBytesF rfl ot Tryd.underlying47 Tryd.underlying5 Tryd.underlying9) ?_
          refine OD.still (wants_T rfl rfl rfl lk (by first | rfl | assumption)) rfl (still_mv rfl ot) ?_
          first | refine OD.still (wants_T rfl rfl rfl lk (by first | rfl | assumption)) rfl (still_ofBytes rfl ot Tryd.underlying47 Tryd.underlying5 Tryd.underlying9) ?_ | refine OD.still (wants_T rfl rfl rfl lk (by first | rfl | assumption)) rfl (still_ofBytesF rfl ot Tryd.underlying47 Tryd.underlying5 Tryd.underlying9) ?_
          refine OD.still (wants_T rfl rfl rfl lk (by first | rfl | assumption)) rfl (still_bin rfl ot ot bin_seql) ?_
          refine OD.still (wants_plain rfl) rfl (still_pickT rfl ot (by first | rfl | assumption) ot) ?_
          refine OD.still (wants_plain rfl) rfl (still_mv rfl ot) ?_
          refine OD.split (t := 125) lk (fun hg125 => ?_) (fun hg125 => ?_)
          ·have hg125' := hg125; (try simp only [V.cnd, ne_eq] at hg125')
           refine OD.skip (wants_F rfl rfl rfl lk (by first | rfl | assumption)) rfl ?_
           refine OD.skip (wants_F rfl rfl rfl lk (by first | rfl | assumption)) rfl ?_
           refine OD.skip (wants_F rfl rfl rfl lk (by first | rfl | assumption)) rfl ?_
           refine OD.skip (wants_J (b := false) rfl rfl rfl lk) rfl ?_
           refine OD.skip (wants_J (b := false) rfl rfl rfl lk) rfl ?_
           refine OD.skip (wants_J (b := false) rfl rfl rfl lk) rfl ?_
           refine OD.skip (wants_F rfl rfl rfl lk (by first | rfl | assumption)) rfl ?_
           refine OD.still (wants_plain rfl) rfl (still_pickT rfl ot (by first | rfl | assumption) opd_const) ?_
           refine OD.still (wants_plain rfl) rfl (still_as rfl ot) ?_
           refine OD.wk (Wk.as_ (n := 134) (l' := [(4, _)]) (S' := [⟨b54, 25, 7, [_, _, _, _, _, _, _]⟩, ⟨b7, 40, 5, [_, _, _, _, _]⟩, ⟨b6, 40, 5, [_, _, _, _, _]⟩, ⟨b5, 33, 3, [_, _, _]⟩]) rfl rfl ⟨lk, trivial⟩) ?_
           refine OD.nil ?_
           refine CD.ret ?_
           refine ⟨.inr rfl, _, [], List.nil_sublist _, ret_one Tryd.results5 (res_tmp (Nat.le_of_ble_eq_true rfl) lk), ?_⟩
           first | exact ⟨rfl, rfl⟩ | (refine ⟨vb ?_, rfl⟩; simp)
          ·exact absurd hg125 (by simp)
        ·exact absurd hg111 (by decide)
   ·exact absurd hg85 (by decide)

set_option maxHeartbeats 4000000 in
set_option maxRecDepth 100000 in
theorem one3_vp {m : Int} (hm : (3, marksC) ∈ G) (hw : (0, wordsC) ∈ G) (ht : (2, typesC) ∈ G) (hG : (1, [Value.int .i64 m]) ∈ G) (n : Int) (n1 : -9223372036854775808 ≤ n) (n2 : n ≤ 9223372036854775807) (form : Int) (form1 : -9223372036854775808 ≤ form) (form2 : form ≤ 9223372036854775807) (hk : pickedF form 7 = 3) : VP Tryd.prog G 5 [.v (.int .i64 n), .v (.int .i64 form)] (.v (.bool true)) := by
 refine VC.body Tryd.func5 rfl Tryd.ntmps5 (Nat.le_of_ble_eq_true rfl) fun X0 w0 S00 => ?_
 have hxb := pickedF_bd n (show (1 : Int) ≤ 1000 by decide)
 have hbv := Bounds_at hm hw ht hG [litO (pickedF n 1000), idO, bareOp 7] (fine_cons (fine_lit (by omega) (by omega)) (fine_cons fine_id (fine_cons (fine_bare 7) fine_nil)))
 rw [one3 hxb.1] at hbv
 unfold bdD bytesL at hbv
 have hev := enc_at hm hw ht hG (pickedF n 1000) hxb.1 (by omega)
 have hkl := key_len (pickedF n 1000)
 have hpn := (picked_vp G n 1000 n1 n2 (by decide))
 have hpk := (picked_vp G form 7 form1 form2 (by decide))
 rw [hk] at hpk
 skip
 generalize (pickedF n 1000) = x at *
 refine CD.seq ?_
 refine CD.region ?_
 refine OD.still (wants_plain rfl) rfl (still_as rfl opd_const) ?_
 refine OD.wk (Wk.as_ (n := 134) (l' := [(0, _), (1, _)]) (S' := []) rfl rfl ⟨lk, lk, trivial⟩) ?_
 refine OD.nil ?_
 refine CD.seq ?_
 refine CD.region ?_
 refine OD.still (wants_plain rfl) rfl (still_mv rfl ot) ?_
 refine OD.callP (wants_plain rfl) rfl rfl rfl Tryd.call15 (hpn) ⟨ot, opd_const, trivial⟩ ?_
 refine OD.still (wants_plain rfl) rfl (still_bld (pl := [(0, _), (1, _)]) (ds := [_, _, _]) rfl Tryd.zeroValue33 Tryd.runUnderlying33 places33_Exb ⟨rfl, opd_const, rfl, ot, trivial⟩ rfl rfl) ?_
 refine OD.alloc (ds := [_, _, _]) (wants_plain rfl) rfl rfl Tryd.zeroValue33 rfl (fun b5 => ?_)
 refine OD.store (k := 0) (cs' := [_, _, _]) (wants_plain rfl) rfl rfl ot rfl rfl ot rfl rfl Tryd.sizeOf33 rfl rfl rfl ?_
 refine OD.wk (Wk.as_ (n := 134) (l' := [(1, _), (5, _)]) (S' := [⟨b5, 33, 3, [_, _, _]⟩]) rfl rfl ⟨lk, lk, trivial⟩) ?_
 refine OD.nil ?_
 refine CD.seq ?_
 refine CD.region ?_
 refine OD.still (wants_plain rfl) rfl (still_bld (pl := [(0, _), (2, _)]) (ds := [_, _, _, _, _]) rfl Tryd.zeroValue40 Tryd.runUnderlying40 places40_Exb ⟨rfl, opd_const, rfl, opd_const, trivial⟩ rfl rfl) ?_
 refine OD.alloc (ds := [_, _, _, _, _]) (wants_plain rfl) rfl rfl Tryd.zeroValue40 rfl (fun b6 => ?_)
 refine OD.store (k := 0) (cs' := [_, _, _, _, _]) (wants_plain rfl) rfl rfl ot rfl rfl ot rfl rfl Tryd.sizeOf40 rfl rfl rfl ?_
 refine OD.wk (Wk.as_ (n := 134) (l' := [(1, _), (5, _), (6, _)]) (S' := [⟨b6, 40, 5, [_, _, _, _, _]⟩, ⟨b5, 33, 3, [_, _, _]⟩]) rfl rfl ⟨lk, lk, lk, trivial⟩) ?_
 refine OD.nil ?_
 refine CD.seq ?_
 refine CD.region ?_
 refine OD.still (wants_plain rfl) rfl (still_r1 (mk := Op.load 33) rfl ot (by first | exact ld_blks (k := 1) (ds := [_, _, _]) rfl rfl Tryd.isAgg33 Tryd.sizeOf33 rfl rfl | exact ld_is (ds := [_, _, _]) Tryd.isAgg33 Tryd.sizeOf33 rfl rfl)) ?_
 refine OD.still (wants_plain rfl) rfl (still_bld (pl := [(0, _), (1, _)]) (ds := [_, _, _, _, _]) rfl Tryd.zeroValue40 Tryd.runUnderlying40 places40_Exb ⟨rfl, opd_const, rfl, ot, trivial⟩ rfl rfl) ?_
 refine OD.alloc (ds := [_, _, _, _, _]) (wants_plain rfl) rfl rfl Tryd.zeroValue40 rfl (fun b7 => ?_)
 refine OD.store (k := 0) (cs' := [_, _, _, _, _]) (wants_plain rfl) rfl rfl ot rfl rfl ot rfl rfl Tryd.sizeOf40 rfl rfl rfl ?_
 refine OD.wk (Wk.as_ (n := 134) (l' := [(1, _), (5, _), (6, _), (7, _)]) (S' := [⟨b7, 40, 5, [_, _, _, _, _]⟩, ⟨b6, 40, 5, [_, _, _, _, _]⟩, ⟨b5, 33, 3, [_, _, _]⟩]) rfl rfl ⟨lk, lk, lk, lk, trivial⟩) ?_
 refine OD.nil ?_
 refine CD.seq ?_
 refine CD.region ?_
 refine OD.still (wants_plain rfl) rfl (still_r1 (mk := Op.load 40) rfl ot (by first | exact ld_blks (k := 1) (ds := [_, _, _, _, _]) rfl rfl Tryd.isAgg40 Tryd.sizeOf40 rfl rfl | exact ld_is (ds := [_, _, _, _, _]) Tryd.isAgg40 Tryd.sizeOf40 rfl rfl)) ?_
 refine OD.still (wants_plain rfl) rfl (still_r1 (mk := Op.load 40) rfl ot (by first | exact ld_blks (k := 0) (ds := [_, _, _, _, _]) rfl rfl Tryd.isAgg40 Tryd.sizeOf40 rfl rfl | exact ld_is (ds := [_, _, _, _, _]) Tryd.isAgg40 Tryd.sizeOf40 rfl rfl)) ?_
 refine OD.still (wants_plain rfl) rfl (still_bld (pl := [(0, _)]) (ds := [_, _, _, _, _]) rfl Tryd.zeroValue40 Tryd.runUnderlying40 places40_Exb ⟨rfl, opd_const, trivial⟩ rfl rfl) ?_
 refine OD.bldS (pl := numD 0 [_, _, _]) (zvs := [.int .i64 0, .int .i64 0, .int .i64 0, .string ⟨#[]⟩, .string ⟨#[]⟩, .int .i64 0, .int .i64 0, .int .i64 0, .string ⟨#[]⟩, .string ⟨#[]⟩, .int .i64 0, .int .i64 0, .int .i64 0, .string ⟨#[]⟩, .string ⟨#[]⟩]) (ds := [_, _, _, _, _, _, _, _, _, _, _, _, _, _, _]) (wants_plain rfl) rfl rfl Tryd.zeroValue40 Tryd.runUnderlying25 Tryd.sizeOf40 rfl rfl (by kernel_rfl) ⟨rfl, ot, rfl, ot, rfl, ot, trivial⟩ (by exact rfl) (fill_full (by exact rfl) (by exact rfl) (by exact rfl)) (fun b26 => ?_)
 refine OD.perm (perm_q11 (S1 := [⟨b26, 40, 3 * 5, List.flatMap cO ([idO, litO x, bareOp 6])⟩]) (A := [_, _, _])) ?_
 refine OD.giveL (t := 26) (Sq := [⟨b26, 40, 3 * 5, List.flatMap cO ([idO, litO x, bareOp 6])⟩]) lk (ownL_row (g := cO) (sz := 5) (e := 40) (ls := [idO, litO x, bareOp 6]) (Nat.le_refl _) (show 3 ≤ maxLen by decide)) (fm_len cO_len _) (perm_r11 (A := [_, _, _])) ?_
 refine OD.still (wants_plain rfl) rfl (still_r1 (mk := Op.load 40) rfl ot (by first | exact ld_blks (k := 0) (ds := [_, _, _, _, _]) rfl rfl Tryd.isAgg40 Tryd.sizeOf40 rfl rfl | exact ld_is (ds := [_, _, _, _, _]) Tryd.isAgg40 Tryd.sizeOf40 rfl rfl)) ?_
 refine OD.still (wants_plain rfl) rfl (still_r1 (mk := Op.load 40) rfl ot (by first | exact ld_blks (k := 1) (ds := [_, _, _, _, _]) rfl rfl Tryd.isAgg40 Tryd.sizeOf40 rfl rfl | exact ld_is (ds := [_, _, _, _, _]) Tryd.isAgg40 Tryd.sizeOf40 rfl rfl)) ?_
 refine OD.still (wants_plain rfl) rfl (still_bld (pl := [(0, _)]) (ds := [_, _, _, _, _]) rfl Tryd.zeroValue40 Tryd.runUnderlying40 places40_Exb ⟨rfl, opd_const, trivial⟩ rfl rfl) ?_
 refine OD.bldS (pl := numD 0 [_, _, _]) (zvs := [.int .i64 0, .int .i64 0, .int .i64 0, .string ⟨#[]⟩, .string ⟨#[]⟩, .int .i64 0, .int .i64 0, .int .i64 0, .string ⟨#[]⟩, .string ⟨#[]⟩, .int .i64 0, .int .i64 0, .int .i64 0, .string ⟨#[]⟩, .string ⟨#[]⟩]) (ds := [_, _, _, _, _, _, _, _, _, _, _, _, _, _, _]) (wants_plain rfl) rfl rfl Tryd.zeroValue40 Tryd.runUnderlying25 Tryd.sizeOf40 rfl rfl (by kernel_rfl) ⟨rfl, ot, rfl, ot, rfl, ot, trivial⟩ (by exact rfl) (fill_full (by exact rfl) (by exact rfl) (by exact rfl)) (fun b30 => ?_)
 refine OD.perm (perm_q11 (S1 := [⟨b30, 40, 3 * 5, List.flatMap cO ([litO x, idO, bareOp 6])⟩]) (A := [_, _, _])) ?_
 refine OD.giveL (t := 30) (Sq := [⟨b30, 40, 3 * 5, List.flatMap cO ([litO x, idO, bareOp 6])⟩]) lk (ownL_row (g := cO) (sz := 5) (e := 40) (ls := [litO x, idO, bareOp 6]) (Nat.le_refl _) (show 3 ≤ maxLen by decide)) (fm_len cO_len _) (perm_r11 (A := [_, _, _])) ?_
 refine OD.still (wants_plain rfl) rfl (still_r1 (mk := Op.load 40) rfl ot (by first | exact ld_blks (k := 1) (ds := [_, _, _, _, _]) rfl rfl Tryd.isAgg40 Tryd.sizeOf40 rfl rfl | exact ld_is (ds := [_, _, _, _, _]) Tryd.isAgg40 Tryd.sizeOf40 rfl rfl)) ?_
 refine OD.still (wants_plain rfl) rfl (still_r1 (mk := Op.load 40) rfl ot (by first | exact ld_blks (k := 0) (ds := [_, _, _, _, _]) rfl rfl Tryd.isAgg40 Tryd.sizeOf40 rfl rfl | exact ld_is (ds := [_, _, _, _, _]) Tryd.isAgg40 Tryd.sizeOf40 rfl rfl)) ?_
 refine OD.still (wants_plain rfl) rfl (still_bld (pl := [(0, _)]) (ds := [_, _, _, _, _]) rfl Tryd.zeroValue40 Tryd.runUnderlying40 places40_Exb ⟨rfl, opd_const, trivial⟩ rfl rfl) ?_
 refine OD.bldS (pl := numD 0 [_, _, _]) (zvs := [.int .i64 0, .int .i64 0, .int .i64 0, .string ⟨#[]⟩, .string ⟨#[]⟩, .int .i64 0, .int .i64 0, .int .i64 0, .string ⟨#[]⟩, .string ⟨#[]⟩, .int .i64 0, .int .i64 0, .int .i64 0, .string ⟨#[]⟩, .string ⟨#[]⟩]) (ds := [_, _, _, _, _, _, _, _, _, _, _, _, _, _, _]) (wants_plain rfl) rfl rfl Tryd.zeroValue40 Tryd.runUnderlying25 Tryd.sizeOf40 rfl rfl (by kernel_rfl) ⟨rfl, ot, rfl, ot, rfl, ot, trivial⟩ (by exact rfl) (fill_full (by exact rfl) (by exact rfl) (by exact rfl)) (fun b34 => ?_)
 refine OD.perm (perm_q11 (S1 := [⟨b34, 40, 3 * 5, List.flatMap cO ([idO, litO x, bareOp 7])⟩]) (A := [_, _, _])) ?_
 refine OD.giveL (t := 34) (Sq := [⟨b34, 40, 3 * 5, List.flatMap cO ([idO, litO x, bareOp 7])⟩]) lk (ownL_row (g := cO) (sz := 5) (e := 40) (ls := [idO, litO x, bareOp 7]) (Nat.le_refl _) (show 3 ≤ maxLen by decide)) (fm_len cO_len _) (perm_r11 (A := [_, _, _])) ?_
 refine OD.still (wants_plain rfl) rfl (still_r1 (mk := Op.load 40) rfl ot (by first | exact ld_blks (k := 0) (ds := [_, _, _, _, _]) rfl rfl Tryd.isAgg40 Tryd.sizeOf40 rfl rfl | exact ld_is (ds := [_, _, _, _, _]) Tryd.isAgg40 Tryd.sizeOf40 rfl rfl)) ?_
 refine OD.still (wants_plain rfl) rfl (still_r1 (mk := Op.load 40) rfl ot (by first | exact ld_blks (k := 1) (ds := [_, _, _, _, _]) rfl rfl Tryd.isAgg40 Tryd.sizeOf40 rfl rfl | exact ld_is (ds := [_, _, _, _, _]) Tryd.isAgg40 Tryd.sizeOf40 rfl rfl)) ?_
 refine OD.still (wants_plain rfl) rfl (still_bld (pl := [(0, _)]) (ds := [_, _, _, _, _]) rfl Tryd.zeroValue40 Tryd.runUnderlying40 places40_Exb ⟨rfl, opd_const, trivial⟩ rfl rfl) ?_
 refine OD.bldS (pl := numD 0 [_, _, _]) (zvs := [.int .i64 0, .int .i64 0, .int .i64 0, .string ⟨#[]⟩, .string ⟨#[]⟩, .int .i64 0, .int .i64 0, .int .i64 0, .string ⟨#[]⟩, .string ⟨#[]⟩, .int .i64 0, .int .i64 0, .int .i64 0, .string ⟨#[]⟩, .string ⟨#[]⟩]) (ds := [_, _, _, _, _, _, _, _, _, _, _, _, _, _, _]) (wants_plain rfl) rfl rfl Tryd.zeroValue40 Tryd.runUnderlying25 Tryd.sizeOf40 rfl rfl (by kernel_rfl) ⟨rfl, ot, rfl, ot, rfl, ot, trivial⟩ (by exact rfl) (fill_full (by exact rfl) (by exact rfl) (by exact rfl)) (fun b38 => ?_)
 refine OD.perm (perm_q11 (S1 := [⟨b38, 40, 3 * 5, List.flatMap cO ([litO x, idO, bareOp 7])⟩]) (A := [_, _, _])) ?_
 refine OD.giveL (t := 38) (Sq := [⟨b38, 40, 3 * 5, List.flatMap cO ([litO x, idO, bareOp 7])⟩]) lk (ownL_row (g := cO) (sz := 5) (e := 40) (ls := [litO x, idO, bareOp 7]) (Nat.le_refl _) (show 3 ≤ maxLen by decide)) (fm_len cO_len _) (perm_r11 (A := [_, _, _])) ?_
 refine OD.still (wants_plain rfl) rfl (still_r1 (mk := Op.load 40) rfl ot (by first | exact ld_blks (k := 1) (ds := [_, _, _, _, _]) rfl rfl Tryd.isAgg40 Tryd.sizeOf40 rfl rfl | exact ld_is (ds := [_, _, _, _, _]) Tryd.isAgg40 Tryd.sizeOf40 rfl rfl)) ?_
 refine OD.still (wants_plain rfl) rfl (still_r1 (mk := Op.load 40) rfl ot (by first | exact ld_blks (k := 0) (ds := [_, _, _, _, _]) rfl rfl Tryd.isAgg40 Tryd.sizeOf40 rfl rfl | exact ld_is (ds := [_, _, _, _, _]) Tryd.isAgg40 Tryd.sizeOf40 rfl rfl)) ?_
 refine OD.still (wants_plain rfl) rfl (still_bld (pl := [(0, _)]) (ds := [_, _, _, _, _]) rfl Tryd.zeroValue40 Tryd.runUnderlying40 places40_Exb ⟨rfl, opd_const, trivial⟩ rfl rfl) ?_
 refine OD.still (wants_plain rfl) rfl (still_bld (pl := [(0, _)]) (ds := [_, _, _, _, _]) rfl Tryd.zeroValue40 Tryd.runUnderlying40 places40_Exb ⟨rfl, opd_const, trivial⟩ rfl rfl) ?_
 refine OD.bldS (pl := numD 0 [_, _, _, _]) (zvs := [.int .i64 0, .int .i64 0, .int .i64 0, .string ⟨#[]⟩, .string ⟨#[]⟩, .int .i64 0, .int .i64 0, .int .i64 0, .string ⟨#[]⟩, .string ⟨#[]⟩, .int .i64 0, .int .i64 0, .int .i64 0, .string ⟨#[]⟩, .string ⟨#[]⟩, .int .i64 0, .int .i64 0, .int .i64 0, .string ⟨#[]⟩, .string ⟨#[]⟩]) (ds := [_, _, _, _, _, _, _, _, _, _, _, _, _, _, _, _, _, _, _, _]) (wants_plain rfl) rfl rfl Tryd.zeroValue40 Tryd.runUnderlying25 Tryd.sizeOf40 rfl rfl (by kernel_rfl) ⟨rfl, ot, rfl, ot, rfl, ot, rfl, ot, trivial⟩ (by exact rfl) (fill_full (by exact rfl) (by exact rfl) (by exact rfl)) (fun b43 => ?_)
 refine OD.perm (perm_q11 (S1 := [⟨b43, 40, 4 * 5, List.flatMap cO ([idO, litO x, bareOp 7, bareOp 5])⟩]) (A := [_, _, _])) ?_
 refine OD.giveL (t := 43) (Sq := [⟨b43, 40, 4 * 5, List.flatMap cO ([idO, litO x, bareOp 7, bareOp 5])⟩]) lk (ownL_row (g := cO) (sz := 5) (e := 40) (ls := [idO, litO x, bareOp 7, bareOp 5]) (Nat.le_refl _) (show 4 ≤ maxLen by decide)) (fm_len cO_len _) (perm_r11 (A := [_, _, _])) ?_
 refine OD.still (wants_plain rfl) rfl (still_r1 (mk := Op.load 40) rfl ot (by first | exact ld_blks (k := 0) (ds := [_, _, _, _, _]) rfl rfl Tryd.isAgg40 Tryd.sizeOf40 rfl rfl | exact ld_is (ds := [_, _, _, _, _]) Tryd.isAgg40 Tryd.sizeOf40 rfl rfl)) ?_
 refine OD.still (wants_plain rfl) rfl (still_r1 (mk := Op.load 40) rfl ot (by first | exact ld_blks (k := 1) (ds := [_, _, _, _, _]) rfl rfl Tryd.isAgg40 Tryd.sizeOf40 rfl rfl | exact ld_is (ds := [_, _, _, _, _]) Tryd.isAgg40 Tryd.sizeOf40 rfl rfl)) ?_
 refine OD.still (wants_plain rfl) rfl (still_bld (pl := [(0, _)]) (ds := [_, _, _, _, _]) rfl Tryd.zeroValue40 Tryd.runUnderlying40 places40_Exb ⟨rfl, opd_const, trivial⟩ rfl rfl) ?_
 refine OD.still (wants_plain rfl) rfl (still_bld (pl := [(0, _)]) (ds := [_, _, _, _, _]) rfl Tryd.zeroValue40 Tryd.runUnderlying40 places40_Exb ⟨rfl, opd_const, trivial⟩ rfl rfl) ?_
 refine OD.bldS (pl := numD 0 [_, _, _, _]) (zvs := [.int .i64 0, .int .i64 0, .int .i64 0, .string ⟨#[]⟩, .string ⟨#[]⟩, .int .i64 0, .int .i64 0, .int .i64 0, .string ⟨#[]⟩, .string ⟨#[]⟩, .int .i64 0, .int .i64 0, .int .i64 0, .string ⟨#[]⟩, .string ⟨#[]⟩, .int .i64 0, .int .i64 0, .int .i64 0, .string ⟨#[]⟩, .string ⟨#[]⟩]) (ds := [_, _, _, _, _, _, _, _, _, _, _, _, _, _, _, _, _, _, _, _]) (wants_plain rfl) rfl rfl Tryd.zeroValue40 Tryd.runUnderlying25 Tryd.sizeOf40 rfl rfl (by kernel_rfl) ⟨rfl, ot, rfl, ot, rfl, ot, rfl, ot, trivial⟩ (by exact rfl) (fill_full (by exact rfl) (by exact rfl) (by exact rfl)) (fun b48 => ?_)
 refine OD.perm (perm_q11 (S1 := [⟨b48, 40, 4 * 5, List.flatMap cO ([litO x, idO, bareOp 7, bareOp 5])⟩]) (A := [_, _, _])) ?_
 refine OD.giveL (t := 48) (Sq := [⟨b48, 40, 4 * 5, List.flatMap cO ([litO x, idO, bareOp 7, bareOp 5])⟩]) lk (ownL_row (g := cO) (sz := 5) (e := 40) (ls := [litO x, idO, bareOp 7, bareOp 5]) (Nat.le_refl _) (show 4 ≤ maxLen by decide)) (fm_len cO_len _) (perm_r11 (A := [_, _, _])) ?_
 refine OD.still (wants_plain rfl) rfl (still_r1 (mk := Op.load 40) rfl ot (by first | exact ld_blks (k := 1) (ds := [_, _, _, _, _]) rfl rfl Tryd.isAgg40 Tryd.sizeOf40 rfl rfl | exact ld_is (ds := [_, _, _, _, _]) Tryd.isAgg40 Tryd.sizeOf40 rfl rfl)) ?_
 refine OD.still (wants_plain rfl) rfl (still_r1 (mk := Op.load 40) rfl ot (by first | exact ld_blks (k := 0) (ds := [_, _, _, _, _]) rfl rfl Tryd.isAgg40 Tryd.sizeOf40 rfl rfl | exact ld_is (ds := [_, _, _, _, _]) Tryd.isAgg40 Tryd.sizeOf40 rfl rfl)) ?_
 refine OD.still (wants_plain rfl) rfl (still_bld (pl := [(0, _)]) (ds := [_, _, _, _, _]) rfl Tryd.zeroValue40 Tryd.runUnderlying40 places40_Exb ⟨rfl, opd_const, trivial⟩ rfl rfl) ?_
 refine OD.still (wants_plain rfl) rfl (still_bld (pl := [(0, _)]) (ds := [_, _, _, _, _]) rfl Tryd.zeroValue40 Tryd.runUnderlying40 places40_Exb ⟨rfl, opd_const, trivial⟩ rfl rfl) ?_
 refine OD.bldS (pl := numD 0 [_, _, _, _]) (zvs := [.int .i64 0, .int .i64 0, .int .i64 0, .string ⟨#[]⟩, .string ⟨#[]⟩, .int .i64 0, .int .i64 0, .int .i64 0, .string ⟨#[]⟩, .string ⟨#[]⟩, .int .i64 0, .int .i64 0, .int .i64 0, .string ⟨#[]⟩, .string ⟨#[]⟩, .int .i64 0, .int .i64 0, .int .i64 0, .string ⟨#[]⟩, .string ⟨#[]⟩]) (ds := [_, _, _, _, _, _, _, _, _, _, _, _, _, _, _, _, _, _, _, _]) (wants_plain rfl) rfl rfl Tryd.zeroValue40 Tryd.runUnderlying25 Tryd.sizeOf40 rfl rfl (by kernel_rfl) ⟨rfl, ot, rfl, ot, rfl, ot, rfl, ot, trivial⟩ (by exact rfl) (fill_full (by exact rfl) (by exact rfl) (by exact rfl)) (fun b53 => ?_)
 refine OD.perm (perm_q11 (S1 := [⟨b53, 40, 4 * 5, List.flatMap cO ([idO, litO x, bareOp 6, bareOp 5])⟩]) (A := [_, _, _])) ?_
 refine OD.giveL (t := 53) (Sq := [⟨b53, 40, 4 * 5, List.flatMap cO ([idO, litO x, bareOp 6, bareOp 5])⟩]) lk (ownL_row (g := cO) (sz := 5) (e := 40) (ls := [idO, litO x, bareOp 6, bareOp 5]) (Nat.le_refl _) (show 4 ≤ maxLen by decide)) (fm_len cO_len _) (perm_r11 (A := [_, _, _])) ?_
 refine OD.bldS (pl := numD 0 [_, _, _, _, _, _, _]) (zvs := [.slice none 0 0, .slice none 0 0, .slice none 0 0, .slice none 0 0, .slice none 0 0, .slice none 0 0, .slice none 0 0]) (ds := [_, _, _, _, _, _, _]) (wants_plain rfl) rfl rfl Tryd.zeroValue25 Tryd.runUnderlying46 Tryd.sizeOf25 rfl rfl (by kernel_rfl) ⟨rfl, ot, rfl, ot, rfl, ot, rfl, ot, rfl, ot, rfl, ot, rfl, ot, trivial⟩ (by exact rfl) (fill_full (by exact rfl) (by exact rfl) (by exact rfl)) (fun b54 => ?_)
 refine OD.still (wants_plain rfl) rfl (still_as rfl ot) ?_
 refine OD.wk (Wk.as_ (n := 134) (l' := [(1, _), (5, _), (8, _)]) (S' := [⟨b54, 25, 7, [_, _, _, _, _, _, _]⟩, ⟨b7, 40, 5, [_, _, _, _, _]⟩, ⟨b6, 40, 5, [_, _, _, _, _]⟩, ⟨b5, 33, 3, [_, _, _]⟩]) rfl rfl ⟨lk, lk, lk, trivial⟩) ?_
 refine OD.nil ?_
 refine CD.seq ?_
 refine CD.region ?_
 refine OD.still (wants_plain rfl) rfl (still_mv rfl ot) ?_
 refine OD.callP (wants_plain rfl) rfl rfl rfl Tryd.call15 (hpk) ⟨ot, opd_const, trivial⟩ ?_
 refine OD.still (wants_plain rfl) rfl (still_as rfl ot) ?_
 refine OD.wk (Wk.as_ (n := 134) (l' := [(5, _), (8, _), (9, _)]) (S' := [⟨b54, 25, 7, [_, _, _, _, _, _, _]⟩, ⟨b7, 40, 5, [_, _, _, _, _]⟩, ⟨b6, 40, 5, [_, _, _, _, _]⟩, ⟨b5, 33, 3, [_, _, _]⟩]) rfl rfl ⟨lk, lk, lk, trivial⟩) ?_
 refine OD.nil ?_
 refine CD.seq ?_
 refine CD.draw (bks _) (by kernel_rfl) (fun _ h => h) ?_
 refine AD0.take (i := 1) rfl (by kernel_rfl) (by kernel_rfl) (by kernel_rfl) (by repeat (first | exact NP.body | apply NP.then | apply NP.cut | apply NP.inBlock | apply NP.round)) (wants_plain rfl) rfl (still_mv rfl ot) (by exact trivial) ?_
 refine AD0.take (i := 2) rfl (by kernel_rfl) (by kernel_rfl) (by kernel_rfl) (by repeat (first | exact NP.body | apply NP.then | apply NP.cut | apply NP.inBlock | apply NP.round)) (wants_plain rfl) rfl (still_mv rfl ot) (by exact trivial) ?_
 refine AD0.take (i := 3) rfl (by kernel_rfl) (by kernel_rfl) (by kernel_rfl) (by repeat (first | exact NP.body | apply NP.then | apply NP.cut | apply NP.inBlock | apply NP.round)) (wants_plain rfl) rfl (still_r2 (mk := Op.indexAddr 46) rfl ot ot (by first | exact ix_list Tryd.runUnderlying46 Tryd.sizeOf25 (j := 3) rfl (by decide) | exact ix_row Tryd.runUnderlying46 Tryd.sizeOf25 (j := 3) rfl (by decide))) (by exact trivial) ?_
 refine AD0.take (i := 4) rfl (by kernel_rfl) (by kernel_rfl) (by kernel_rfl) (by repeat (first | exact NP.body | apply NP.then | apply NP.cut | apply NP.inBlock | apply NP.round)) (wants_plain rfl) rfl (still_r1 (mk := Op.load 25) rfl ot (by first | exact ld_blk (k := 0) rfl rfl Tryd.isAgg25 rfl | exact ld_blk (k := 1) rfl rfl Tryd.isAgg25 rfl | exact ld_blk (k := 2) rfl rfl Tryd.isAgg25 rfl | exact ld_blk (k := 3) rfl rfl Tryd.isAgg25 rfl | exact ld_i Tryd.isAgg25 rfl)) (by first | exact trivial | exact safe_blk (k0 := 0) rfl rfl | exact safe_blk (k0 := 1) rfl rfl | exact safe_blk (k0 := 2) rfl rfl | exact safe_blk (k0 := 3) rfl rfl) ?_
 refine AD0.later rfl ?_
 refine AD.one (i := 0) (by kernel_rfl) ?_
 refine AStep.callP rfl (wants_plain rfl) rfl rfl rfl Tryd.call10 (colsOf_vp) trivial ?_
 refine AD.one (i := 5) (by kernel_rfl) ?_
 refine AStep.callP rfl (wants_plain rfl) rfl rfl rfl Tryd.call16 (hbv) ⟨ot, ot, trivial⟩ ?_
 refine AD.take (i := 6) rfl (by kernel_rfl) (by kernel_rfl) (by kernel_rfl) (by repeat (first | exact NP.body | apply NP.then | apply NP.cut | apply NP.inBlock | apply NP.round)) (wants_plain rfl) rfl (still_mv rfl ot) (by exact trivial) (by intro h; cases h) ?_
 refine AD.take (i := 7) rfl (by kernel_rfl) (by kernel_rfl) (by kernel_rfl) (by repeat (first | exact NP.body | apply NP.then | apply NP.cut | apply NP.inBlock | apply NP.round)) (wants_plain rfl) rfl (still_extract rfl ot rfl) (by exact trivial) (by intro h; cases h) ?_
 refine AD.take (i := 8) rfl (by kernel_rfl) (by kernel_rfl) (by kernel_rfl) (by repeat (first | exact NP.body | apply NP.then | apply NP.cut | apply NP.inBlock | apply NP.round)) (wants_plain rfl) rfl (still_extract rfl ot rfl) (by exact trivial) (by intro h; cases h) ?_
 refine AD.take (i := 9) rfl (by kernel_rfl) (by kernel_rfl) (by kernel_rfl) (by repeat (first | exact NP.body | apply NP.then | apply NP.cut | apply NP.inBlock | apply NP.round)) (wants_plain rfl) rfl (still_extract rfl ot rfl) (by exact trivial) (by intro h; cases h) ?_
 refine AD.take (i := 10) rfl (by kernel_rfl) (by kernel_rfl) (by kernel_rfl) (by repeat (first | exact NP.body | apply NP.then | apply NP.cut | apply NP.inBlock | apply NP.round)) (wants_plain rfl) rfl (still_as rfl ot) (by exact trivial) (by intro h; cases h) ?_
 refine AD.take (i := 11) rfl (by kernel_rfl) (by kernel_rfl) (by kernel_rfl) (by repeat (first | exact NP.body | apply NP.then | apply NP.cut | apply NP.inBlock | apply NP.round)) (wants_plain rfl) rfl (still_as rfl ot) (by exact trivial) (by intro h; cases h) ?_
 refine AD.take (i := 12) rfl (by kernel_rfl) (by kernel_rfl) (by kernel_rfl) (by repeat (first | exact NP.body | apply NP.then | apply NP.cut | apply NP.inBlock | apply NP.round)) (wants_plain rfl) rfl (still_as rfl ot) (by exact trivial) (by intro h; cases h) ?_
 refine AD.wk (y := ⟨134, [(5, _), (9, _), (10, _), (11, _), (12, _)], [⟨b54, 25, 7, [_, _, _, _, _, _, _]⟩, ⟨b7, 40, 5, [_, _, _, _, _]⟩, ⟨b6, 40, 5, [_, _, _, _, _]⟩, ⟨b5, 33, 3, [_, _, _]⟩]⟩) (Wk.as_ rfl rfl ⟨lk, lk, lk, lk, lk, trivial⟩) rfl ?_
 refine AD.done (by kernel_rfl) ?_
 refine CD.seq ?_
 refine CD.region ?_
 refine OD.still (wants_plain rfl) rfl (still_r1 (mk := Op.load 33) rfl ot (by first | exact ld_blks (k := 3) (ds := [_, _, _]) rfl rfl Tryd.isAgg33 Tryd.sizeOf33 rfl rfl | exact ld_is (ds := [_, _, _]) Tryd.isAgg33 Tryd.sizeOf33 rfl rfl)) ?_
 refine OD.bldS (pl := numD 0 [_]) (zvs := [.int .i64 0, .int .i64 0, .string ⟨#[]⟩]) (ds := [_, _, _]) (wants_plain rfl) rfl rfl Tryd.zeroValue33 Tryd.runUnderlying36 Tryd.sizeOf33 rfl rfl (by kernel_rfl) ⟨rfl, ot, trivial⟩ (by exact rfl) (fill_full (by exact rfl) (by exact rfl) (by exact rfl)) (fun b69 => ?_)
 refine OD.perm (perm_q11 (S1 := [⟨b69, 33, 1 * 3, List.flatMap cV ([numV x])⟩]) (A := [_, _, _, _])) ?_
 refine OD.giveL (t := 69) (Sq := [⟨b69, 33, 1 * 3, List.flatMap cV ([numV x])⟩]) lk (ownL_row (g := cV) (sz := 3) (e := 33) (ls := [numV x]) (Nat.le_refl _) (show 1 ≤ maxLen by decide)) (fm_len cV_len _) (perm_r11 (A := [_, _, _, _])) ?_
 refine OD.callP (wants_plain rfl) rfl rfl rfl Tryd.call17 (hev) ⟨ot, trivial⟩ ?_
 refine OD.still (wants_plain rfl) rfl (still_mv rfl ot) ?_
 refine OD.still (wants_plain rfl) rfl (still_extract rfl ot rfl) ?_
 refine OD.still (wants_plain rfl) rfl (still_extract rfl ot rfl) ?_
 refine OD.still (wants_plain rfl) rfl (still_as rfl ot) ?_
 refine OD.still (wants_plain rfl) rfl (still_as rfl ot) ?_
 refine OD.wk (Wk.as_ (n := 134) (l' := [(9, _), (10, _), (11, _), (12, _), (13, _), (14, _)]) (S' := [⟨b54, 25, 7, [_, _, _, _, _, _, _]⟩, ⟨b7, 40, 5, [_, _, _, _, _]⟩, ⟨b6, 40, 5, [_, _, _, _, _]⟩, ⟨b5, 33, 3, [_, _, _]⟩]) rfl rfl ⟨lk, lk, lk, lk, lk, lk, trivial⟩) ?_
 refine OD.nil ?_
 refine CD.seq ?_
 refine CD.region ?_
 refine OD.still (wants_plain rfl) rfl (still_mv rfl ot) ?_
 refine OD.still (wants_plain rfl) rfl (still_bin rfl ot opd_const bin_lss) ?_
 refine OD.still (wants_plain rfl) rfl (still_mv rfl ot) ?_
 refine OD.split (t := 75) lk (fun hg75 => ?_) (fun hg75 => ?_)
 ·exact absurd hg75 (by decide)
 ·have hg75' := hg75; (try simp only [V.cnd, ne_eq] at hg75')
  refine OD.still (wants_T rfl rfl rfl lk (by first | rfl | assumption)) rfl (still_mv rfl ot) ?_
  refine OD.still (wants_T rfl rfl rfl lk (by first | rfl | assumption)) rfl (still_bin rfl ot opd_const bin_eql) ?_
  refine OD.still (wants_plain rfl) rfl (still_pickF rfl ot (by first | rfl | assumption) ot) ?_
  refine OD.still (wants_plain rfl) rfl (still_mv rfl ot) ?_
  refine OD.split (t := 79) lk (fun hg79 => ?_) (fun hg79 => ?_)
  ·have hg79' := hg79; (try simp only [V.cnd, ne_eq] at hg79')
   refine OD.skip (wants_F rfl rfl rfl lk (by first | rfl | assumption)) rfl ?_
   refine OD.skip (wants_F rfl rfl rfl lk (by first | rfl | assumption)) rfl ?_
   refine OD.still (wants_plain rfl) rfl (still_pickT rfl ot (by first | rfl | assumption) opd_const) ?_
   refine OD.still (wants_plain rfl) rfl (still_as rfl ot) ?_
   refine OD.wk (Wk.as_ (n := 134) (l' := [(9, _), (10, _), (11, _), (12, _), (13, _), (14, _), (15, _)]) (S' := [⟨b54, 25, 7, [_, _, _, _, _, _, _]⟩, ⟨b7, 40, 5, [_, _, _, _, _]⟩, ⟨b6, 40, 5, [_, _, _, _, _]⟩, ⟨b5, 33, 3, [_, _, _]⟩]) rfl rfl ⟨lk, lk, lk, lk, lk, lk, lk, trivial⟩) ?_
   refine OD.nil ?_
   refine CD.seq ?_
   refine CD.region ?_
   refine OD.still (wants_plain rfl) rfl (still_mv rfl ot) ?_
   refine OD.still (wants_plain rfl) rfl (still_bin rfl ot opd_const bin_lss) ?_
   refine OD.still (wants_plain rfl) rfl (still_mv rfl ot) ?_
   refine OD.split (t := 85) lk (fun hg85 => ?_) (fun hg85 => ?_)
   ·exact absurd hg85 (by decide)
   ·have hg85' := hg85; (try simp only [V.cnd, ne_eq] at hg85')
    refine OD.still (wants_T rfl rfl rfl lk (by first | rfl | assumption)) rfl (still_mv rfl ot) ?_
    refine OD.still (wants_T rfl rfl rfl lk (by first | rfl | assumption)) rfl (still_bin rfl ot opd_const bin_eql) ?_
    refine OD.still (wants_plain rfl) rfl (still_pickF rfl ot (by first | rfl | assumption) ot) ?_
    refine OD.still (wants_plain rfl) rfl (still_as rfl ot) ?_
    refine OD.wk (Wk.as_ (n := 134) (l' := [(10, _), (11, _), (12, _), (13, _), (14, _), (15, _), (16, _)]) (S' := [⟨b54, 25, 7, [_, _, _, _, _, _, _]⟩, ⟨b7, 40, 5, [_, _, _, _, _]⟩, ⟨b6, 40, 5, [_, _, _, _, _]⟩, ⟨b5, 33, 3, [_, _, _]⟩]) rfl rfl ⟨lk, lk, lk, lk, lk, lk, lk, trivial⟩) ?_
    refine OD.nil ?_
    refine CD.seq ?_
    refine CD.seq ?_
    refine CD.region ?_
    refine OD.still (wants_plain rfl) rfl (still_mv rfl ot) ?_
    refine OD.still (wants_plain rfl) rfl (still_bin rfl ot opd_const bin_neq) ?_
    refine OD.still (wants_plain rfl) rfl (still_mv rfl ot) ?_
    refine OD.split (t := 91) lk (fun hg91 => ?_) (fun hg91 => ?_)
    ·exact absurd hg91 (by simp)
    ·have hg91' := hg91; (try simp only [V.cnd, ne_eq] at hg91')
     refine OD.still (wants_T rfl rfl rfl lk (by first | rfl | assumption)) rfl (still_mv rfl ot) ?_
     refine OD.still (wants_T rfl rfl rfl lk (by first | rfl | assumption)) rfl (still_bin rfl ot opd_const bin_neq) ?_
     refine OD.still (wants_plain rfl) rfl (still_pickF rfl ot (by first | rfl | assumption) ot) ?_
     refine OD.still (wants_plain rfl) rfl (still_mv rfl ot) ?_
     refine OD.split (t := 95) lk (fun hg95 => ?_) (fun hg95 => ?_)
     ·exact absurd hg95 (by simp)
     ·have hg95' := hg95; (try simp only [V.cnd, ne_eq] at hg95')
      refine OD.still (wants_T rfl rfl rfl lk (by first | rfl | assumption)) rfl (still_mv rfl ot) ?_
      refine OD.still (wants_T rfl rfl rfl lk (by first | rfl | assumption)) rfl (still_r1 (mk := fun y => .call { callee := .builtin .len, args := #[y], argTypes := #[47] }) rfl ot (by first | exact len_list rfl Tryd.runUnderlying47 | exact len_row rfl Tryd.runUnderlying47)) ?_
      refine OD.still (wants_T rfl rfl rfl lk (by first | rfl | assumption)) rfl (still_bin rfl ot opd_const bin_eql) ?_
      refine OD.still (wants_plain rfl) rfl (still_pickF rfl ot (by first | rfl | assumption) ot) ?_
      refine OD.wk (Wk.as_ (n := 134) (l' := [(10, _), (11, _), (13, _), (15, _), (16, _), (99, _)]) (S' := [⟨b54, 25, 7, [_, _, _, _, _, _, _]⟩, ⟨b7, 40, 5, [_, _, _, _, _]⟩, ⟨b6, 40, 5, [_, _, _, _, _]⟩, ⟨b5, 33, 3, [_, _, _]⟩]) rfl rfl ⟨lk, lk, lk, lk, lk, lk, trivial⟩) ?_
      refine OD.nil ?_
      refine CD.cond ot (fun hc0 => ?_) (fun hc0 => ?_)
      ·exact absurd hc0 (by rw [hkl]; decide)
      ·have hc0' := hc0
       (try simp only [V.cnd, ne_eq] at hc0')
       refine CD.skip ?_
       refine CD.seq ?_
       refine CD.seq ?_
       refine CD.region ?_
       refine OD.still (wants_plain rfl) rfl (still_mv rfl ot) ?_
       refine OD.still (wants_plain rfl) rfl (still_mv rfl ot) ?_
       refine OD.still (wants_T rfl rfl rfl lk (by first | rfl | assumption)) rfl (still_mv rfl ot) ?_
       first | refine OD.still (wants_T rfl rfl rfl lk (by first | rfl | assumption)) rfl (still_ofBytes rfl ot Tryd.underlying47 Tryd.underlying5 Tryd.underlying9) ?_ | refine OD.still (wants_T rfl rfl rfl lk (by first | rfl | assumption)) rfl (still_ofBytesF rfl ot Tryd.underlying47 Tryd.underlying5 Tryd.underlying9) ?_
       refine OD.still (wants_T rfl rfl rfl lk (by first | rfl | assumption)) rfl (still_mv rfl ot) ?_
       first | refine OD.still (wants_T rfl rfl rfl lk (by first | rfl | assumption)) rfl (still_ofBytes rfl ot Tryd.underlying47 Tryd.underlying5 Tryd.underlying9) ?_ | refine OD.still (wants_T rfl rfl rfl lk (by first | rfl | assumption)) rfl (still_ofBytesF rfl ot Tryd.underlying47 Tryd.underlying5 Tryd.underlying9) ?_
       refine OD.still (wants_T rfl rfl rfl lk (by first | rfl | assumption)) rfl (still_bin rfl ot ot bin_sneq) ?_
       refine OD.still (wants_plain rfl) rfl (still_pickT rfl ot (by first | rfl | assumption) ot) ?_
       refine OD.still (wants_plain rfl) rfl (still_mv rfl ot) ?_
       refine OD.split (t := 108) lk (fun hg108 => ?_) (fun hg108 => ?_)
       ·exact absurd hg108 (by simp)
       ·have hg108' := hg108; (try simp only [V.cnd, ne_eq] at hg108')
        refine OD.still (wants_T rfl rfl rfl lk (by first | rfl | assumption)) rfl (still_mv rfl ot) ?_
        refine OD.still (wants_T rfl rfl rfl lk (by first | rfl | assumption)) rfl (still_un rfl ot un_not) ?_
        refine OD.still (wants_T rfl rfl rfl lk (by first | rfl | assumption)) rfl (still_mv rfl ot) ?_
        refine OD.skip (wants_F rfl rfl rfl lk (by first | rfl | assumption)) rfl ?_
        refine OD.skip (wants_F rfl rfl rfl lk (by first | rfl | assumption)) rfl ?_
        refine OD.skip (wants_F rfl rfl rfl lk (by first | rfl | assumption)) rfl ?_
        refine OD.still (wants_T rfl rfl rfl lk (by first | rfl | assumption)) rfl (still_pickF rfl ot (by first | rfl | assumption) opd_const) ?_
        refine OD.still (wants_plain rfl) rfl (still_pickF rfl ot (by first | rfl | assumption) ot) ?_
        refine OD.wk (Wk.as_ (n := 134) (l' := [(11, _), (13, _), (16, _), (116, _)]) (S' := [⟨b54, 25, 7, [_, _, _, _, _, _, _]⟩, ⟨b7, 40, 5, [_, _, _, _, _]⟩, ⟨b6, 40, 5, [_, _, _, _, _]⟩, ⟨b5, 33, 3, [_, _, _]⟩]) rfl rfl ⟨lk, lk, lk, lk, trivial⟩) ?_
        refine OD.nil ?_
        refine CD.condF ot (by first | rfl | assumption) ?_
        refine CD.skip ?_
        refine CD.seq ?_
        refine CD.region ?_
        refine OD.still (wants_plain rfl) rfl (still_mv rfl ot) ?_
        refine OD.still (wants_plain rfl) rfl (still_mv rfl ot) ?_
        refine OD.split (t := 118) lk (fun hg118 => ?_) (fun hg118 => ?_)
        ·exact absurd hg118 (by decide)
        ·have hg118' := hg118; (try simp only [V.cnd, ne_eq] at hg118')
         refine OD.skip (wants_F rfl rfl rfl lk (by first | rfl | assumption)) rfl ?_
         refine OD.skip (wants_F rfl rfl rfl lk (by first | rfl | assumption)) rfl ?_
         refine OD.skip (wants_F rfl rfl rfl lk (by first | rfl | assumption)) rfl ?_
         refine OD.skip (wants_F rfl rfl rfl lk (by first | rfl | assumption)) rfl ?_
         refine OD.skip (wants_F rfl rfl rfl lk (by first | rfl | assumption)) rfl ?_
         refine OD.still (wants_plain rfl) rfl (still_pickF rfl ot (by first | rfl | assumption) opd_const) ?_
         refine OD.still (wants_plain rfl) rfl (still_mv rfl ot) ?_
         refine OD.still (wants_T rfl rfl rfl lk (by first | rfl | assumption)) rfl (still_mv rfl ot) ?_
         refine OD.still (wants_T rfl rfl rfl lk (by first | rfl | assumption)) rfl (still_un rfl ot un_not) ?_
         refine OD.still (wants_T rfl rfl rfl lk (by first | rfl | assumption)) rfl (still_mv rfl ot) ?_
         refine OD.split (t := 128) lk (fun hg128 => ?_) (fun hg128 => ?_)
         ·have hg128' := hg128; (try simp only [V.cnd, ne_eq] at hg128')
          refine OD.still (wants_T rfl rfl rfl lk (by first | rfl | assumption)) rfl (still_mv rfl ot) ?_
          refine OD.still (wants_T rfl rfl rfl lk (by first | rfl | assumption)) rfl (still_r1 (mk := fun y => .call { callee := .builtin .len, args := #[y], argTypes := #[47] }) rfl ot (by first | exact len_list rfl Tryd.runUnderlying47 | exact len_row rfl Tryd.runUnderlying47)) ?_
          refine OD.still (wants_T rfl rfl rfl lk (by first | rfl | assumption)) rfl (still_bin rfl ot opd_const bin_eql) ?_
          refine OD.still (wants_T rfl rfl rfl lk (by first | rfl | assumption)) rfl (still_pickT rfl ot (by first | rfl | assumption) ot) ?_
          refine OD.still (wants_plain rfl) rfl (still_pickF rfl ot (by first | rfl | assumption) ot) ?_
          refine OD.still (wants_plain rfl) rfl (still_as rfl ot) ?_
          refine OD.wk (Wk.as_ (n := 134) (l' := [(4, _)]) (S' := [⟨b54, 25, 7, [_, _, _, _, _, _, _]⟩, ⟨b7, 40, 5, [_, _, _, _, _]⟩, ⟨b6, 40, 5, [_, _, _, _, _]⟩, ⟨b5, 33, 3, [_, _, _]⟩]) rfl rfl ⟨lk, trivial⟩) ?_
          refine OD.nil ?_
          refine CD.ret ?_
          refine ⟨.inr rfl, _, [], List.nil_sublist _, ret_one Tryd.results5 (res_tmp (Nat.le_of_ble_eq_true rfl) lk), ?_⟩
          first | exact ⟨rfl, rfl⟩ | (refine ⟨vb ?_, rfl⟩; simp)
         ·exact absurd hg128 (by decide)
  ·exact absurd hg79 (by decide)

set_option maxHeartbeats 4000000 in
set_option maxRecDepth 100000 in
theorem one4_vp {m : Int} (hm : (3, marksC) ∈ G) (hw : (0, wordsC) ∈ G) (ht : (2, typesC) ∈ G) (hG : (1, [Value.int .i64 m]) ∈ G) (n : Int) (n1 : -9223372036854775808 ≤ n) (n2 : n ≤ 9223372036854775807) (form : Int) (form1 : -9223372036854775808 ≤ form) (form2 : form ≤ 9223372036854775807) (hk : pickedF form 7 = 4) : VP Tryd.prog G 5 [.v (.int .i64 n), .v (.int .i64 form)] (.v (.bool true)) := by
 refine VC.body Tryd.func5 rfl Tryd.ntmps5 (Nat.le_of_ble_eq_true rfl) fun X0 w0 S00 => ?_
 have hxb := pickedF_bd n (show (1 : Int) ≤ 1000 by decide)
 have hbv := Bounds_at hm hw ht hG [idO, litO (pickedF n 1000), bareOp 7, bareOp 5] (fine_cons fine_id (fine_cons (fine_lit (by omega) (by omega)) (fine_cons (fine_bare 7) (fine_cons (fine_bare 5) fine_nil))))
 rw [one4 hxb.1] at hbv
 unfold bdD bytesL at hbv
 have hev := enc_at hm hw ht hG (pickedF n 1000) hxb.1 (by omega)
 have hkl := key_len (pickedF n 1000)
 have hpn := (picked_vp G n 1000 n1 n2 (by decide))
 have hpk := (picked_vp G form 7 form1 form2 (by decide))
 rw [hk] at hpk
 skip
 generalize (pickedF n 1000) = x at *
 refine CD.seq ?_
 refine CD.region ?_
 refine OD.still (wants_plain rfl) rfl (still_as rfl opd_const) ?_
 refine OD.wk (Wk.as_ (n := 134) (l' := [(0, _), (1, _)]) (S' := []) rfl rfl ⟨lk, lk, trivial⟩) ?_
 refine OD.nil ?_
 refine CD.seq ?_
 refine CD.region ?_
 refine OD.still (wants_plain rfl) rfl (still_mv rfl ot) ?_
 refine OD.callP (wants_plain rfl) rfl rfl rfl Tryd.call15 (hpn) ⟨ot, opd_const, trivial⟩ ?_
 refine OD.still (wants_plain rfl) rfl (still_bld (pl := [(0, _), (1, _)]) (ds := [_, _, _]) rfl Tryd.zeroValue33 Tryd.runUnderlying33 places33_Exb ⟨rfl, opd_const, rfl, ot, trivial⟩ rfl rfl) ?_
 refine OD.alloc (ds := [_, _, _]) (wants_plain rfl) rfl rfl Tryd.zeroValue33 rfl (fun b5 => ?_)
 refine OD.store (k := 0) (cs' := [_, _, _]) (wants_plain rfl) rfl rfl ot rfl rfl ot rfl rfl Tryd.sizeOf33 rfl rfl rfl ?_
 refine OD.wk (Wk.as_ (n := 134) (l' := [(1, _), (5, _)]) (S' := [⟨b5, 33, 3, [_, _, _]⟩]) rfl rfl ⟨lk, lk, trivial⟩) ?_
 refine OD.nil ?_
 refine CD.seq ?_
 refine CD.region ?_
 refine OD.still (wants_plain rfl) rfl (still_bld (pl := [(0, _), (2, _)]) (ds := [_, _, _, _, _]) rfl Tryd.zeroValue40 Tryd.runUnderlying40 places40_Exb ⟨rfl, opd_const, rfl, opd_const, trivial⟩ rfl rfl) ?_
 refine OD.alloc (ds := [_, _, _, _, _]) (wants_plain rfl) rfl rfl Tryd.zeroValue40 rfl (fun b6 => ?_)
 refine OD.store (k := 0) (cs' := [_, _, _, _, _]) (wants_plain rfl) rfl rfl ot rfl rfl ot rfl rfl Tryd.sizeOf40 rfl rfl rfl ?_
 refine OD.wk (Wk.as_ (n := 134) (l' := [(1, _), (5, _), (6, _)]) (S' := [⟨b6, 40, 5, [_, _, _, _, _]⟩, ⟨b5, 33, 3, [_, _, _]⟩]) rfl rfl ⟨lk, lk, lk, trivial⟩) ?_
 refine OD.nil ?_
 refine CD.seq ?_
 refine CD.region ?_
 refine OD.still (wants_plain rfl) rfl (still_r1 (mk := Op.load 33) rfl ot (by first | exact ld_blks (k := 1) (ds := [_, _, _]) rfl rfl Tryd.isAgg33 Tryd.sizeOf33 rfl rfl | exact ld_is (ds := [_, _, _]) Tryd.isAgg33 Tryd.sizeOf33 rfl rfl)) ?_
 refine OD.still (wants_plain rfl) rfl (still_bld (pl := [(0, _), (1, _)]) (ds := [_, _, _, _, _]) rfl Tryd.zeroValue40 Tryd.runUnderlying40 places40_Exb ⟨rfl, opd_const, rfl, ot, trivial⟩ rfl rfl) ?_
 refine OD.alloc (ds := [_, _, _, _, _]) (wants_plain rfl) rfl rfl Tryd.zeroValue40 rfl (fun b7 => ?_)
 refine OD.store (k := 0) (cs' := [_, _, _, _, _]) (wants_plain rfl) rfl rfl ot rfl rfl ot rfl rfl Tryd.sizeOf40 rfl rfl rfl ?_
 refine OD.wk (Wk.as_ (n := 134) (l' := [(1, _), (5, _), (6, _), (7, _)]) (S' := [⟨b7, 40, 5, [_, _, _, _, _]⟩, ⟨b6, 40, 5, [_, _, _, _, _]⟩, ⟨b5, 33, 3, [_, _, _]⟩]) rfl rfl ⟨lk, lk, lk, lk, trivial⟩) ?_
 refine OD.nil ?_
 refine CD.seq ?_
 refine CD.region ?_
 refine OD.still (wants_plain rfl) rfl (still_r1 (mk := Op.load 40) rfl ot (by first | exact ld_blks (k := 1) (ds := [_, _, _, _, _]) rfl rfl Tryd.isAgg40 Tryd.sizeOf40 rfl rfl | exact ld_is (ds := [_, _, _, _, _]) Tryd.isAgg40 Tryd.sizeOf40 rfl rfl)) ?_
 refine OD.still (wants_plain rfl) rfl (still_r1 (mk := Op.load 40) rfl ot (by first | exact ld_blks (k := 0) (ds := [_, _, _, _, _]) rfl rfl Tryd.isAgg40 Tryd.sizeOf40 rfl rfl | exact ld_is (ds := [_, _, _, _, _]) Tryd.isAgg40 Tryd.sizeOf40 rfl rfl)) ?_
 refine OD.still (wants_plain rfl) rfl (still_bld (pl := [(0, _)]) (ds := [_, _, _, _, _]) rfl Tryd.zeroValue40 Tryd.runUnderlying40 places40_Exb ⟨rfl, opd_const, trivial⟩ rfl rfl) ?_
 refine OD.bldS (pl := numD 0 [_, _, _]) (zvs := [.int .i64 0, .int .i64 0, .int .i64 0, .string ⟨#[]⟩, .string ⟨#[]⟩, .int .i64 0, .int .i64 0, .int .i64 0, .string ⟨#[]⟩, .string ⟨#[]⟩, .int .i64 0, .int .i64 0, .int .i64 0, .string ⟨#[]⟩, .string ⟨#[]⟩]) (ds := [_, _, _, _, _, _, _, _, _, _, _, _, _, _, _]) (wants_plain rfl) rfl rfl Tryd.zeroValue40 Tryd.runUnderlying25 Tryd.sizeOf40 rfl rfl (by kernel_rfl) ⟨rfl, ot, rfl, ot, rfl, ot, trivial⟩ (by exact rfl) (fill_full (by exact rfl) (by exact rfl) (by exact rfl)) (fun b26 => ?_)
 refine OD.perm (perm_q11 (S1 := [⟨b26, 40, 3 * 5, List.flatMap cO ([idO, litO x, bareOp 6])⟩]) (A := [_, _, _])) ?_
 refine OD.giveL (t := 26) (Sq := [⟨b26, 40, 3 * 5, List.flatMap cO ([idO, litO x, bareOp 6])⟩]) lk (ownL_row (g := cO) (sz := 5) (e := 40) (ls := [idO, litO x, bareOp 6]) (Nat.le_refl _) (show 3 ≤ maxLen by decide)) (fm_len cO_len _) (perm_r11 (A := [_, _, _])) ?_
 refine OD.still (wants_plain rfl) rfl (still_r1 (mk := Op.load 40) rfl ot (by first | exact ld_blks (k := 0) (ds := [_, _, _, _, _]) rfl rfl Tryd.isAgg40 Tryd.sizeOf40 rfl rfl | exact ld_is (ds := [_, _, _, _, _]) Tryd.isAgg40 Tryd.sizeOf40 rfl rfl)) ?_
 refine OD.still (wants_plain rfl) rfl (still_r1 (mk := Op.load 40) rfl ot (by first | exact ld_blks (k := 1) (ds := [_, _, _, _, _]) rfl rfl Tryd.isAgg40 Tryd.sizeOf40 rfl rfl | exact ld_is (ds := [_, _, _, _, _]) Tryd.isAgg40 Tryd.sizeOf40 rfl rfl)) ?_
 refine OD.still (wants_plain rfl) rfl (still_bld (pl := [(0, _)]) (ds := [_, _, _, _, _]) rfl Tryd.zeroValue40 Tryd.runUnderlying40 places40_Exb ⟨rfl, opd_const, trivial⟩ rfl rfl) ?_
 refine OD.bldS (pl := numD 0 [_, _, _]) (zvs := [.int .i64 0, .int .i64 0, .int .i64 0, .string ⟨#[]⟩, .string ⟨#[]⟩, .int .i64 0, .int .i64 0, .int .i64 0, .string ⟨#[]⟩, .string ⟨#[]⟩, .int .i64 0, .int .i64 0, .int .i64 0, .string ⟨#[]⟩, .string ⟨#[]⟩]) (ds := [_, _, _, _, _, _, _, _, _, _, _, _, _, _, _]) (wants_plain rfl) rfl rfl Tryd.zeroValue40 Tryd.runUnderlying25 Tryd.sizeOf40 rfl rfl (by kernel_rfl) ⟨rfl, ot, rfl, ot, rfl, ot, trivial⟩ (by exact rfl) (fill_full (by exact rfl) (by exact rfl) (by exact rfl)) (fun b30 => ?_)
 refine OD.perm (perm_q11 (S1 := [⟨b30, 40, 3 * 5, List.flatMap cO ([litO x, idO, bareOp 6])⟩]) (A := [_, _, _])) ?_
 refine OD.giveL (t := 30) (Sq := [⟨b30, 40, 3 * 5, List.flatMap cO ([litO x, idO, bareOp 6])⟩]) lk (ownL_row (g := cO) (sz := 5) (e := 40) (ls := [litO x, idO, bareOp 6]) (Nat.le_refl _) (show 3 ≤ maxLen by decide)) (fm_len cO_len _) (perm_r11 (A := [_, _, _])) ?_
 refine OD.still (wants_plain rfl) rfl (still_r1 (mk := Op.load 40) rfl ot (by first | exact ld_blks (k := 1) (ds := [_, _, _, _, _]) rfl rfl Tryd.isAgg40 Tryd.sizeOf40 rfl rfl | exact ld_is (ds := [_, _, _, _, _]) Tryd.isAgg40 Tryd.sizeOf40 rfl rfl)) ?_
 refine OD.still (wants_plain rfl) rfl (still_r1 (mk := Op.load 40) rfl ot (by first | exact ld_blks (k := 0) (ds := [_, _, _, _, _]) rfl rfl Tryd.isAgg40 Tryd.sizeOf40 rfl rfl | exact ld_is (ds := [_, _, _, _, _]) Tryd.isAgg40 Tryd.sizeOf40 rfl rfl)) ?_
 refine OD.still (wants_plain rfl) rfl (still_bld (pl := [(0, _)]) (ds := [_, _, _, _, _]) rfl Tryd.zeroValue40 Tryd.runUnderlying40 places40_Exb ⟨rfl, opd_const, trivial⟩ rfl rfl) ?_
 refine OD.bldS (pl := numD 0 [_, _, _]) (zvs := [.int .i64 0, .int .i64 0, .int .i64 0, .string ⟨#[]⟩, .string ⟨#[]⟩, .int .i64 0, .int .i64 0, .int .i64 0, .string ⟨#[]⟩, .string ⟨#[]⟩, .int .i64 0, .int .i64 0, .int .i64 0, .string ⟨#[]⟩, .string ⟨#[]⟩]) (ds := [_, _, _, _, _, _, _, _, _, _, _, _, _, _, _]) (wants_plain rfl) rfl rfl Tryd.zeroValue40 Tryd.runUnderlying25 Tryd.sizeOf40 rfl rfl (by kernel_rfl) ⟨rfl, ot, rfl, ot, rfl, ot, trivial⟩ (by exact rfl) (fill_full (by exact rfl) (by exact rfl) (by exact rfl)) (fun b34 => ?_)
 refine OD.perm (perm_q11 (S1 := [⟨b34, 40, 3 * 5, List.flatMap cO ([idO, litO x, bareOp 7])⟩]) (A := [_, _, _])) ?_
 refine OD.giveL (t := 34) (Sq := [⟨b34, 40, 3 * 5, List.flatMap cO ([idO, litO x, bareOp 7])⟩]) lk (ownL_row (g := cO) (sz := 5) (e := 40) (ls := [idO, litO x, bareOp 7]) (Nat.le_refl _) (show 3 ≤ maxLen by decide)) (fm_len cO_len _) (perm_r11 (A := [_, _, _])) ?_
 refine OD.still (wants_plain rfl) rfl (still_r1 (mk := Op.load 40) rfl ot (by first | exact ld_blks (k := 0) (ds := [_, _, _, _, _]) rfl rfl Tryd.isAgg40 Tryd.sizeOf40 rfl rfl | exact ld_is (ds := [_, _, _, _, _]) Tryd.isAgg40 Tryd.sizeOf40 rfl rfl)) ?_
 refine OD.still (wants_plain rfl) rfl (still_r1 (mk := Op.load 40) rfl ot (by first | exact ld_blks (k := 1) (ds := [_, _, _, _, _]) rfl rfl Tryd.isAgg40 Tryd.sizeOf40 rfl rfl | exact ld_is (ds := [_, _, _, _, _]) Tryd.isAgg40 Tryd.sizeOf40 rfl rfl)) ?_
 refine OD.still (wants_plain rfl) rfl (still_bld (pl := [(0, _)]) (ds := [_, _, _, _, _]) rfl Tryd.zeroValue40 Tryd.runUnderlying40 places40_Exb ⟨rfl, opd_const, trivial⟩ rfl rfl) ?_
 refine OD.bldS (pl := numD 0 [_, _, _]) (zvs := [.int .i64 0, .int .i64 0, .int .i64 0, .string ⟨#[]⟩, .string ⟨#[]⟩, .int .i64 0, .int .i64 0, .int .i64 0, .string ⟨#[]⟩, .string ⟨#[]⟩, .int .i64 0, .int .i64 0, .int .i64 0, .string ⟨#[]⟩, .string ⟨#[]⟩]) (ds := [_, _, _, _, _, _, _, _, _, _, _, _, _, _, _]) (wants_plain rfl) rfl rfl Tryd.zeroValue40 Tryd.runUnderlying25 Tryd.sizeOf40 rfl rfl (by kernel_rfl) ⟨rfl, ot, rfl, ot, rfl, ot, trivial⟩ (by exact rfl) (fill_full (by exact rfl) (by exact rfl) (by exact rfl)) (fun b38 => ?_)
 refine OD.perm (perm_q11 (S1 := [⟨b38, 40, 3 * 5, List.flatMap cO ([litO x, idO, bareOp 7])⟩]) (A := [_, _, _])) ?_
 refine OD.giveL (t := 38) (Sq := [⟨b38, 40, 3 * 5, List.flatMap cO ([litO x, idO, bareOp 7])⟩]) lk (ownL_row (g := cO) (sz := 5) (e := 40) (ls := [litO x, idO, bareOp 7]) (Nat.le_refl _) (show 3 ≤ maxLen by decide)) (fm_len cO_len _) (perm_r11 (A := [_, _, _])) ?_
 refine OD.still (wants_plain rfl) rfl (still_r1 (mk := Op.load 40) rfl ot (by first | exact ld_blks (k := 1) (ds := [_, _, _, _, _]) rfl rfl Tryd.isAgg40 Tryd.sizeOf40 rfl rfl | exact ld_is (ds := [_, _, _, _, _]) Tryd.isAgg40 Tryd.sizeOf40 rfl rfl)) ?_
 refine OD.still (wants_plain rfl) rfl (still_r1 (mk := Op.load 40) rfl ot (by first | exact ld_blks (k := 0) (ds := [_, _, _, _, _]) rfl rfl Tryd.isAgg40 Tryd.sizeOf40 rfl rfl | exact ld_is (ds := [_, _, _, _, _]) Tryd.isAgg40 Tryd.sizeOf40 rfl rfl)) ?_
 refine OD.still (wants_plain rfl) rfl (still_bld (pl := [(0, _)]) (ds := [_, _, _, _, _]) rfl Tryd.zeroValue40 Tryd.runUnderlying40 places40_Exb ⟨rfl, opd_const, trivial⟩ rfl rfl) ?_
 refine OD.still (wants_plain rfl) rfl (still_bld (pl := [(0, _)]) (ds := [_, _, _, _, _]) rfl Tryd.zeroValue40 Tryd.runUnderlying40 places40_Exb ⟨rfl, opd_const, trivial⟩ rfl rfl) ?_
 refine OD.bldS (pl := numD 0 [_, _, _, _]) (zvs := [.int .i64 0, .int .i64 0, .int .i64 0, .string ⟨#[]⟩, .string ⟨#[]⟩, .int .i64 0, .int .i64 0, .int .i64 0, .string ⟨#[]⟩, .string ⟨#[]⟩, .int .i64 0, .int .i64 0, .int .i64 0, .string ⟨#[]⟩, .string ⟨#[]⟩, .int .i64 0, .int .i64 0, .int .i64 0, .string ⟨#[]⟩, .string ⟨#[]⟩]) (ds := [_, _, _, _, _, _, _, _, _, _, _, _, _, _, _, _, _, _, _, _]) (wants_plain rfl) rfl rfl Tryd.zeroValue40 Tryd.runUnderlying25 Tryd.sizeOf40 rfl rfl (by kernel_rfl) ⟨rfl, ot, rfl, ot, rfl, ot, rfl, ot, trivial⟩ (by exact rfl) (fill_full (by exact rfl) (by exact rfl) (by exact rfl)) (fun b43 => ?_)
 refine OD.perm (perm_q11 (S1 := [⟨b43, 40, 4 * 5, List.flatMap cO ([idO, litO x, bareOp 7, bareOp 5])⟩]) (A := [_, _, _])) ?_
 refine OD.giveL (t := 43) (Sq := [⟨b43, 40, 4 * 5, List.flatMap cO ([idO, litO x, bareOp 7, bareOp 5])⟩]) lk (ownL_row (g := cO) (sz := 5) (e := 40) (ls := [idO, litO x, bareOp 7, bareOp 5]) (Nat.le_refl _) (show 4 ≤ maxLen by decide)) (fm_len cO_len _) (perm_r11 (A := [_, _, _])) ?_
 refine OD.still (wants_plain rfl) rfl (still_r1 (mk := Op.load 40) rfl ot (by first | exact ld_blks (k := 0) (ds := [_, _, _, _, _]) rfl rfl Tryd.isAgg40 Tryd.sizeOf40 rfl rfl | exact ld_is (ds := [_, _, _, _, _]) Tryd.isAgg40 Tryd.sizeOf40 rfl rfl)) ?_
 refine OD.still (wants_plain rfl) rfl (still_r1 (mk := Op.load 40) rfl ot (by first | exact ld_blks (k := 1) (ds := [_, _, _, _, _]) rfl rfl Tryd.isAgg40 Tryd.sizeOf40 rfl rfl | exact ld_is (ds := [_, _, _, _, _]) Tryd.isAgg40 Tryd.sizeOf40 rfl rfl)) ?_
 refine OD.still (wants_plain rfl) rfl (still_bld (pl := [(0, _)]) (ds := [_, _, _, _, _]) rfl Tryd.zeroValue40 Tryd.runUnderlying40 places40_Exb ⟨rfl, opd_const, trivial⟩ rfl rfl) ?_
 refine OD.still (wants_plain rfl) rfl (still_bld (pl := [(0, _)]) (ds := [_, _, _, _, _]) rfl Tryd.zeroValue40 Tryd.runUnderlying40 places40_Exb ⟨rfl, opd_const, trivial⟩ rfl rfl) ?_
 refine OD.bldS (pl := numD 0 [_, _, _, _]) (zvs := [.int .i64 0, .int .i64 0, .int .i64 0, .string ⟨#[]⟩, .string ⟨#[]⟩, .int .i64 0, .int .i64 0, .int .i64 0, .string ⟨#[]⟩, .string ⟨#[]⟩, .int .i64 0, .int .i64 0, .int .i64 0, .string ⟨#[]⟩, .string ⟨#[]⟩, .int .i64 0, .int .i64 0, .int .i64 0, .string ⟨#[]⟩, .string ⟨#[]⟩]) (ds := [_, _, _, _, _, _, _, _, _, _, _, _, _, _, _, _, _, _, _, _]) (wants_plain rfl) rfl rfl Tryd.zeroValue40 Tryd.runUnderlying25 Tryd.sizeOf40 rfl rfl (by kernel_rfl) ⟨rfl, ot, rfl, ot, rfl, ot, rfl, ot, trivial⟩ (by exact rfl) (fill_full (by exact rfl) (by exact rfl) (by exact rfl)) (fun b48 => ?_)
 refine OD.perm (perm_q11 (S1 := [⟨b48, 40, 4 * 5, List.flatMap cO ([litO x, idO, bareOp 7, bareOp 5])⟩]) (A := [_, _, _])) ?_
 refine OD.giveL (t := 48) (Sq := [⟨b48, 40, 4 * 5, List.flatMap cO ([litO x, idO, bareOp 7, bareOp 5])⟩]) lk (ownL_row (g := cO) (sz := 5) (e := 40) (ls := [litO x, idO, bareOp 7, bareOp 5]) (Nat.le_refl _) (show 4 ≤ maxLen by decide)) (fm_len cO_len _) (perm_r11 (A := [_, _, _])) ?_
 refine OD.still (wants_plain rfl) rfl (still_r1 (mk := Op.load 40) rfl ot (by first | exact ld_blks (k := 1) (ds := [_, _, _, _, _]) rfl rfl Tryd.isAgg40 Tryd.sizeOf40 rfl rfl | exact ld_is (ds := [_, _, _, _, _]) Tryd.isAgg40 Tryd.sizeOf40 rfl rfl)) ?_
 refine OD.still (wants_plain rfl) rfl (still_r1 (mk := Op.load 40) rfl ot (by first | exact ld_blks (k := 0) (ds := [_, _, _, _, _]) rfl rfl Tryd.isAgg40 Tryd.sizeOf40 rfl rfl | exact ld_is (ds := [_, _, _, _, _]) Tryd.isAgg40 Tryd.sizeOf40 rfl rfl)) ?_
 refine OD.still (wants_plain rfl) rfl (still_bld (pl := [(0, _)]) (ds := [_, _, _, _, _]) rfl Tryd.zeroValue40 Tryd.runUnderlying40 places40_Exb ⟨rfl, opd_const, trivial⟩ rfl rfl) ?_
 refine OD.still (wants_plain rfl) rfl (still_bld (pl := [(0, _)]) (ds := [_, _, _, _, _]) rfl Tryd.zeroValue40 Tryd.runUnderlying40 places40_Exb ⟨rfl, opd_const, trivial⟩ rfl rfl) ?_
 refine OD.bldS (pl := numD 0 [_, _, _, _]) (zvs := [.int .i64 0, .int .i64 0, .int .i64 0, .string ⟨#[]⟩, .string ⟨#[]⟩, .int .i64 0, .int .i64 0, .int .i64 0, .string ⟨#[]⟩, .string ⟨#[]⟩, .int .i64 0, .int .i64 0, .int .i64 0, .string ⟨#[]⟩, .string ⟨#[]⟩, .int .i64 0, .int .i64 0, .int .i64 0, .string ⟨#[]⟩, .string ⟨#[]⟩]) (ds := [_, _, _, _, _, _, _, _, _, _, _, _, _, _, _, _, _, _, _, _]) (wants_plain rfl) rfl rfl Tryd.zeroValue40 Tryd.runUnderlying25 Tryd.sizeOf40 rfl rfl (by kernel_rfl) ⟨rfl, ot, rfl, ot, rfl, ot, rfl, ot, trivial⟩ (by exact rfl) (fill_full (by exact rfl) (by exact rfl) (by exact rfl)) (fun b53 => ?_)
 refine OD.perm (perm_q11 (S1 := [⟨b53, 40, 4 * 5, List.flatMap cO ([idO, litO x, bareOp 6, bareOp 5])⟩]) (A := [_, _, _])) ?_
 refine OD.giveL (t := 53) (Sq := [⟨b53, 40, 4 * 5, List.flatMap cO ([idO, litO x, bareOp 6, bareOp 5])⟩]) lk (ownL_row (g := cO) (sz := 5) (e := 40) (ls := [idO, litO x, bareOp 6, bareOp 5]) (Nat.le_refl _) (show 4 ≤ maxLen by decide)) (fm_len cO_len _) (perm_r11 (A := [_, _, _])) ?_
 refine OD.bldS (pl := numD 0 [_, _, _, _, _, _, _]) (zvs := [.slice none 0 0, .slice none 0 0, .slice none 0 0, .slice none 0 0, .slice none 0 0, .slice none 0 0, .slice none 0 0]) (ds := [_, _, _, _, _, _, _]) (wants_plain rfl) rfl rfl Tryd.zeroValue25 Tryd.runUnderlying46 Tryd.sizeOf25 rfl rfl (by kernel_rfl) ⟨rfl, ot, rfl, ot, rfl, ot, rfl, ot, rfl, ot, rfl, ot, rfl, ot, trivial⟩ (by exact rfl) (fill_full (by exact rfl) (by exact rfl) (by exact rfl)) (fun b54 => ?_)
 refine OD.still (wants_plain rfl) rfl (still_as rfl ot) ?_
 refine OD.wk (Wk.as_ (n := 134) (l' := [(1, _), (5, _), (8, _)]) (S' := [⟨b54, 25, 7, [_, _, _, _, _, _, _]⟩, ⟨b7, 40, 5, [_, _, _, _, _]⟩, ⟨b6, 40, 5, [_, _, _, _, _]⟩, ⟨b5, 33, 3, [_, _, _]⟩]) rfl rfl ⟨lk, lk, lk, trivial⟩) ?_
 refine OD.nil ?_
 refine CD.seq ?_
 refine CD.region ?_
 refine OD.still (wants_plain rfl) rfl (still_mv rfl ot) ?_
 refine OD.callP (wants_plain rfl) rfl rfl rfl Tryd.call15 (hpk) ⟨ot, opd_const, trivial⟩ ?_
 refine OD.still (wants_plain rfl) rfl (still_as rfl ot) ?_
 refine OD.wk (Wk.as_ (n := 134) (l' := [(5, _), (8, _), (9, _)]) (S' := [⟨b54, 25, 7, [_, _, _, _, _, _, _]⟩, ⟨b7, 40, 5, [_, _, _, _, _]⟩, ⟨b6, 40, 5, [_, _, _, _, _]⟩, ⟨b5, 33, 3, [_, _, _]⟩]) rfl rfl ⟨lk, lk, lk, trivial⟩) ?_
 refine OD.nil ?_
 refine CD.seq ?_
 refine CD.draw (bks _) (by kernel_rfl) (fun _ h => h) ?_
 refine AD0.take (i := 1) rfl (by kernel_rfl) (by kernel_rfl) (by kernel_rfl) (by repeat (first | exact NP.body | apply NP.then | apply NP.cut | apply NP.inBlock | apply NP.round)) (wants_plain rfl) rfl (still_mv rfl ot) (by exact trivial) ?_
 refine AD0.take (i := 2) rfl (by kernel_rfl) (by kernel_rfl) (by kernel_rfl) (by repeat (first | exact NP.body | apply NP.then | apply NP.cut | apply NP.inBlock | apply NP.round)) (wants_plain rfl) rfl (still_mv rfl ot) (by exact trivial) ?_
 refine AD0.take (i := 3) rfl (by kernel_rfl) (by kernel_rfl) (by kernel_rfl) (by repeat (first | exact NP.body | apply NP.then | apply NP.cut | apply NP.inBlock | apply NP.round)) (wants_plain rfl) rfl (still_r2 (mk := Op.indexAddr 46) rfl ot ot (by first | exact ix_list Tryd.runUnderlying46 Tryd.sizeOf25 (j := 4) rfl (by decide) | exact ix_row Tryd.runUnderlying46 Tryd.sizeOf25 (j := 4) rfl (by decide))) (by exact trivial) ?_
 refine AD0.take (i := 4) rfl (by kernel_rfl) (by kernel_rfl) (by kernel_rfl) (by repeat (first | exact NP.body | apply NP.then | apply NP.cut | apply NP.inBlock | apply NP.round)) (wants_plain rfl) rfl (still_r1 (mk := Op.load 25) rfl ot (by first | exact ld_blk (k := 0) rfl rfl Tryd.isAgg25 rfl | exact ld_blk (k := 1) rfl rfl Tryd.isAgg25 rfl | exact ld_blk (k := 2) rfl rfl Tryd.isAgg25 rfl | exact ld_blk (k := 3) rfl rfl Tryd.isAgg25 rfl | exact ld_i Tryd.isAgg25 rfl)) (by first | exact trivial | exact safe_blk (k0 := 0) rfl rfl | exact safe_blk (k0 := 1) rfl rfl | exact safe_blk (k0 := 2) rfl rfl | exact safe_blk (k0 := 3) rfl rfl) ?_
 refine AD0.later rfl ?_
 refine AD.one (i := 0) (by kernel_rfl) ?_
 refine AStep.callP rfl (wants_plain rfl) rfl rfl rfl Tryd.call10 (colsOf_vp) trivial ?_
 refine AD.one (i := 5) (by kernel_rfl) ?_
 refine AStep.callP rfl (wants_plain rfl) rfl rfl rfl Tryd.call16 (hbv) ⟨ot, ot, trivial⟩ ?_
 refine AD.take (i := 6) rfl (by kernel_rfl) (by kernel_rfl) (by kernel_rfl) (by repeat (first | exact NP.body | apply NP.then | apply NP.cut | apply NP.inBlock | apply NP.round)) (wants_plain rfl) rfl (still_mv rfl ot) (by exact trivial) (by intro h; cases h) ?_
 refine AD.take (i := 7) rfl (by kernel_rfl) (by kernel_rfl) (by kernel_rfl) (by repeat (first | exact NP.body | apply NP.then | apply NP.cut | apply NP.inBlock | apply NP.round)) (wants_plain rfl) rfl (still_extract rfl ot rfl) (by exact trivial) (by intro h; cases h) ?_
 refine AD.take (i := 8) rfl (by kernel_rfl) (by kernel_rfl) (by kernel_rfl) (by repeat (first | exact NP.body | apply NP.then | apply NP.cut | apply NP.inBlock | apply NP.round)) (wants_plain rfl) rfl (still_extract rfl ot rfl) (by exact trivial) (by intro h; cases h) ?_
 refine AD.take (i := 9) rfl (by kernel_rfl) (by kernel_rfl) (by kernel_rfl) (by repeat (first | exact NP.body | apply NP.then | apply NP.cut | apply NP.inBlock | apply NP.round)) (wants_plain rfl) rfl (still_extract rfl ot rfl) (by exact trivial) (by intro h; cases h) ?_
 refine AD.take (i := 10) rfl (by kernel_rfl) (by kernel_rfl) (by kernel_rfl) (by repeat (first | exact NP.body | apply NP.then | apply NP.cut | apply NP.inBlock | apply NP.round)) (wants_plain rfl) rfl (still_as rfl ot) (by exact trivial) (by intro h; cases h) ?_
 refine AD.take (i := 11) rfl (by kernel_rfl) (by kernel_rfl) (by kernel_rfl) (by repeat (first | exact NP.body | apply NP.then | apply NP.cut | apply NP.inBlock | apply NP.round)) (wants_plain rfl) rfl (still_as rfl ot) (by exact trivial) (by intro h; cases h) ?_
 refine AD.take (i := 12) rfl (by kernel_rfl) (by kernel_rfl) (by kernel_rfl) (by repeat (first | exact NP.body | apply NP.then | apply NP.cut | apply NP.inBlock | apply NP.round)) (wants_plain rfl) rfl (still_as rfl ot) (by exact trivial) (by intro h; cases h) ?_
 refine AD.wk (y := ⟨134, [(5, _), (9, _), (10, _), (11, _), (12, _)], [⟨b54, 25, 7, [_, _, _, _, _, _, _]⟩, ⟨b7, 40, 5, [_, _, _, _, _]⟩, ⟨b6, 40, 5, [_, _, _, _, _]⟩, ⟨b5, 33, 3, [_, _, _]⟩]⟩) (Wk.as_ rfl rfl ⟨lk, lk, lk, lk, lk, trivial⟩) rfl ?_
 refine AD.done (by kernel_rfl) ?_
 refine CD.seq ?_
 refine CD.region ?_
 refine OD.still (wants_plain rfl) rfl (still_r1 (mk := Op.load 33) rfl ot (by first | exact ld_blks (k := 3) (ds := [_, _, _]) rfl rfl Tryd.isAgg33 Tryd.sizeOf33 rfl rfl | exact ld_is (ds := [_, _, _]) Tryd.isAgg33 Tryd.sizeOf33 rfl rfl)) ?_
 refine OD.bldS (pl := numD 0 [_]) (zvs := [.int .i64 0, .int .i64 0, .string ⟨#[]⟩]) (ds := [_, _, _]) (wants_plain rfl) rfl rfl Tryd.zeroValue33 Tryd.runUnderlying36 Tryd.sizeOf33 rfl rfl (by kernel_rfl) ⟨rfl, ot, trivial⟩ (by exact rfl) (fill_full (by exact rfl) (by exact rfl) (by exact rfl)) (fun b69 => ?_)
 refine OD.perm (perm_q11 (S1 := [⟨b69, 33, 1 * 3, List.flatMap cV ([numV x])⟩]) (A := [_, _, _, _])) ?_
 refine OD.giveL (t := 69) (Sq := [⟨b69, 33, 1 * 3, List.flatMap cV ([numV x])⟩]) lk (ownL_row (g := cV) (sz := 3) (e := 33) (ls := [numV x]) (Nat.le_refl _) (show 1 ≤ maxLen by decide)) (fm_len cV_len _) (perm_r11 (A := [_, _, _, _])) ?_
 refine OD.callP (wants_plain rfl) rfl rfl rfl Tryd.call17 (hev) ⟨ot, trivial⟩ ?_
 refine OD.still (wants_plain rfl) rfl (still_mv rfl ot) ?_
 refine OD.still (wants_plain rfl) rfl (still_extract rfl ot rfl) ?_
 refine OD.still (wants_plain rfl) rfl (still_extract rfl ot rfl) ?_
 refine OD.still (wants_plain rfl) rfl (still_as rfl ot) ?_
 refine OD.still (wants_plain rfl) rfl (still_as rfl ot) ?_
 refine OD.wk (Wk.as_ (n := 134) (l' := [(9, _), (10, _), (11, _), (12, _), (13, _), (14, _)]) (S' := [⟨b54, 25, 7, [_, _, _, _, _, _, _]⟩, ⟨b7, 40, 5, [_, _, _, _, _]⟩, ⟨b6, 40, 5, [_, _, _, _, _]⟩, ⟨b5, 33, 3, [_, _, _]⟩]) rfl rfl ⟨lk, lk, lk, lk, lk, lk, trivial⟩) ?_
 refine OD.nil ?_
 refine CD.seq ?_
 refine CD.region ?_
 refine OD.still (wants_plain rfl) rfl (still_mv rfl ot) ?_
 refine OD.still (wants_plain rfl) rfl (still_bin rfl ot opd_const bin_lss) ?_
 refine OD.still (wants_plain rfl) rfl (still_mv rfl ot) ?_
 refine OD.split (t := 75) lk (fun hg75 => ?_) (fun hg75 => ?_)
 ·exact absurd hg75 (by decide)
 ·have hg75' := hg75; (try simp only [V.cnd, ne_eq] at hg75')
  refine OD.still (wants_T rfl rfl rfl lk (by first | rfl | assumption)) rfl (still_mv rfl ot) ?_
  refine OD.still (wants_T rfl rfl rfl lk (by first | rfl | assumption)) rfl (still_bin rfl ot opd_const bin_eql) ?_
  refine OD.still (wants_plain rfl) rfl (still_pickF rfl ot (by first | rfl | assumption) ot) ?_
  refine OD.still (wants_plain rfl) rfl (still_mv rfl ot) ?_
  refine OD.split (t := 79) lk (fun hg79 => ?_) (fun hg79 => ?_)
  ·exact absurd hg79 (by decide)
  ·have hg79' := hg79; (try simp only [V.cnd, ne_eq] at hg79')
   refine OD.still (wants_T rfl rfl rfl lk (by first | rfl | assumption)) rfl (still_mv rfl ot) ?_
   refine OD.still (wants_T rfl rfl rfl lk (by first | rfl | assumption)) rfl (still_bin rfl ot opd_const bin_eql) ?_
   refine OD.still (wants_plain rfl) rfl (still_pickF rfl ot (by first | rfl | assumption) ot) ?_
   refine OD.still (wants_plain rfl) rfl (still_as rfl ot) ?_
   refine OD.wk (Wk.as_ (n := 134) (l' := [(9, _), (10, _), (11, _), (12, _), (13, _), (14, _), (15, _)]) (S' := [⟨b54, 25, 7, [_, _, _, _, _, _, _]⟩, ⟨b7, 40, 5, [_, _, _, _, _]⟩, ⟨b6, 40, 5, [_, _, _, _, _]⟩, ⟨b5, 33, 3, [_, _, _]⟩]) rfl rfl ⟨lk, lk, lk, lk, lk, lk, lk, trivial⟩) ?_
   refine OD.nil ?_
   refine CD.seq ?_
   refine CD.region ?_
   refine OD.still (wants_plain rfl) rfl (still_mv rfl ot) ?_
   refine OD.still (wants_plain rfl) rfl (still_bin rfl ot opd_const bin_lss) ?_
   refine OD.still (wants_plain rfl) rfl (still_mv rfl ot) ?_
   refine OD.split (t := 85) lk (fun hg85 => ?_) (fun hg85 => ?_)
   ·exact absurd hg85 (by decide)
   ·have hg85' := hg85; (try simp only [V.cnd, ne_eq] at hg85')
    refine OD.still (wants_T rfl rfl rfl lk (by first | rfl | assumption)) rfl (still_mv rfl ot) ?_
    refine OD.still (wants_T rfl rfl rfl lk (by first | rfl | assumption)) rfl (still_bin rfl ot opd_const bin_eql) ?_
    refine OD.still (wants_plain rfl) rfl (still_pickF rfl ot (by first | rfl | assumption) ot) ?_
    refine OD.still (wants_plain rfl) rfl (still_as rfl ot) ?_
    refine OD.wk (Wk.as_ (n := 134) (l' := [(10, _), (11, _), (12, _), (13, _), (14, _), (15, _), (16, _)]) (S' := [⟨b54, 25, 7, [_, _, _, _, _, _, _]⟩, ⟨b7, 40, 5, [_, _, _, _, _]⟩, ⟨b6, 40, 5, [_, _, _, _, _]⟩, ⟨b5, 33, 3, [_, _, _]⟩]) rfl rfl ⟨lk, lk, lk, lk, lk, lk, lk, trivial⟩) ?_
    refine OD.nil ?_
    refine CD.seq ?_
    refine CD.seq ?_
    refine CD.region ?_
    refine OD.still (wants_plain rfl) rfl (still_mv rfl ot) ?_
    refine OD.still (wants_plain rfl) rfl (still_bin rfl ot opd_const bin_neq) ?_
    refine OD.still (wants_plain rfl) rfl (still_mv rfl ot) ?_
    refine OD.split (t := 91) lk (fun hg91 => ?_) (fun hg91 => ?_)
    ·exact absurd hg91 (by simp)
    ·have hg91' := hg91; (try simp only [V.cnd, ne_eq] at hg91')
     refine OD.still (wants_T rfl rfl rfl lk (by first | rfl | assumption)) rfl (still_mv rfl ot) ?_
     refine OD.still (wants_T rfl rfl rfl lk (by first | rfl | assumption)) rfl (still_bin rfl ot opd_const bin_neq) ?_
     refine OD.still (wants_plain rfl) rfl (still_pickF rfl ot (by first | rfl | assumption) ot) ?_
     refine OD.still (wants_plain rfl) rfl (still_mv rfl ot) ?_
     refine OD.split (t := 95) lk (fun hg95 => ?_) (fun hg95 => ?_)
     ·exact absurd hg95 (by simp)
     ·have hg95' := hg95; (try simp only [V.cnd, ne_eq] at hg95')
      refine OD.still (wants_T rfl rfl rfl lk (by first | rfl | assumption)) rfl (still_mv rfl ot) ?_
      refine OD.still (wants_T rfl rfl rfl lk (by first | rfl | assumption)) rfl (still_r1 (mk := fun y => .call { callee := .builtin .len, args := #[y], argTypes := #[47] }) rfl ot (by first | exact len_list rfl Tryd.runUnderlying47 | exact len_row rfl Tryd.runUnderlying47)) ?_
      refine OD.still (wants_T rfl rfl rfl lk (by first | rfl | assumption)) rfl (still_bin rfl ot opd_const bin_eql) ?_
      refine OD.still (wants_plain rfl) rfl (still_pickF rfl ot (by first | rfl | assumption) ot) ?_
      refine OD.wk (Wk.as_ (n := 134) (l' := [(10, _), (11, _), (13, _), (15, _), (16, _), (99, _)]) (S' := [⟨b54, 25, 7, [_, _, _, _, _, _, _]⟩, ⟨b7, 40, 5, [_, _, _, _, _]⟩, ⟨b6, 40, 5, [_, _, _, _, _]⟩, ⟨b5, 33, 3, [_, _, _]⟩]) rfl rfl ⟨lk, lk, lk, lk, lk, lk, trivial⟩) ?_
      refine OD.nil ?_
      refine CD.cond ot (fun hc0 => ?_) (fun hc0 => ?_)
      ·exact absurd hc0 (by rw [hkl]; decide)
      ·have hc0' := hc0
       (try simp only [V.cnd, ne_eq] at hc0')
       refine CD.skip ?_
       refine CD.seq ?_
       refine CD.seq ?_
       refine CD.region ?_
       refine OD.still (wants_plain rfl) rfl (still_mv rfl ot) ?_
       refine OD.still (wants_plain rfl) rfl (still_mv rfl ot) ?_
       refine OD.split (t := 101) lk (fun hg101 => ?_) (fun hg101 => ?_)
       ·have hg101' := hg101; (try simp only [V.cnd, ne_eq] at hg101')
        refine OD.still (wants_T rfl rfl rfl lk (by first | rfl | assumption)) rfl (still_mv rfl ot) ?_
        first | refine OD.still (wants_T rfl rfl rfl lk (by first | rfl | assumption)) rfl (still_ofBytes rfl ot Tryd.underlying47 Tryd.underlying5 Tryd.underlying9) ?_ | refine OD.still (wants_T rfl rfl rfl lk (by first | rfl | assumption)) rfl (still_ofBytesF rfl ot Tryd.underlying47 Tryd.underlying5 Tryd.underlying9) ?_
        refine OD.still (wants_T rfl rfl rfl lk (by first | rfl | assumption)) rfl (still_mv rfl ot) ?_
        first | refine OD.still (wants_T rfl rfl rfl lk (by first | rfl | assumption)) rfl (still_ofBytes rfl ot Tryd.underlying47 Tryd.underlying5 Tryd.underlying9) ?_ | refine OD.still (wants_T rfl rfl rfl lk (by first | rfl | assumption)) rfl (still_ofBytesF rfl ot Tryd.underlying47 Tryd.underlying5 Tryd.underlying9) ?_
        refine OD.still (wants_T rfl rfl rfl lk (by first | rfl | assumption)) rfl (still_bin rfl ot ot bin_sneq) ?_
        refine OD.still (wants_plain rfl) rfl (still_pickT rfl ot (by first | rfl | assumption) ot) ?_
        refine OD.still (wants_plain rfl) rfl (still_mv rfl ot) ?_
        refine OD.split (t := 108) lk (fun hg108 => ?_) (fun hg108 => ?_)
        ·exact absurd hg108 (by simp)
        ·have hg108' := hg108; (try simp only [V.cnd, ne_eq] at hg108')
         refine OD.still (wants_T rfl rfl rfl lk (by first | rfl | assumption)) rfl (still_mv rfl ot) ?_
         refine OD.still (wants_T rfl rfl rfl lk (by first | rfl | assumption)) rfl (still_un rfl ot un_not) ?_
         refine OD.still (wants_T rfl rfl rfl lk (by first | rfl | assumption)) rfl (still_mv rfl ot) ?_
         refine OD.split (t := 111) lk (fun hg111 => ?_) (fun hg111 => ?_)
         ·exact absurd hg111 (by decide)
         ·have hg111' := hg111; (try simp only [V.cnd, ne_eq] at hg111')
          refine OD.skip (wants_F rfl rfl rfl lk (by first | rfl | assumption)) rfl ?_
          refine OD.skip (wants_F rfl rfl rfl lk (by first | rfl | assumption)) rfl ?_
          refine OD.skip (wants_F rfl rfl rfl lk (by first | rfl | assumption)) rfl ?_
          refine OD.still (wants_T rfl rfl rfl lk (by first | rfl | assumption)) rfl (still_pickF rfl ot (by first | rfl | assumption) opd_const) ?_
          refine OD.still (wants_plain rfl) rfl (still_pickF rfl ot (by first | rfl | assumption) ot) ?_
          refine OD.wk (Wk.as_ (n := 134) (l' := [(11, _), (13, _), (16, _), (116, _)]) (S' := [⟨b54, 25, 7, [_, _, _, _, _, _, _]⟩, ⟨b7, 40, 5, [_, _, _, _, _]⟩, ⟨b6, 40, 5, [_, _, _, _, _]⟩, ⟨b5, 33, 3, [_, _, _]⟩]) rfl rfl ⟨lk, lk, lk, lk, trivial⟩) ?_
          refine OD.nil ?_
          refine CD.condF ot (by first | rfl | assumption) ?_
          refine CD.skip ?_
          refine CD.seq ?_
          refine CD.region ?_
          refine OD.still (wants_plain rfl) rfl (still_mv rfl ot) ?_
          refine OD.still (wants_plain rfl) rfl (still_mv rfl ot) ?_
          refine OD.split (t := 118) lk (fun hg118 => ?_) (fun hg118 => ?_)
          ·exact absurd hg118 (by decide)
          ·have hg118' := hg118; (try simp only [V.cnd, ne_eq] at hg118')
           refine OD.skip (wants_F rfl rfl rfl lk (by first | rfl | assumption)) rfl ?_
           refine OD.skip (wants_F rfl rfl rfl lk (by first | rfl | assumption)) rfl ?_
           refine OD.skip (wants_F rfl rfl rfl lk (by first | rfl | assumption)) rfl ?_
           refine OD.skip (wants_F rfl rfl rfl lk (by first | rfl | assumption)) rfl ?_
           refine OD.skip (wants_F rfl rfl rfl lk (by first | rfl | assumption)) rfl ?_
           refine OD.still (wants_plain rfl) rfl (still_pickF rfl ot (by first | rfl | assumption) opd_const) ?_
           refine OD.still (wants_plain rfl) rfl (still_mv rfl ot) ?_
           refine OD.still (wants_T rfl rfl rfl lk (by first | rfl | assumption)) rfl (still_mv rfl ot) ?_
           refine OD.still (wants_T rfl rfl rfl lk (by first | rfl | assumption)) rfl (still_un rfl ot un_not) ?_
           refine OD.still (wants_T rfl rfl rfl lk (by first | rfl | assumption)) rfl (still_mv rfl ot) ?_
           refine OD.split (t := 128) lk (fun hg128 => ?_) (fun hg128 => ?_)
           ·have hg128' := hg128; (try simp only [V.cnd, ne_eq] at hg128')
            refine OD.still (wants_T rfl rfl rfl lk (by first | rfl | assumption)) rfl (still_mv rfl ot) ?_
            refine OD.still (wants_T rfl rfl rfl lk (by first | rfl | assumption)) rfl (still_r1 (mk := fun y => .call { callee := .builtin .len, args := #[y], argTypes := #[47] }) rfl ot (by first | exact len_list rfl Tryd.runUnderlying47 | exact len_row rfl Tryd.runUnderlying47)) ?_
            refine OD.still (wants_T rfl rfl rfl lk (by first | rfl | assumption)) rfl (still_bin rfl ot opd_const bin_eql) ?_
            refine OD.still (wants_T rfl rfl rfl lk (by first | rfl | assumption)) rfl (still_pickT rfl ot (by first | rfl | assumption) ot) ?_
            refine OD.still (wants_plain rfl) rfl (still_pickF rfl ot (by first | rfl | assumption) ot) ?_
            refine OD.still (wants_plain rfl) rfl (still_as rfl ot) ?_
            refine OD.wk (Wk.as_ (n := 134) (l' := [(4, _)]) (S' := [⟨b54, 25, 7, [_, _, _, _, _, _, _]⟩, ⟨b7, 40, 5, [_, _, _, _, _]⟩, ⟨b6, 40, 5, [_, _, _, _, _]⟩, ⟨b5, 33, 3, [_, _, _]⟩]) rfl rfl ⟨lk, trivial⟩) ?_
            refine OD.nil ?_
            refine CD.ret ?_
            refine ⟨.inr rfl, _, [], List.nil_sublist _, ret_one Tryd.results5 (res_tmp (Nat.le_of_ble_eq_true rfl) lk), ?_⟩
            first | exact ⟨rfl, rfl⟩ | (refine ⟨vb ?_, rfl⟩; simp)
           ·exact absurd hg128 (by decide)
       ·exact absurd hg101 (by decide)

set_option maxHeartbeats 4000000 in
set_option maxRecDepth 100000 in
theorem one5_vp {m : Int} (hm : (3, marksC) ∈ G) (hw : (0, wordsC) ∈ G) (ht : (2, typesC) ∈ G) (hG : (1, [Value.int .i64 m]) ∈ G) (n : Int) (n1 : -9223372036854775808 ≤ n) (n2 : n ≤ 9223372036854775807) (form : Int) (form1 : -9223372036854775808 ≤ form) (form2 : form ≤ 9223372036854775807) (hk : pickedF form 7 = 5) : VP Tryd.prog G 5 [.v (.int .i64 n), .v (.int .i64 form)] (.v (.bool true)) := by
 refine VC.body Tryd.func5 rfl Tryd.ntmps5 (Nat.le_of_ble_eq_true rfl) fun X0 w0 S00 => ?_
 have hxb := pickedF_bd n (show (1 : Int) ≤ 1000 by decide)
 have hbv := Bounds_at hm hw ht hG [litO (pickedF n 1000), idO, bareOp 7, bareOp 5] (fine_cons (fine_lit (by omega) (by omega)) (fine_cons fine_id (fine_cons (fine_bare 7) (fine_cons (fine_bare 5) fine_nil))))
 rw [one5 hxb.1] at hbv
 unfold bdD bytesL at hbv
 have hev := enc_at hm hw ht hG (pickedF n 1000) hxb.1 (by omega)
 have hkl := key_len (pickedF n 1000)
 have hpn := (picked_vp G n 1000 n1 n2 (by decide))
 have hpk := (picked_vp G form 7 form1 form2 (by decide))
 rw [hk] at hpk
 skip
 generalize (pickedF n 1000) = x at *
 refine CD.seq ?_
 refine CD.region ?_
 refine OD.still (wants_plain rfl) rfl (still_as rfl opd_const) ?_
 refine OD.wk (Wk.as_ (n := 134) (l' := [(0, _), (1, _)]) (S' := []) rfl rfl ⟨lk, lk, trivial⟩) ?_
 refine OD.nil ?_
 refine CD.seq ?_
 refine CD.region ?_
 refine OD.still (wants_plain rfl) rfl (still_mv rfl ot) ?_
 refine OD.callP (wants_plain rfl) rfl rfl rfl Tryd.call15 (hpn) ⟨ot, opd_const, trivial⟩ ?_
 refine OD.still (wants_plain rfl) rfl (still_bld (pl := [(0, _), (1, _)]) (ds := [_, _, _]) rfl Tryd.zeroValue33 Tryd.runUnderlying33 places33_Exb ⟨rfl, opd_const, rfl, ot, trivial⟩ rfl rfl) ?_
 refine OD.alloc (ds := [_, _, _]) (wants_plain rfl) rfl rfl Tryd.zeroValue33 rfl (fun b5 => ?_)
 refine OD.store (k := 0) (cs' := [_, _, _]) (wants_plain rfl) rfl rfl ot rfl rfl ot rfl rfl Tryd.sizeOf33 rfl rfl rfl ?_
 refine OD.wk (Wk.as_ (n := 134) (l' := [(1, _), (5, _)]) (S' := [⟨b5, 33, 3, [_, _, _]⟩]) rfl rfl ⟨lk, lk, trivial⟩) ?_
 refine OD.nil ?_
 refine CD.seq ?_
 refine CD.region ?_
 refine OD.still (wants_plain rfl) rfl (still_bld (pl := [(0, _), (2, _)]) (ds := [_, _, _, _, _]) rfl Tryd.zeroValue40 Tryd.runUnderlying40 places40_Exb ⟨rfl, opd_const, rfl, opd_const, trivial⟩ rfl rfl) ?_
 refine OD.alloc (ds := [_, _, _, _, _]) (wants_plain rfl) rfl rfl Tryd.zeroValue40 rfl (fun b6 => ?_)
 refine OD.store (k := 0) (cs' := [_, _, _, _, _]) (wants_plain rfl) rfl rfl ot rfl rfl ot rfl rfl Tryd.sizeOf40 rfl rfl rfl ?_
 refine OD.wk (Wk.as_ (n := 134) (l' := [(1, _), (5, _), (6, _)]) (S' := [⟨b6, 40, 5, [_, _, _, _, _]⟩, ⟨b5, 33, 3, [_, _, _]⟩]) rfl rfl ⟨lk, lk, lk, trivial⟩) ?_
 refine OD.nil ?_
 refine CD.seq ?_
 refine CD.region ?_
 refine OD.still (wants_plain rfl) rfl (still_r1 (mk := Op.load 33) rfl ot (by first | exact ld_blks (k := 1) (ds := [_, _, _]) rfl rfl Tryd.isAgg33 Tryd.sizeOf33 rfl rfl | exact ld_is (ds := [_, _, _]) Tryd.isAgg33 Tryd.sizeOf33 rfl rfl)) ?_
 refine OD.still (wants_plain rfl) rfl (still_bld (pl := [(0, _), (1, _)]) (ds := [_, _, _, _, _]) rfl Tryd.zeroValue40 Tryd.runUnderlying40 places40_Exb ⟨rfl, opd_const, rfl, ot, trivial⟩ rfl rfl) ?_
 refine OD.alloc (ds := [_, _, _, _, _]) (wants_plain rfl) rfl rfl Tryd.zeroValue40 rfl (fun b7 => ?_)
 refine OD.store (k := 0) (cs' := [_, _, _, _, _]) (wants_plain rfl) rfl rfl ot rfl rfl ot rfl rfl Tryd.sizeOf40 rfl rfl rfl ?_
 refine OD.wk (Wk.as_ (n := 134) (l' := [(1, _), (5, _), (6, _), (7, _)]) (S' := [⟨b7, 40, 5, [_, _, _, _, _]⟩, ⟨b6, 40, 5, [_, _, _, _, _]⟩, ⟨b5, 33, 3, [_, _, _]⟩]) rfl rfl ⟨lk, lk, lk, lk, trivial⟩) ?_
 refine OD.nil ?_
 refine CD.seq ?_
 refine CD.region ?_
 refine OD.still (wants_plain rfl) rfl (still_r1 (mk := Op.load 40) rfl ot (by first | exact ld_blks (k := 1) (ds := [_, _, _, _, _]) rfl rfl Tryd.isAgg40 Tryd.sizeOf40 rfl rfl | exact ld_is (ds := [_, _, _, _, _]) Tryd.isAgg40 Tryd.sizeOf40 rfl rfl)) ?_
 refine OD.still (wants_plain rfl) rfl (still_r1 (mk := Op.load 40) rfl ot (by first | exact ld_blks (k := 0) (ds := [_, _, _, _, _]) rfl rfl Tryd.isAgg40 Tryd.sizeOf40 rfl rfl | exact ld_is (ds := [_, _, _, _, _]) Tryd.isAgg40 Tryd.sizeOf40 rfl rfl)) ?_
 refine OD.still (wants_plain rfl) rfl (still_bld (pl := [(0, _)]) (ds := [_, _, _, _, _]) rfl Tryd.zeroValue40 Tryd.runUnderlying40 places40_Exb ⟨rfl, opd_const, trivial⟩ rfl rfl) ?_
 refine OD.bldS (pl := numD 0 [_, _, _]) (zvs := [.int .i64 0, .int .i64 0, .int .i64 0, .string ⟨#[]⟩, .string ⟨#[]⟩, .int .i64 0, .int .i64 0, .int .i64 0, .string ⟨#[]⟩, .string ⟨#[]⟩, .int .i64 0, .int .i64 0, .int .i64 0, .string ⟨#[]⟩, .string ⟨#[]⟩]) (ds := [_, _, _, _, _, _, _, _, _, _, _, _, _, _, _]) (wants_plain rfl) rfl rfl Tryd.zeroValue40 Tryd.runUnderlying25 Tryd.sizeOf40 rfl rfl (by kernel_rfl) ⟨rfl, ot, rfl, ot, rfl, ot, trivial⟩ (by exact rfl) (fill_full (by exact rfl) (by exact rfl) (by exact rfl)) (fun b26 => ?_)
 refine OD.perm (perm_q11 (S1 := [⟨b26, 40, 3 * 5, List.flatMap cO ([idO, litO x, bareOp 6])⟩]) (A := [_, _, _])) ?_
 refine OD.giveL (t := 26) (Sq := [⟨b26, 40, 3 * 5, List.flatMap cO ([idO, litO x, bareOp 6])⟩]) lk (ownL_row (g := cO) (sz := 5) (e := 40) (ls := [idO, litO x, bareOp 6]) (Nat.le_refl _) (show 3 ≤ maxLen by decide)) (fm_len cO_len _) (perm_r11 (A := [_, _, _])) ?_
 refine OD.still (wants_plain rfl) rfl (still_r1 (mk := Op.load 40) rfl ot (by first | exact ld_blks (k := 0) (ds := [_, _, _, _, _]) rfl rfl Tryd.isAgg40 Tryd.sizeOf40 rfl rfl | exact ld_is (ds := [_, _, _, _, _]) Tryd.isAgg40 Tryd.sizeOf40 rfl rfl)) ?_
 refine OD.still (wants_plain rfl) rfl (still_r1 (mk := Op.load 40) rfl ot (by first | exact ld_blks (k := 1) (ds := [_, _, _, _, _]) rfl rfl Tryd.isAgg40 Tryd.sizeOf40 rfl rfl | exact ld_is (ds := [_, _, _, _, _]) Tryd.isAgg40 Tryd.sizeOf40 rfl rfl)) ?_
 refine OD.still (wants_plain rfl) rfl (still_bld (pl := [(0, _)]) (ds := [_, _, _, _, _]) rfl Tryd.zeroValue40 Tryd.runUnderlying40 places40_Exb ⟨rfl, opd_const, trivial⟩ rfl rfl) ?_
 refine OD.bldS (pl := numD 0 [_, _, _]) (zvs := [.int .i64 0, .int .i64 0, .int .i64 0, .string ⟨#[]⟩, .string ⟨#[]⟩, .int .i64 0, .int .i64 0, .int .i64 0, .string ⟨#[]⟩, .string ⟨#[]⟩, .int .i64 0, .int .i64 0, .int .i64 0, .string ⟨#[]⟩, .string ⟨#[]⟩]) (ds := [_, _, _, _, _, _, _, _, _, _, _, _, _, _, _]) (wants_plain rfl) rfl rfl Tryd.zeroValue40 Tryd.runUnderlying25 Tryd.sizeOf40 rfl rfl (by kernel_rfl) ⟨rfl, ot, rfl, ot, rfl, ot, trivial⟩ (by exact rfl) (fill_full (by exact rfl) (by exact rfl) (by exact rfl)) (fun b30 => ?_)
 refine OD.perm (perm_q11 (S1 := [⟨b30, 40, 3 * 5, List.flatMap cO ([litO x, idO, bareOp 6])⟩]) (A := [_, _, _])) ?_
 refine OD.giveL (t := 30) (Sq := [⟨b30, 40, 3 * 5, List.flatMap cO ([litO x, idO, bareOp 6])⟩]) lk (ownL_row (g := cO) (sz := 5) (e := 40) (ls := [litO x, idO, bareOp 6]) (Nat.le_refl _) (show 3 ≤ maxLen by decide)) (fm_len cO_len _) (perm_r11 (A := [_, _, _])) ?_
 refine OD.still (wants_plain rfl) rfl (still_r1 (mk := Op.load 40) rfl ot (by first | exact ld_blks (k := 1) (ds := [_, _, _, _, _]) rfl rfl Tryd.isAgg40 Tryd.sizeOf40 rfl rfl | exact ld_is (ds := [_, _, _, _, _]) Tryd.isAgg40 Tryd.sizeOf40 rfl rfl)) ?_
 refine OD.still (wants_plain rfl) rfl (still_r1 (mk := Op.load 40) rfl ot (by first | exact ld_blks (k := 0) (ds := [_, _, _, _, _]) rfl rfl Tryd.isAgg40 Tryd.sizeOf40 rfl rfl | exact ld_is (ds := [_, _, _, _, _]) Tryd.isAgg40 Tryd.sizeOf40 rfl rfl)) ?_
 refine OD.still (wants_plain rfl) rfl (still_bld (pl := [(0, _)]) (ds := [_, _, _, _, _]) rfl Tryd.zeroValue40 Tryd.runUnderlying40 places40_Exb ⟨rfl, opd_const, trivial⟩ rfl rfl) ?_
 refine OD.bldS (pl := numD 0 [_, _, _]) (zvs := [.int .i64 0, .int .i64 0, .int .i64 0, .string ⟨#[]⟩, .string ⟨#[]⟩, .int .i64 0, .int .i64 0, .int .i64 0, .string ⟨#[]⟩, .string ⟨#[]⟩, .int .i64 0, .int .i64 0, .int .i64 0, .string ⟨#[]⟩, .string ⟨#[]⟩]) (ds := [_, _, _, _, _, _, _, _, _, _, _, _, _, _, _]) (wants_plain rfl) rfl rfl Tryd.zeroValue40 Tryd.runUnderlying25 Tryd.sizeOf40 rfl rfl (by kernel_rfl) ⟨rfl, ot, rfl, ot, rfl, ot, trivial⟩ (by exact rfl) (fill_full (by exact rfl) (by exact rfl) (by exact rfl)) (fun b34 => ?_)
 refine OD.perm (perm_q11 (S1 := [⟨b34, 40, 3 * 5, List.flatMap cO ([idO, litO x, bareOp 7])⟩]) (A := [_, _, _])) ?_
 refine OD.giveL (t := 34) (Sq := [⟨b34, 40, 3 * 5, List.flatMap cO ([idO, litO x, bareOp 7])⟩]) lk (ownL_row (g := cO) (sz := 5) (e := 40) (ls := [idO, litO x, bareOp 7]) (Nat.le_refl _) (show 3 ≤ maxLen by decide)) (fm_len cO_len _) (perm_r11 (A := [_, _, _])) ?_
 refine OD.still (wants_plain rfl) rfl (still_r1 (mk := Op.load 40) rfl ot (by first | exact ld_blks (k := 0) (ds := [_, _, _, _, _]) rfl rfl Tryd.isAgg40 Tryd.sizeOf40 rfl rfl | exact ld_is (ds := [_, _, _, _, _]) Tryd.isAgg40 Tryd.sizeOf40 rfl rfl)) ?_
 refine OD.still (wants_plain rfl) rfl (still_r1 (mk := Op.load 40) rfl ot (by first | exact ld_blks (k := 1) (ds := [_, _, _, _, _]) rfl rfl Tryd.isAgg40 Tryd.sizeOf40 rfl rfl | exact ld_is (ds := [_, _, _, _, _]) Tryd.isAgg40 Tryd.sizeOf40 rfl rfl)) ?_
 refine OD.still (wants_plain rfl) rfl (still_bld (pl := [(0, _)]) (ds := [_, _, _, _, _]) rfl Tryd.zeroValue40 Tryd.runUnderlying40 places40_Exb ⟨rfl, opd_const, trivial⟩ rfl rfl) ?_
 refine OD.bldS (pl := numD 0 [_, _, _]) (zvs := [.int .i64 0, .int .i64 0, .int .i64 0, .string ⟨#[]⟩, .string ⟨#[]⟩, .int .i64 0, .int .i64 0, .int .i64 0, .string ⟨#[]⟩, .string ⟨#[]⟩, .int .i64 0, .int .i64 0, .int .i64 0, .string ⟨#[]⟩, .string ⟨#[]⟩]) (ds := [_, _, _, _, _, _, _, _, _, _, _, _, _, _, _]) (wants_plain rfl) rfl rfl Tryd.zeroValue40 Tryd.runUnderlying25 Tryd.sizeOf40 rfl rfl (by kernel_rfl) ⟨rfl, ot, rfl, ot, rfl, ot, trivial⟩ (by exact rfl) (fill_full (by exact rfl) (by exact rfl) (by exact rfl)) (fun b38 => ?_)
 refine OD.perm (perm_q11 (S1 := [⟨b38, 40, 3 * 5, List.flatMap cO ([litO x, idO, bareOp 7])⟩]) (A := [_, _, _])) ?_
 refine OD.giveL (t := 38) (Sq := [⟨b38, 40, 3 * 5, List.flatMap cO ([litO x, idO, bareOp 7])⟩]) lk (ownL_row (g := cO) (sz := 5) (e := 40) (ls := [litO x, idO, bareOp 7]) (Nat.le_refl _) (show 3 ≤ maxLen by decide)) (fm_len cO_len _) (perm_r11 (A := [_, _, _])) ?_
 refine OD.still (wants_plain rfl) rfl (still_r1 (mk := Op.load 40) rfl ot (by first | exact ld_blks (k := 1) (ds := [_, _, _, _, _]) rfl rfl Tryd.isAgg40 Tryd.sizeOf40 rfl rfl | exact ld_is (ds := [_, _, _, _, _]) Tryd.isAgg40 Tryd.sizeOf40 rfl rfl)) ?_
 refine OD.still (wants_plain rfl) rfl (still_r1 (mk := Op.load 40) rfl ot (by first | exact ld_blks (k := 0) (ds := [_, _, _, _, _]) rfl rfl Tryd.isAgg40 Tryd.sizeOf40 rfl rfl | exact ld_is (ds := [_, _, _, _, _]) Tryd.isAgg40 Tryd.sizeOf40 rfl rfl)) ?_
 refine OD.still (wants_plain rfl) rfl (still_bld (pl := [(0, _)]) (ds := [_, _, _, _, _]) rfl Tryd.zeroValue40 Tryd.runUnderlying40 places40_Exb ⟨rfl, opd_const, trivial⟩ rfl rfl) ?_
 refine OD.still (wants_plain rfl) rfl (still_bld (pl := [(0, _)]) (ds := [_, _, _, _, _]) rfl Tryd.zeroValue40 Tryd.runUnderlying40 places40_Exb ⟨rfl, opd_const, trivial⟩ rfl rfl) ?_
 refine OD.bldS (pl := numD 0 [_, _, _, _]) (zvs := [.int .i64 0, .int .i64 0, .int .i64 0, .string ⟨#[]⟩, .string ⟨#[]⟩, .int .i64 0, .int .i64 0, .int .i64 0, .string ⟨#[]⟩, .string ⟨#[]⟩, .int .i64 0, .int .i64 0, .int .i64 0, .string ⟨#[]⟩, .string ⟨#[]⟩, .int .i64 0, .int .i64 0, .int .i64 0, .string ⟨#[]⟩, .string ⟨#[]⟩]) (ds := [_, _, _, _, _, _, _, _, _, _, _, _, _, _, _, _, _, _, _, _]) (wants_plain rfl) rfl rfl Tryd.zeroValue40 Tryd.runUnderlying25 Tryd.sizeOf40 rfl rfl (by kernel_rfl) ⟨rfl, ot, rfl, ot, rfl, ot, rfl, ot, trivial⟩ (by exact rfl) (fill_full (by exact rfl) (by exact rfl) (by exact rfl)) (fun b43 => ?_)
 refine OD.perm (perm_q11 (S1 := [⟨b43, 40, 4 * 5, List.flatMap cO ([idO, litO x, bareOp 7, bareOp 5])⟩]) (A := [_, _, _])) ?_
 refine OD.giveL (t := 43) (Sq := [⟨b43, 40, 4 * 5, List.flatMap cO ([idO, litO x, bareOp 7, bareOp 5])⟩]) lk (ownL_row (g := cO) (sz := 5) (e := 40) (ls := [idO, litO x, bareOp 7, bareOp 5]) (Nat.le_refl _) (show 4 ≤ maxLen by decide)) (fm_len cO_len _) (perm_r11 (A := [_, _, _])) ?_
 refine OD.still (wants_plain rfl) rfl (still_r1 (mk := Op.load 40) rfl ot (by first | exact ld_blks (k := 0) (ds := [_, _, _, _, _]) rfl rfl Tryd.isAgg40 Tryd.sizeOf40 rfl rfl | exact ld_is (ds := [_, _, _, _, _]) Tryd.isAgg40 Tryd.sizeOf40 rfl rfl)) ?_
 refine OD.still (wants_plain rfl) rfl (still_r1 (mk := Op.load 40) rfl ot (by first | exact ld_blks (k := 1) (ds := [_, _, _, _, _]) rfl rfl Tryd.isAgg40 Tryd.sizeOf40 rfl rfl | exact ld_is (ds := [_, _, _, _, _]) Tryd.isAgg40 Tryd.sizeOf40 rfl rfl)) ?_
 refine OD.still (wants_plain rfl) rfl (still_bld (pl := [(0, _)]) (ds := [_, _, _, _, _]) rfl Tryd.zeroValue40 Tryd.runUnderlying40 places40_Exb ⟨rfl, opd_const, trivial⟩ rfl rfl) ?_
 refine OD.still (wants_plain rfl) rfl (still_bld (pl := [(0, _)]) (ds := [_, _, _, _, _]) rfl Tryd.zeroValue40 Tryd.runUnderlying40 places40_Exb ⟨rfl, opd_const, trivial⟩ rfl rfl) ?_
 refine OD.bldS (pl := numD 0 [_, _, _, _]) (zvs := [.int .i64 0, .int .i64 0, .int .i64 0, .string ⟨#[]⟩, .string ⟨#[]⟩, .int .i64 0, .int .i64 0, .int .i64 0, .string ⟨#[]⟩, .string ⟨#[]⟩, .int .i64 0, .int .i64 0, .int .i64 0, .string ⟨#[]⟩, .string ⟨#[]⟩, .int .i64 0, .int .i64 0, .int .i64 0, .string ⟨#[]⟩, .string ⟨#[]⟩]) (ds := [_, _, _, _, _, _, _, _, _, _, _, _, _, _, _, _, _, _, _, _]) (wants_plain rfl) rfl rfl Tryd.zeroValue40 Tryd.runUnderlying25 Tryd.sizeOf40 rfl rfl (by kernel_rfl) ⟨rfl, ot, rfl, ot, rfl, ot, rfl, ot, trivial⟩ (by exact rfl) (fill_full (by exact rfl) (by exact rfl) (by exact rfl)) (fun b48 => ?_)
 refine OD.perm (perm_q11 (S1 := [⟨b48, 40, 4 * 5, List.flatMap cO ([litO x, idO, bareOp 7, bareOp 5])⟩]) (A := [_, _, _])) ?_
 refine OD.giveL (t := 48) (Sq := [⟨b48, 40, 4 * 5, List.flatMap cO ([litO x, idO, bareOp 7, bareOp 5])⟩]) lk (ownL_row (g := cO) (sz := 5) (e := 40) (ls := [litO x, idO, bareOp 7, bareOp 5]) (Nat.le_refl _) (show 4 ≤ maxLen by decide)) (fm_len cO_len _) (perm_r11 (A := [_, _, _])) ?_
 refine OD.still (wants_plain rfl) rfl (still_r1 (mk := Op.load 40) rfl ot (by first | exact ld_blks (k := 1) (ds := [_, _, _, _, _]) rfl rfl Tryd.isAgg40 Tryd.sizeOf40 rfl rfl | exact ld_is (ds := [_, _, _, _, _]) Tryd.isAgg40 Tryd.sizeOf40 rfl rfl)) ?_
 refine OD.still (wants_plain rfl) rfl (still_r1 (mk := Op.load 40) rfl ot (by first | exact ld_blks (k := 0) (ds := [_, _, _, _, _]) rfl rfl Tryd.isAgg40 Tryd.sizeOf40 rfl rfl | exact ld_is (ds := [_, _, _, _, _]) Tryd.isAgg40 Tryd.sizeOf40 rfl rfl)) ?_
 refine OD.still (wants_plain rfl) rfl (still_bld (pl := [(0, _)]) (ds := [_, _, _, _, _]) rfl Tryd.zeroValue40 Tryd.runUnderlying40 places40_Exb ⟨rfl, opd_const, trivial⟩ rfl rfl) ?_
 refine OD.still (wants_plain rfl) rfl (still_bld (pl := [(0, _)]) (ds := [_, _, _, _, _]) rfl Tryd.zeroValue40 Tryd.runUnderlying40 places40_Exb ⟨rfl, opd_const, trivial⟩ rfl rfl) ?_
 refine OD.bldS (pl := numD 0 [_, _, _, _]) (zvs := [.int .i64 0, .int .i64 0, .int .i64 0, .string ⟨#[]⟩, .string ⟨#[]⟩, .int .i64 0, .int .i64 0, .int .i64 0, .string ⟨#[]⟩, .string ⟨#[]⟩, .int .i64 0, .int .i64 0, .int .i64 0, .string ⟨#[]⟩, .string ⟨#[]⟩, .int .i64 0, .int .i64 0, .int .i64 0, .string ⟨#[]⟩, .string ⟨#[]⟩]) (ds := [_, _, _, _, _, _, _, _, _, _, _, _, _, _, _, _, _, _, _, _]) (wants_plain rfl) rfl rfl Tryd.zeroValue40 Tryd.runUnderlying25 Tryd.sizeOf40 rfl rfl (by kernel_rfl) ⟨rfl, ot, rfl, ot, rfl, ot, rfl, ot, trivial⟩ (by exact rfl) (fill_full (by exact rfl) (by exact rfl) (by exact rfl)) (fun b53 => ?_)
 refine OD.perm (perm_q11 (S1 := [⟨b53, 40, 4 * 5, List.flatMap cO ([idO, litO x, bareOp 6, bareOp 5])⟩]) (A := [_, _, _])) ?_
 refine OD.giveL (t := 53) (Sq := [⟨b53, 40, 4 * 5, List.flatMap cO ([idO, litO x, bareOp 6, bareOp 5])⟩]) lk (ownL_row (g := cO) (sz := 5) (e := 40) (ls := [idO, litO x, bareOp 6, bareOp 5]) (Nat.le_refl _) (show 4 ≤ maxLen by decide)) (fm_len cO_len _) (perm_r11 (A := [_, _, _])) ?_
 refine OD.bldS (pl := numD 0 [_, _, _, _, _, _, _]) (zvs := [.slice none 0 0, .slice none 0 0, .slice none 0 0, .slice none 0 0, .slice none 0 0, .slice none 0 0, .slice none 0 0]) (ds := [_, _, _, _, _, _, _]) (wants_plain rfl) rfl rfl Tryd.zeroValue25 Tryd.runUnderlying46 Tryd.sizeOf25 rfl rfl (by kernel_rfl) ⟨rfl, ot, rfl, ot, rfl, ot, rfl, ot, rfl, ot, rfl, ot, rfl, ot, trivial⟩ (by exact rfl) (fill_full (by exact rfl) (by exact rfl) (by exact rfl)) (fun b54 => ?_)
 refine OD.still (wants_plain rfl) rfl (still_as rfl ot) ?_
 refine OD.wk (Wk.as_ (n := 134) (l' := [(1, _), (5, _), (8, _)]) (S' := [⟨b54, 25, 7, [_, _, _, _, _, _, _]⟩, ⟨b7, 40, 5, [_, _, _, _, _]⟩, ⟨b6, 40, 5, [_, _, _, _, _]⟩, ⟨b5, 33, 3, [_, _, _]⟩]) rfl rfl ⟨lk, lk, lk, trivial⟩) ?_
 refine OD.nil ?_
 refine CD.seq ?_
 refine CD.region ?_
 refine OD.still (wants_plain rfl) rfl (still_mv rfl ot) ?_
 refine OD.callP (wants_plain rfl) rfl rfl rfl Tryd.call15 (hpk) ⟨ot, opd_const, trivial⟩ ?_
 refine OD.still (wants_plain rfl) rfl (still_as rfl ot) ?_
 refine OD.wk (Wk.as_ (n := 134) (l' := [(5, _), (8, _), (9, _)]) (S' := [⟨b54, 25, 7, [_, _, _, _, _, _, _]⟩, ⟨b7, 40, 5, [_, _, _, _, _]⟩, ⟨b6, 40, 5, [_, _, _, _, _]⟩, ⟨b5, 33, 3, [_, _, _]⟩]) rfl rfl ⟨lk, lk, lk, trivial⟩) ?_
 refine OD.nil ?_
 refine CD.seq ?_
 refine CD.draw (bks _) (by kernel_rfl) (fun _ h => h) ?_
 refine AD0.take (i := 1) rfl (by kernel_rfl) (by kernel_rfl) (by kernel_rfl) (by repeat (first | exact NP.body | apply NP.then | apply NP.cut | apply NP.inBlock | apply NP.round)) (wants_plain rfl) rfl (still_mv rfl ot) (by exact trivial) ?_
 refine AD0.take (i := 2) rfl (by kernel_rfl) (by kernel_rfl) (by kernel_rfl) (by repeat (first | exact NP.body | apply NP.then | apply NP.cut | apply NP.inBlock | apply NP.round)) (wants_plain rfl) rfl (still_mv rfl ot) (by exact trivial) ?_
 refine AD0.take (i := 3) rfl (by kernel_rfl) (by kernel_rfl) (by kernel_rfl) (by repeat (first | exact NP.body | apply NP.then | apply NP.cut | apply NP.inBlock | apply NP.round)) (wants_plain rfl) rfl (still_r2 (mk := Op.indexAddr 46) rfl ot ot (by first | exact ix_list Tryd.runUnderlying46 Tryd.sizeOf25 (j := 5) rfl (by decide) | exact ix_row Tryd.runUnderlying46 Tryd.sizeOf25 (j := 5) rfl (by decide))) (by exact trivial) ?_
 refine AD0.take (i := 4) rfl (by kernel_rfl) (by kernel_rfl) (by kernel_rfl) (by repeat (first | exact NP.body | apply NP.then | apply NP.cut | apply NP.inBlock | apply NP.round)) (wants_plain rfl) rfl (still_r1 (mk := Op.load 25) rfl ot (by first | exact ld_blk (k := 0) rfl rfl Tryd.isAgg25 rfl | exact ld_blk (k := 1) rfl rfl Tryd.isAgg25 rfl | exact ld_blk (k := 2) rfl rfl Tryd.isAgg25 rfl | exact ld_blk (k := 3) rfl rfl Tryd.isAgg25 rfl | exact ld_i Tryd.isAgg25 rfl)) (by first | exact trivial | exact safe_blk (k0 := 0) rfl rfl | exact safe_blk (k0 := 1) rfl rfl | exact safe_blk (k0 := 2) rfl rfl | exact safe_blk (k0 := 3) rfl rfl) ?_
 refine AD0.later rfl ?_
 refine AD.one (i := 0) (by kernel_rfl) ?_
 refine AStep.callP rfl (wants_plain rfl) rfl rfl rfl Tryd.call10 (colsOf_vp) trivial ?_
 refine AD.one (i := 5) (by kernel_rfl) ?_
 refine AStep.callP rfl (wants_plain rfl) rfl rfl rfl Tryd.call16 (hbv) ⟨ot, ot, trivial⟩ ?_
 refine AD.take (i := 6) rfl (by kernel_rfl) (by kernel_rfl) (by kernel_rfl) (by repeat (first | exact NP.body | apply NP.then | apply NP.cut | apply NP.inBlock | apply NP.round)) (wants_plain rfl) rfl (still_mv rfl ot) (by exact trivial) (by intro h; cases h) ?_
 refine AD.take (i := 7) rfl (by kernel_rfl) (by kernel_rfl) (by kernel_rfl) (by repeat (first | exact NP.body | apply NP.then | apply NP.cut | apply NP.inBlock | apply NP.round)) (wants_plain rfl) rfl (still_extract rfl ot rfl) (by exact trivial) (by intro h; cases h) ?_
 refine AD.take (i := 8) rfl (by kernel_rfl) (by kernel_rfl) (by kernel_rfl) (by repeat (first | exact NP.body | apply NP.then | apply NP.cut | apply NP.inBlock | apply NP.round)) (wants_plain rfl) rfl (still_extract rfl ot rfl) (by exact trivial) (by intro h; cases h) ?_
 refine AD.take (i := 9) rfl (by kernel_rfl) (by kernel_rfl) (by kernel_rfl) (by repeat (first | exact NP.body | apply NP.then | apply NP.cut | apply NP.inBlock | apply NP.round)) (wants_plain rfl) rfl (still_extract rfl ot rfl) (by exact trivial) (by intro h; cases h) ?_
 refine AD.take (i := 10) rfl (by kernel_rfl) (by kernel_rfl) (by kernel_rfl) (by repeat (first | exact NP.body | apply NP.then | apply NP.cut | apply NP.inBlock | apply NP.round)) (wants_plain rfl) rfl (still_as rfl ot) (by exact trivial) (by intro h; cases h) ?_
 refine AD.take (i := 11) rfl (by kernel_rfl) (by kernel_rfl) (by kernel_rfl) (by repeat (first | exact NP.body | apply NP.then | apply NP.cut | apply NP.inBlock | apply NP.round)) (wants_plain rfl) rfl (still_as rfl ot) (by exact trivial) (by intro h; cases h) ?_
 refine AD.take (i := 12) rfl (by kernel_rfl) (by kernel_rfl) (by kernel_rfl) (by repeat (first | exact NP.body | apply NP.then | apply NP.cut | apply NP.inBlock | apply NP.round)) (wants_plain rfl) rfl (still_as rfl ot) (by exact trivial) (by intro h; cases h) ?_
 refine AD.wk (y := ⟨134, [(5, _), (9, _), (10, _), (11, _), (12, _)], [⟨b54, 25, 7, [_, _, _, _, _, _, _]⟩, ⟨b7, 40, 5, [_, _, _, _, _]⟩, ⟨b6, 40, 5, [_, _, _, _, _]⟩, ⟨b5, 33, 3, [_, _, _]⟩]⟩) (Wk.as_ rfl rfl ⟨lk, lk, lk, lk, lk, trivial⟩) rfl ?_
 refine AD.done (by kernel_rfl) ?_
 refine CD.seq ?_
 refine CD.region ?_
 refine OD.still (wants_plain rfl) rfl (still_r1 (mk := Op.load 33) rfl ot (by first | exact ld_blks (k := 3) (ds := [_, _, _]) rfl rfl Tryd.isAgg33 Tryd.sizeOf33 rfl rfl | exact ld_is (ds := [_, _, _]) Tryd.isAgg33 Tryd.sizeOf33 rfl rfl)) ?_
 refine OD.bldS (pl := numD 0 [_]) (zvs := [.int .i64 0, .int .i64 0, .string ⟨#[]⟩]) (ds := [_, _, _]) (wants_plain rfl) rfl rfl Tryd.zeroValue33 Tryd.runUnderlying36 Tryd.sizeOf33 rfl rfl (by kernel_rfl) ⟨rfl, ot, trivial⟩ (by exact rfl) (fill_full (by exact rfl) (by exact rfl) (by exact rfl)) (fun b69 => ?_)
 refine OD.perm (perm_q11 (S1 := [⟨b69, 33, 1 * 3, List.flatMap cV ([numV x])⟩]) (A := [_, _, _, _])) ?_
 refine OD.giveL (t := 69) (Sq := [⟨b69, 33, 1 * 3, List.flatMap cV ([numV x])⟩]) lk (ownL_row (g := cV) (sz := 3) (e := 33) (ls := [numV x]) (Nat.le_refl _) (show 1 ≤ maxLen by decide)) (fm_len cV_len _) (perm_r11 (A := [_, _, _, _])) ?_
 refine OD.callP (wants_plain rfl) rfl rfl rfl Tryd.call17 (hev) ⟨ot, trivial⟩ ?_
 refine OD.still (wants_plain rfl) rfl (still_mv rfl ot) ?_
 refine OD.still (wants_plain rfl) rfl (still_extract rfl ot rfl) ?_
 refine OD.still (wants_plain rfl) rfl (still_extract rfl ot rfl) ?_
 refine OD.still (wants_plain rfl) rfl (still_as rfl ot) ?_
 refine OD.still (wants_plain rfl) rfl (still_as rfl ot) ?_
 refine OD.wk (Wk.as_ (n := 134) (l' := [(9, _), (10, _), (11, _), (12, _), (13, _), (14, _)]) (S' := [⟨b54, 25, 7, [_, _, _, _, _, _, _]⟩, ⟨b7, 40, 5, [_, _, _, _, _]⟩, ⟨b6, 40, 5, [_, _, _, _, _]⟩, ⟨b5, 33, 3, [_, _, _]⟩]) rfl rfl ⟨lk, lk, lk, lk, lk, lk, trivial⟩) ?_
 refine OD.nil ?_
 refine CD.seq ?_
 refine CD.region ?_
 refine OD.still (wants_plain rfl) rfl (still_mv rfl ot) ?_
 refine OD.still (wants_plain rfl) rfl (still_bin rfl ot opd_const bin_lss) ?_
 refine OD.still (wants_plain rfl) rfl (still_mv rfl ot) ?_
 refine OD.split (t := 75) lk (fun hg75 => ?_) (fun hg75 => ?_)
 ·exact absurd hg75 (by decide)
 ·have hg75' := hg75; (try simp only [V.cnd, ne_eq] at hg75')
  refine OD.still (wants_T rfl rfl rfl lk (by first | rfl | assumption)) rfl (still_mv rfl ot) ?_
  refine OD.still (wants_T rfl rfl rfl lk (by first | rfl | assumption)) rfl (still_bin rfl ot opd_const bin_eql) ?_
  refine OD.still (wants_plain rfl) rfl (still_pickF rfl ot (by first | rfl | assumption) ot) ?_
  refine OD.still (wants_plain rfl) rfl (still_mv rfl ot) ?_
  refine OD.split (t := 79) lk (fun hg79 => ?_) (fun hg79 => ?_)
  ·exact absurd hg79 (by decide)
  ·have hg79' := hg79; (try simp only [V.cnd, ne_eq] at hg79')
   refine OD.still (wants_T rfl rfl rfl lk (by first | rfl | assumption)) rfl (still_mv rfl ot) ?_
   refine OD.still (wants_T rfl rfl rfl lk (by first | rfl | assumption)) rfl (still_bin rfl ot opd_const bin_eql) ?_
   refine OD.still (wants_plain rfl) rfl (still_pickF rfl ot (by first | rfl | assumption) ot) ?_
   refine OD.still (wants_plain rfl) rfl (still_as rfl ot) ?_
   refine OD.wk (Wk.as_ (n := 134) (l' := [(9, _), (10, _), (11, _), (12, _), (13, _), (14, _), (15, _)]) (S' := [⟨b54, 25, 7, [_, _, _, _, _, _, _]⟩, ⟨b7, 40, 5, [_, _, _, _, _]⟩, ⟨b6, 40, 5, [_, _, _, _, _]⟩, ⟨b5, 33, 3, [_, _, _]⟩]) rfl rfl ⟨lk, lk, lk, lk, lk, lk, lk, trivial⟩) ?_
   refine OD.nil ?_
   refine CD.seq ?_
   refine CD.region ?_
   refine OD.still (wants_plain rfl) rfl (still_mv rfl ot) ?_
   refine OD.still (wants_plain rfl) rfl (still_bin rfl ot opd_const bin_lss) ?_
   refine OD.still (wants_plain rfl) rfl (still_mv rfl ot) ?_
   refine OD.split (t := 85) lk (fun hg85 => ?_) (fun hg85 => ?_)
   ·exact absurd hg85 (by decide)
   ·have hg85' := hg85; (try simp only [V.cnd, ne_eq] at hg85')
    refine OD.still (wants_T rfl rfl rfl lk (by first | rfl | assumption)) rfl (still_mv rfl ot) ?_
    refine OD.still (wants_T rfl rfl rfl lk (by first | rfl | assumption)) rfl (still_bin rfl ot opd_const bin_eql) ?_
    refine OD.still (wants_plain rfl) rfl (still_pickF rfl ot (by first | rfl | assumption) ot) ?_
    refine OD.still (wants_plain rfl) rfl (still_as rfl ot) ?_
    refine OD.wk (Wk.as_ (n := 134) (l' := [(10, _), (11, _), (12, _), (13, _), (14, _), (15, _), (16, _)]) (S' := [⟨b54, 25, 7, [_, _, _, _, _, _, _]⟩, ⟨b7, 40, 5, [_, _, _, _, _]⟩, ⟨b6, 40, 5, [_, _, _, _, _]⟩, ⟨b5, 33, 3, [_, _, _]⟩]) rfl rfl ⟨lk, lk, lk, lk, lk, lk, lk, trivial⟩) ?_
    refine OD.nil ?_
    refine CD.seq ?_
    refine CD.seq ?_
    refine CD.region ?_
    refine OD.still (wants_plain rfl) rfl (still_mv rfl ot) ?_
    refine OD.still (wants_plain rfl) rfl (still_bin rfl ot opd_const bin_neq) ?_
    refine OD.still (wants_plain rfl) rfl (still_mv rfl ot) ?_
    refine OD.split (t := 91) lk (fun hg91 => ?_) (fun hg91 => ?_)
    ·exact absurd hg91 (by simp)
    ·have hg91' := hg91; (try simp only [V.cnd, ne_eq] at hg91')
     refine OD.still (wants_T rfl rfl rfl lk (by first | rfl | assumption)) rfl (still_mv rfl ot) ?_
     refine OD.still (wants_T rfl rfl rfl lk (by first | rfl | assumption)) rfl (still_bin rfl ot opd_const bin_neq) ?_
     refine OD.still (wants_plain rfl) rfl (still_pickF rfl ot (by first | rfl | assumption) ot) ?_
     refine OD.still (wants_plain rfl) rfl (still_mv rfl ot) ?_
     refine OD.split (t := 95) lk (fun hg95 => ?_) (fun hg95 => ?_)
     ·exact absurd hg95 (by simp)
     ·have hg95' := hg95; (try simp only [V.cnd, ne_eq] at hg95')
      refine OD.still (wants_T rfl rfl rfl lk (by first | rfl | assumption)) rfl (still_mv rfl ot) ?_
      refine OD.still (wants_T rfl rfl rfl lk (by first | rfl | assumption)) rfl (still_r1 (mk := fun y => .call { callee := .builtin .len, args := #[y], argTypes := #[47] }) rfl ot (by first | exact len_list rfl Tryd.runUnderlying47 | exact len_row rfl Tryd.runUnderlying47)) ?_
      refine OD.still (wants_T rfl rfl rfl lk (by first | rfl | assumption)) rfl (still_bin rfl ot opd_const bin_eql) ?_
      refine OD.still (wants_plain rfl) rfl (still_pickF rfl ot (by first | rfl | assumption) ot) ?_
      refine OD.wk (Wk.as_ (n := 134) (l' := [(10, _), (11, _), (13, _), (15, _), (16, _), (99, _)]) (S' := [⟨b54, 25, 7, [_, _, _, _, _, _, _]⟩, ⟨b7, 40, 5, [_, _, _, _, _]⟩, ⟨b6, 40, 5, [_, _, _, _, _]⟩, ⟨b5, 33, 3, [_, _, _]⟩]) rfl rfl ⟨lk, lk, lk, lk, lk, lk, trivial⟩) ?_
      refine OD.nil ?_
      refine CD.cond ot (fun hc0 => ?_) (fun hc0 => ?_)
      ·exact absurd hc0 (by rw [hkl]; decide)
      ·have hc0' := hc0
       (try simp only [V.cnd, ne_eq] at hc0')
       refine CD.skip ?_
       refine CD.seq ?_
       refine CD.seq ?_
       refine CD.region ?_
       refine OD.still (wants_plain rfl) rfl (still_mv rfl ot) ?_
       refine OD.still (wants_plain rfl) rfl (still_mv rfl ot) ?_
       refine OD.split (t := 101) lk (fun hg101 => ?_) (fun hg101 => ?_)
       ·exact absurd hg101 (by decide)
       ·have hg101' := hg101; (try simp only [V.cnd, ne_eq] at hg101')
        refine OD.skip (wants_F rfl rfl rfl lk (by first | rfl | assumption)) rfl ?_
        refine OD.skip (wants_F rfl rfl rfl lk (by first | rfl | assumption)) rfl ?_
        refine OD.skip (wants_F rfl rfl rfl lk (by first | rfl | assumption)) rfl ?_
        refine OD.skip (wants_F rfl rfl rfl lk (by first | rfl | assumption)) rfl ?_
        refine OD.skip (wants_F rfl rfl rfl lk (by first | rfl | assumption)) rfl ?_
        refine OD.still (wants_plain rfl) rfl (still_pickF rfl ot (by first | rfl | assumption) opd_const) ?_
        refine OD.still (wants_plain rfl) rfl (still_mv rfl ot) ?_
        refine OD.still (wants_T rfl rfl rfl lk (by first | rfl | assumption)) rfl (still_mv rfl ot) ?_
        refine OD.still (wants_T rfl rfl rfl lk (by first | rfl | assumption)) rfl (still_un rfl ot un_not) ?_
        refine OD.still (wants_T rfl rfl rfl lk (by first | rfl | assumption)) rfl (still_mv rfl ot) ?_
        refine OD.split (t := 111) lk (fun hg111 => ?_) (fun hg111 => ?_)
        ·have hg111' := hg111; (try simp only [V.cnd, ne_eq] at hg111')
         refine OD.still (wants_T rfl rfl rfl lk (by first | rfl | assumption)) rfl (still_mv rfl ot) ?_
         refine OD.still (wants_T rfl rfl rfl lk (by first | rfl | assumption)) rfl (still_r1 (mk := fun y => .call { callee := .builtin .len, args := #[y], argTypes := #[47] }) rfl ot (by first | exact len_list rfl Tryd.runUnderlying47 | exact len_row rfl Tryd.runUnderlying47)) ?_
         refine OD.still (wants_T rfl rfl rfl lk (by first | rfl | assumption)) rfl (still_bin rfl ot opd_const bin_gtr) ?_
         refine OD.still (wants_T rfl rfl rfl lk (by first | rfl | assumption)) rfl (still_pickT rfl ot (by first | rfl | assumption) ot) ?_
         refine OD.still (wants_plain rfl) rfl (still_pickF rfl ot (by first | rfl | assumption) ot) ?_
         refine OD.wk (Wk.as_ (n := 134) (l' := [(11, _), (13, _), (16, _), (116, _)]) (S' := [⟨b54, 25, 7, [_, _, _, _, _, _, _]⟩, ⟨b7, 40, 5, [_, _, _, _, _]⟩, ⟨b6, 40, 5, [_, _, _, _, _]⟩, ⟨b5, 33, 3, [_, _, _]⟩]) rfl rfl ⟨lk, lk, lk, lk, trivial⟩) ?_
         refine OD.nil ?_
         refine CD.cond ot (fun hc1 => ?_) (fun hc1 => ?_)
         ·exact absurd hc1 (by simp)
         ·have hc1' := hc1
          (try simp only [V.cnd, ne_eq] at hc1')
          refine CD.skip ?_
          refine CD.seq ?_
          refine CD.region ?_
          refine OD.still (wants_plain rfl) rfl (still_mv rfl ot) ?_
          refine OD.still (wants_plain rfl) rfl (still_mv rfl ot) ?_
          refine OD.split (t := 118) lk (fun hg118 => ?_) (fun hg118 => ?_)
          ·have hg118' := hg118; (try simp only [V.cnd, ne_eq] at hg118')
           refine OD.still (wants_T rfl rfl rfl lk (by first | rfl | assumption)) rfl (still_mv rfl ot) ?_
           first | refine OD.still (wants_T rfl rfl rfl lk (by first | rfl | assumption)) rfl (still_ofBytes rfl ot Tryd.underlying47 Tryd.underlying5 Tryd.underlying9) ?_ | refine OD.still (wants_T rfl rfl rfl lk (by first | rfl | assumption)) rfl (still_ofBytesF rfl ot Tryd.underlying47 Tryd.underlying5 Tryd.underlying9) ?_
           refine OD.still (wants_T rfl rfl rfl lk (by first | rfl | assumption)) rfl (still_mv rfl ot) ?_
           first | refine OD.still (wants_T rfl rfl rfl lk (by first | rfl | assumption)) rfl (still_ofBytes rfl ot Tryd.underlying47 Tryd.underlying5 Tryd.underlying9) ?_ | refine OD.still (wants_T rfl rfl rfl lk (by first | rfl | assumption)) rfl (still_ofBytesF rfl ot Tryd.underlying47 Tryd.underlying5 Tryd.underlying9) ?_
           refine OD.still (wants_T rfl rfl rfl lk (by first | rfl | assumption)) rfl (still_bin rfl ot ot bin_seql) ?_
           refine OD.still (wants_plain rfl) rfl (still_pickT rfl ot (by first | rfl | assumption) ot) ?_
           refine OD.still (wants_plain rfl) rfl (still_mv rfl ot) ?_
           refine OD.split (t := 125) lk (fun hg125 => ?_) (fun hg125 => ?_)
           ·have hg125' := hg125; (try simp only [V.cnd, ne_eq] at hg125')
            refine OD.skip (wants_F rfl rfl rfl lk (by first | rfl | assumption)) rfl ?_
            refine OD.skip (wants_F rfl rfl rfl lk (by first | rfl | assumption)) rfl ?_
            refine OD.skip (wants_F rfl rfl rfl lk (by first | rfl | assumption)) rfl ?_
            refine OD.skip (wants_J (b := false) rfl rfl rfl lk) rfl ?_
            refine OD.skip (wants_J (b := false) rfl rfl rfl lk) rfl ?_
            refine OD.skip (wants_J (b := false) rfl rfl rfl lk) rfl ?_
            refine OD.skip (wants_F rfl rfl rfl lk (by first | rfl | assumption)) rfl ?_
            refine OD.still (wants_plain rfl) rfl (still_pickT rfl ot (by first | rfl | assumption) opd_const) ?_
            refine OD.still (wants_plain rfl) rfl (still_as rfl ot) ?_
            refine OD.wk (Wk.as_ (n := 134) (l' := [(4, _)]) (S' := [⟨b54, 25, 7, [_, _, _, _, _, _, _]⟩, ⟨b7, 40, 5, [_, _, _, _, _]⟩, ⟨b6, 40, 5, [_, _, _, _, _]⟩, ⟨b5, 33, 3, [_, _, _]⟩]) rfl rfl ⟨lk, trivial⟩) ?_
            refine OD.nil ?_
            refine CD.ret ?_
            refine ⟨.inr rfl, _, [], List.nil_sublist _, ret_one Tryd.results5 (res_tmp (Nat.le_of_ble_eq_true rfl) lk), ?_⟩
            first | exact ⟨rfl, rfl⟩ | (refine ⟨vb ?_, rfl⟩; simp)
           ·exact absurd hg125 (by simp)
          ·exact absurd hg118 (by decide)
        ·exact absurd hg111 (by decide)

set_option maxHeartbeats 4000000 in
set_option maxRecDepth 100000 in
theorem one6_vp {m : Int} (hm : (3, marksC) ∈ G) (hw : (0, wordsC) ∈ G) (ht : (2, typesC) ∈ G) (hG : (1, [Value.int .i64 m]) ∈ G) (n : Int) (n1 : -9223372036854775808 ≤ n) (n2 : n ≤ 9223372036854775807) (form : Int) (form1 : -9223372036854775808 ≤ form) (form2 : form ≤ 9223372036854775807) (hk : pickedF form 7 = 6) : VP Tryd.prog G 5 [.v (.int .i64 n), .v (.int .i64 form)] (.v (.bool true)) := by
 refine VC.body Tryd.func5 rfl Tryd.ntmps5 (Nat.le_of_ble_eq_true rfl) fun X0 w0 S00 => ?_
 have hxb := pickedF_bd n (show (1 : Int) ≤ 1000 by decide)
 have hbv := Bounds_at hm hw ht hG [idO, litO (pickedF n 1000), bareOp 6, bareOp 5] (fine_cons fine_id (fine_cons (fine_lit (by omega) (by omega)) (fine_cons (fine_bare 6) (fine_cons (fine_bare 5) fine_nil))))
 rw [one6 hxb.1] at hbv
 unfold bdD bytesL at hbv
 have hev := enc_at hm hw ht hG (pickedF n 1000) hxb.1 (by omega)
 have hkl := key_len (pickedF n 1000)
 have hpn := (picked_vp G n 1000 n1 n2 (by decide))
 have hpk := (picked_vp G form 7 form1 form2 (by decide))
 rw [hk] at hpk
 skip
 generalize (pickedF n 1000) = x at *
 refine CD.seq ?_
 refine CD.region ?_
 refine OD.still (wants_plain rfl) rfl (still_as rfl opd_const) ?_
 refine OD.wk (Wk.as_ (n := 134) (l' := [(0, _), (1, _)]) (S' := []) rfl rfl ⟨lk, lk, trivial⟩) ?_
 refine OD.nil ?_
 refine CD.seq ?_
 refine CD.region ?_
 refine OD.still (wants_plain rfl) rfl (still_mv rfl ot) ?_
 refine OD.callP (wants_plain rfl) rfl rfl rfl Tryd.call15 (hpn) ⟨ot, opd_const, trivial⟩ ?_
 refine OD.still (wants_plain rfl) rfl (still_bld (pl := [(0, _), (1, _)]) (ds := [_, _, _]) rfl Tryd.zeroValue33 Tryd.runUnderlying33 places33_Exb ⟨rfl, opd_const, rfl, ot, trivial⟩ rfl rfl) ?_
 refine OD.alloc (ds := [_, _, _]) (wants_plain rfl) rfl rfl Tryd.zeroValue33 rfl (fun b5 => ?_)
 refine OD.store (k := 0) (cs' := [_, _, _]) (wants_plain rfl) rfl rfl ot rfl rfl ot rfl rfl Tryd.sizeOf33 rfl rfl rfl ?_
 refine OD.wk (Wk.as_ (n := 134) (l' := [(1, _), (5, _)]) (S' := [⟨b5, 33, 3, [_, _, _]⟩]) rfl rfl ⟨lk, lk, trivial⟩) ?_
 refine OD.nil ?_
 refine CD.seq ?_
 refine CD.region ?_
 refine OD.still (wants_plain rfl) rfl (still_bld (pl := [(0, _), (2, _)]) (ds := [_, _, _, _, _]) rfl Tryd.zeroValue40 Tryd.runUnderlying40 places40_Exb ⟨rfl, opd_const, rfl, opd_const, trivial⟩ rfl rfl) ?_
 refine OD.alloc (ds := [_, _, _, _, _]) (wants_plain rfl) rfl rfl Tryd.zeroValue40 rfl (fun b6 => ?_)
 refine OD.store (k := 0) (cs' := [_, _, _, _, _]) (wants_plain rfl) rfl rfl ot rfl rfl ot rfl rfl Tryd.sizeOf40 rfl rfl rfl ?_
 refine OD.wk (Wk.as_ (n := 134) (l' := [(1, _), (5, _), (6, _)]) (S' := [⟨b6, 40, 5, [_, _, _, _, _]⟩, ⟨b5, 33, 3, [_, _, _]⟩]) rfl rfl ⟨lk, lk, lk, trivial⟩) ?_
 refine OD.nil ?_
 refine CD.seq ?_
 refine CD.region ?_
 refine OD.still (wants_plain rfl) rfl (still_r1 (mk := Op.load 33) rfl ot (by first | exact ld_blks (k := 1) (ds := [_, _, _]) rfl rfl Tryd.isAgg33 Tryd.sizeOf33 rfl rfl | exact ld_is (ds := [_, _, _]) Tryd.isAgg33 Tryd.sizeOf33 rfl rfl)) ?_
 refine OD.still (wants_plain rfl) rfl (still_bld (pl := [(0, _), (1, _)]) (ds := [_, _, _, _, _]) rfl Tryd.zeroValue40 Tryd.runUnderlying40 places40_Exb ⟨rfl, opd_const, rfl, ot, trivial⟩ rfl rfl) ?_
 refine OD.alloc (ds := [_, _, _, _, _]) (wants_plain rfl) rfl rfl Tryd.zeroValue40 rfl (fun b7 => ?_)
 refine OD.store (k := 0) (cs' := [_, _, _, _, _]) (wants_plain rfl) rfl rfl ot rfl rfl ot rfl rfl Tryd.sizeOf40 rfl rfl rfl ?_
 refine OD.wk (Wk.as_ (n := 134) (l' := [(1, _), (5, _), (6, _), (7, _)]) (S' := [⟨b7, 40, 5, [_, _, _, _, _]⟩, ⟨b6, 40, 5, [_, _, _, _, _]⟩, ⟨b5, 33, 3, [_, _, _]⟩]) rfl rfl ⟨lk, lk, lk, lk, trivial⟩) ?_
 refine OD.nil ?_
 refine CD.seq ?_
 refine CD.region ?_
 refine OD.still (wants_plain rfl) rfl (still_r1 (mk := Op.load 40) rfl ot (by first | exact ld_blks (k := 1) (ds := [_, _, _, _, _]) rfl rfl Tryd.isAgg40 Tryd.sizeOf40 rfl rfl | exact ld_is (ds := [_, _, _, _, _]) Tryd.isAgg40 Tryd.sizeOf40 rfl rfl)) ?_
 refine OD.still (wants_plain rfl) rfl (still_r1 (mk := Op.load 40) rfl ot (by first | exact ld_blks (k := 0) (ds := [_, _, _, _, _]) rfl rfl Tryd.isAgg40 Tryd.sizeOf40 rfl rfl | exact ld_is (ds := [_, _, _, _, _]) Tryd.isAgg40 Tryd.sizeOf40 rfl rfl)) ?_
 refine OD.still (wants_plain rfl) rfl (still_bld (pl := [(0, _)]) (ds := [_, _, _, _, _]) rfl Tryd.zeroValue40 Tryd.runUnderlying40 places40_Exb ⟨rfl, opd_const, trivial⟩ rfl rfl) ?_
 refine OD.bldS (pl := numD 0 [_, _, _]) (zvs := [.int .i64 0, .int .i64 0, .int .i64 0, .string ⟨#[]⟩, .string ⟨#[]⟩, .int .i64 0, .int .i64 0, .int .i64 0, .string ⟨#[]⟩, .string ⟨#[]⟩, .int .i64 0, .int .i64 0, .int .i64 0, .string ⟨#[]⟩, .string ⟨#[]⟩]) (ds := [_, _, _, _, _, _, _, _, _, _, _, _, _, _, _]) (wants_plain rfl) rfl rfl Tryd.zeroValue40 Tryd.runUnderlying25 Tryd.sizeOf40 rfl rfl (by kernel_rfl) ⟨rfl, ot, rfl, ot, rfl, ot, trivial⟩ (by exact rfl) (fill_full (by exact rfl) (by exact rfl) (by exact rfl)) (fun b26 => ?_)
 refine OD.perm (perm_q11 (S1 := [⟨b26, 40, 3 * 5, List.flatMap cO ([idO, litO x, bareOp 6])⟩]) (A := [_, _, _])) ?_
 refine OD.giveL (t := 26) (Sq := [⟨b26, 40, 3 * 5, List.flatMap cO ([idO, litO x, bareOp 6])⟩]) lk (ownL_row (g := cO) (sz := 5) (e := 40) (ls := [idO, litO x, bareOp 6]) (Nat.le_refl _) (show 3 ≤ maxLen by decide)) (fm_len cO_len _) (perm_r11 (A := [_, _, _])) ?_
 refine OD.still (wants_plain rfl) rfl (still_r1 (mk := Op.load 40) rfl ot (by first | exact ld_blks (k := 0) (ds := [_, _, _, _, _]) rfl rfl Tryd.isAgg40 Tryd.sizeOf40 rfl rfl | exact ld_is (ds := [_, _, _, _, _]) Tryd.isAgg40 Tryd.sizeOf40 rfl rfl)) ?_
 refine OD.still (wants_plain rfl) rfl (still_r1 (mk := Op.load 40) rfl ot (by first | exact ld_blks (k := 1) (ds := [_, _, _, _, _]) rfl rfl Tryd.isAgg40 Tryd.sizeOf40 rfl rfl | exact ld_is (ds := [_, _, _, _, _]) Tryd.isAgg40 Tryd.sizeOf40 rfl rfl)) ?_
 refine OD.still (wants_plain rfl) rfl (still_bld (pl := [(0, _)]) (ds := [_, _, _, _, _]) rfl Tryd.zeroValue40 Tryd.runUnderlying40 places40_Exb ⟨rfl, opd_const, trivial⟩ rfl rfl) ?_
 refine OD.bldS (pl := numD 0 [_, _, _]) (zvs := [.int .i64 0, .int .i64 0, .int .i64 0, .string ⟨#[]⟩, .string ⟨#[]⟩, .int .i64 0, .int .i64 0, .int .i64 0, .string ⟨#[]⟩, .string ⟨#[]⟩, .int .i64 0, .int .i64 0, .int .i64 0, .string ⟨#[]⟩, .string ⟨#[]⟩]) (ds := [_, _, _, _, _, _, _, _, _, _, _, _, _, _, _]) (wants_plain rfl) rfl rfl Tryd.zeroValue40 Tryd.runUnderlying25 Tryd.sizeOf40 rfl rfl (by kernel_rfl) ⟨rfl, ot, rfl, ot, rfl, ot, trivial⟩ (by exact rfl) (fill_full (by exact rfl) (by exact rfl) (by exact rfl)) (fun b30 => ?_)
 refine OD.perm (perm_q11 (S1 := [⟨b30, 40, 3 * 5, List.flatMap cO ([litO x, idO, bareOp 6])⟩]) (A := [_, _, _])) ?_
 refine OD.giveL (t := 30) (Sq := [⟨b30, 40, 3 * 5, List.flatMap cO ([litO x, idO, bareOp 6])⟩]) lk (ownL_row (g := cO) (sz := 5) (e := 40) (ls := [litO x, idO, bareOp 6]) (Nat.le_refl _) (show 3 ≤ maxLen by decide)) (fm_len cO_len _) (perm_r11 (A := [_, _, _])) ?_
 refine OD.still (wants_plain rfl) rfl (still_r1 (mk := Op.load 40) rfl ot (by first | exact ld_blks (k := 1) (ds := [_, _, _, _, _]) rfl rfl Tryd.isAgg40 Tryd.sizeOf40 rfl rfl | exact ld_is (ds := [_, _, _, _, _]) Tryd.isAgg40 Tryd.sizeOf40 rfl rfl)) ?_
 refine OD.still (wants_plain rfl) rfl (still_r1 (mk := Op.load 40) rfl ot (by first | exact ld_blks (k := 0) (ds := [_, _, _, _, _]) rfl rfl Tryd.isAgg40 Tryd.sizeOf40 rfl rfl | exact ld_is (ds := [_, _, _, _, _]) Tryd.isAgg40 Tryd.sizeOf40 rfl rfl)) ?_
 refine OD.still (wants_plain rfl) rfl (still_bld (pl := [(0, _)]) (ds := [_, _, _, _, _]) rfl Tryd.zeroValue40 Tryd.runUnderlying40 places40_Exb ⟨rfl, opd_const, trivial⟩ rfl rfl) ?_
 refine OD.bldS (pl := numD 0 [_, _, _]) (zvs := [.int .i64 0, .int .i64 0, .int .i64 0, .string ⟨#[]⟩, .string ⟨#[]⟩, .int .i64 0, .int .i64 0, .int .i64 0, .string ⟨#[]⟩, .string ⟨#[]⟩, .int .i64 0, .int .i64 0, .int .i64 0, .string ⟨#[]⟩, .string ⟨#[]⟩]) (ds := [_, _, _, _, _, _, _, _, _, _, _, _, _, _, _]) (wants_plain rfl) rfl rfl Tryd.zeroValue40 Tryd.runUnderlying25 Tryd.sizeOf40 rfl rfl (by kernel_rfl) ⟨rfl, ot, rfl, ot, rfl, ot, trivial⟩ (by exact rfl) (fill_full (by exact rfl) (by exact rfl) (by exact rfl)) (fun b34 => ?_)
 refine OD.perm (perm_q11 (S1 := [⟨b34, 40, 3 * 5, List.flatMap cO ([idO, litO x, bareOp 7])⟩]) (A := [_, _, _])) ?_
 refine OD.giveL (t := 34) (Sq := [⟨b34, 40, 3 * 5, List.flatMap cO ([idO, litO x, bareOp 7])⟩]) lk (ownL_row (g := cO) (sz := 5) (e := 40) (ls := [idO, litO x, bareOp 7]) (Nat.le_refl _) (show 3 ≤ maxLen by decide)) (fm_len cO_len _) (perm_r11 (A := [_, _, _])) ?_
 refine OD.still (wants_plain rfl) rfl (still_r1 (mk := Op.load 40) rfl ot (by first | exact ld_blks (k := 0) (ds := [_, _, _, _, _]) rfl rfl Tryd.isAgg40 Tryd.sizeOf40 rfl rfl | exact ld_is (ds := [_, _, _, _, _]) Tryd.isAgg40 Tryd.sizeOf40 rfl rfl)) ?_
 refine OD.still (wants_plain rfl) rfl (still_r1 (mk := Op.load 40) rfl ot (by first | exact ld_blks (k := 1) (ds := [_, _, _, _, _]) rfl rfl Tryd.isAgg40 Tryd.sizeOf40 rfl rfl | exact ld_is (ds := [_, _, _, _, _]) Tryd.isAgg40 Tryd.sizeOf40 rfl rfl)) ?_
 refine OD.still (wants_plain rfl) rfl (still_bld (pl := [(0, _)]) (ds := [_, _, _, _, _]) rfl Tryd.zeroValue40 Tryd.runUnderlying40 places40_Exb ⟨rfl, opd_const, trivial⟩ rfl rfl) ?_
 refine OD.bldS (pl := numD 0 [_, _, _]) (zvs := [.int .i64 0, .int .i64 0, .int .i64 0, .string ⟨#[]⟩, .string ⟨#[]⟩, .int .i64 0, .int .i64 0, .int .i64 0, .string ⟨#[]⟩, .string ⟨#[]⟩, .int .i64 0, .int .i64 0, .int .i64 0, .string ⟨#[]⟩, .string ⟨#[]⟩]) (ds := [_, _, _, _, _, _, _, _, _, _, _, _, _, _, _]) (wants_plain rfl) rfl rfl Tryd.zeroValue40 Tryd.runUnderlying25 Tryd.sizeOf40 rfl rfl (by kernel_rfl) ⟨rfl, ot, rfl, ot, rfl, ot, trivial⟩ (by exact rfl) (fill_full (by exact rfl) (by exact rfl) (by exact rfl)) (fun b38 => ?_)
 refine OD.perm (perm_q11 (S1 := [⟨b38, 40, 3 * 5, List.flatMap cO ([litO x, idO, bareOp 7])⟩]) (A := [_, _, _])) ?_
 refine OD.giveL (t := 38) (Sq := [⟨b38, 40, 3 * 5, List.flatMap cO ([litO x, idO, bareOp 7])⟩]) lk (ownL_row (g := cO) (sz := 5) (e := 40) (ls := [litO x, idO, bareOp 7]) (Nat.le_refl _) (show 3 ≤ maxLen by decide)) (fm_len cO_len _) (perm_r11 (A := [_, _, _])) ?_
 refine OD.still (wants_plain rfl) rfl (still_r1 (mk := Op.load 40) rfl ot (by first | exact ld_blks (k := 1) (ds := [_, _, _, _, _]) rfl rfl Tryd.isAgg40 Tryd.sizeOf40 rfl rfl | exact ld_is (ds := [_, _, _, _, _]) Tryd.isAgg40 Tryd.sizeOf40 rfl rfl)) ?_
 refine OD.still (wants_plain rfl) rfl (still_r1 (mk := Op.load 40) rfl ot (by first | exact ld_blks (k := 0) (ds := [_, _, _, _, _]) rfl rfl Tryd.isAgg40 Tryd.sizeOf40 rfl rfl | exact ld_is (ds := [_, _, _, _, _]) Tryd.isAgg40 Tryd.sizeOf40 rfl rfl)) ?_
 refine OD.still (wants_plain rfl) rfl (still_bld (pl := [(0, _)]) (ds := [_, _, _, _, _]) rfl Tryd.zeroValue40 Tryd.runUnderlying40 places40_Exb ⟨rfl, opd_const, trivial⟩ rfl rfl) ?_
 refine OD.still (wants_plain rfl) rfl (still_bld (pl := [(0, _)]) (ds := [_, _, _, _, _]) rfl Tryd.zeroValue40 Tryd.runUnderlying40 places40_Exb ⟨rfl, opd_const, trivial⟩ rfl rfl) ?_
 refine OD.bldS (pl := numD 0 [_, _, _, _]) (zvs := [.int .i64 0, .int .i64 0, .int .i64 0, .string ⟨#[]⟩, .string ⟨#[]⟩, .int .i64 0, .int .i64 0, .int .i64 0, .string ⟨#[]⟩, .string ⟨#[]⟩, .int .i64 0, .int .i64 0, .int .i64 0, .string ⟨#[]⟩, .string ⟨#[]⟩, .int .i64 0, .int .i64 0, .int .i64 0, .string ⟨#[]⟩, .string ⟨#[]⟩]) (ds := [_, _, _, _, _, _, _, _, _, _, _, _, _, _, _, _, _, _, _, _]) (wants_plain rfl) rfl rfl Tryd.zeroValue40 Tryd.runUnderlying25 Tryd.sizeOf40 rfl rfl (by kernel_rfl) ⟨rfl, ot, rfl, ot, rfl, ot, rfl, ot, trivial⟩ (by exact rfl) (fill_full (by exact rfl) (by exact rfl) (by exact rfl)) (fun b43 => ?_)
 refine OD.perm (perm_q11 (S1 := [⟨b43, 40, 4 * 5, List.flatMap cO ([idO, litO x, bareOp 7, bareOp 5])⟩]) (A := [_, _, _])) ?_
 refine OD.giveL (t := 43) (Sq := [⟨b43, 40, 4 * 5, List.flatMap cO ([idO, litO x, bareOp 7, bareOp 5])⟩]) lk (ownL_row (g := cO) (sz := 5) (e := 40) (ls := [idO, litO x, bareOp 7, bareOp 5]) (Nat.le_refl _) (show 4 ≤ maxLen by decide)) (fm_len cO_len _) (perm_r11 (A := [_, _, _])) ?_
 refine OD.still (wants_plain rfl) rfl (still_r1 (mk := Op.load 40) rfl ot (by first | exact ld_blks (k := 0) (ds := [_, _, _, _, _]) rfl rfl Tryd.isAgg40 Tryd.sizeOf40 rfl rfl | exact ld_is (ds := [_, _, _, _, _]) Tryd.isAgg40 Tryd.sizeOf40 rfl rfl)) ?_
 refine OD.still (wants_plain rfl) rfl (still_r1 (mk := Op.load 40) rfl ot (by first | exact ld_blks (k := 1) (ds := [_, _, _, _, _]) rfl rfl Tryd.isAgg40 Tryd.sizeOf40 rfl rfl | exact ld_is (ds := [_, _, _, _, _]) Tryd.isAgg40 Tryd.sizeOf40 rfl rfl)) ?_
 refine OD.still (wants_plain rfl) rfl (still_bld (pl := [(0, _)]) (ds := [_, _, _, _, _]) rfl Tryd.zeroValue40 Tryd.runUnderlying40 places40_Exb ⟨rfl, opd_const, trivial⟩ rfl rfl) ?_
 refine OD.still (wants_plain rfl) rfl (still_bld (pl := [(0, _)]) (ds := [_, _, _, _, _]) rfl Tryd.zeroValue40 Tryd.runUnderlying40 places40_Exb ⟨rfl, opd_const, trivial⟩ rfl rfl) ?_
 refine OD.bldS (pl := numD 0 [_, _, _, _]) (zvs := [.int .i64 0, .int .i64 0, .int .i64 0, .string ⟨#[]⟩, .string ⟨#[]⟩, .int .i64 0, .int .i64 0, .int .i64 0, .string ⟨#[]⟩, .string ⟨#[]⟩, .int .i64 0, .int .i64 0, .int .i64 0, .string ⟨#[]⟩, .string ⟨#[]⟩, .int .i64 0, .int .i64 0, .int .i64 0, .string ⟨#[]⟩, .string ⟨#[]⟩]) (ds := [_, _, _, _, _, _, _, _, _, _, _, _, _, _, _, _, _, _, _, _]) (wants_plain rfl) rfl rfl Tryd.zeroValue40 Tryd.runUnderlying25 Tryd.sizeOf40 rfl rfl (by kernel_rfl) ⟨rfl, ot, rfl, ot, rfl, ot, rfl, ot, trivial⟩ (by exact rfl) (fill_full (by exact rfl) (by exact rfl) (by exact rfl)) (fun b48 => ?_)
 refine OD.perm (perm_q11 (S1 := [⟨b48, 40, 4 * 5, List.flatMap cO ([litO x, idO, bareOp 7, bareOp 5])⟩]) (A := [_, _, _])) ?_
 refine OD.giveL (t := 48) (Sq := [⟨b48, 40, 4 * 5, List.flatMap cO ([litO x, idO, bareOp 7, bareOp 5])⟩]) lk (ownL_row (g := cO) (sz := 5) (e := 40) (ls := [litO x, idO, bareOp 7, bareOp 5]) (Nat.le_refl _) (show 4 ≤ maxLen by decide)) (fm_len cO_len _) (perm_r11 (A := [_, _, _])) ?_
 refine OD.still (wants_plain rfl) rfl (still_r1 (mk := Op.load 40) rfl ot (by first | exact ld_blks (k := 1) (ds := [_, _, _, _, _]) rfl rfl Tryd.isAgg40 Tryd.sizeOf40 rfl rfl | exact ld_is (ds := [_, _, _, _, _]) Tryd.isAgg40 Tryd.sizeOf40 rfl rfl)) ?_
 refine OD.still (wants_plain rfl) rfl (still_r1 (mk := Op.load 40) rfl ot (by first | exact ld_blks (k := 0) (ds := [_, _, _, _, _]) rfl rfl Tryd.isAgg40 Tryd.sizeOf40 rfl rfl | exact ld_is (ds := [_, _, _, _, _]) Tryd.isAgg40 Tryd.sizeOf40 rfl rfl)) ?_
 refine OD.still (wants_plain rfl) rfl (still_bld (pl := [(0, _)]) (ds := [_, _, _, _, _]) rfl Tryd.zeroValue40 Tryd.runUnderlying40 places40_Exb ⟨rfl, opd_const, trivial⟩ rfl rfl) ?_
 refine OD.still (wants_plain rfl) rfl (still_bld (pl := [(0, _)]) (ds := [_, _, _, _, _]) rfl Tryd.zeroValue40 Tryd.runUnderlying40 places40_Exb ⟨rfl, opd_const, trivial⟩ rfl rfl) ?_
 refine OD.bldS (pl := numD 0 [_, _, _, _]) (zvs := [.int .i64 0, .int .i64 0, .int .i64 0, .string ⟨#[]⟩, .string ⟨#[]⟩, .int .i64 0, .int .i64 0, .int .i64 0, .string ⟨#[]⟩, .string ⟨#[]⟩, .int .i64 0, .int .i64 0, .int .i64 0, .string ⟨#[]⟩, .string ⟨#[]⟩, .int .i64 0, .int .i64 0, .int .i64 0, .string ⟨#[]⟩, .string ⟨#[]⟩]) (ds := [_, _, _, _, _, _, _, _, _, _, _, _, _, _, _, _, _, _, _, _]) (wants_plain rfl) rfl rfl Tryd.zeroValue40 Tryd.runUnderlying25 Tryd.sizeOf40 rfl rfl (by kernel_rfl) ⟨rfl, ot, rfl, ot, rfl, ot, rfl, ot, trivial⟩ (by exact rfl) (fill_full (by exact rfl) (by exact rfl) (by exact rfl)) (fun b53 => ?_)
 refine OD.perm (perm_q11 (S1 := [⟨b53, 40, 4 * 5, List.flatMap cO ([idO, litO x, bareOp 6, bareOp 5])⟩]) (A := [_, _, _])) ?_
 refine OD.giveL (t := 53) (Sq := [⟨b53, 40, 4 * 5, List.flatMap cO ([idO, litO x, bareOp 6, bareOp 5])⟩]) lk (ownL_row (g := cO) (sz := 5) (e := 40) (ls := [idO, litO x, bareOp 6, bareOp 5]) (Nat.le_refl _) (show 4 ≤ maxLen by decide)) (fm_len cO_len _) (perm_r11 (A := [_, _, _])) ?_
 refine OD.bldS (pl := numD 0 [_, _, _, _, _, _, _]) (zvs := [.slice none 0 0, .slice none 0 0, .slice none 0 0, .slice none 0 0, .slice none 0 0, .slice none 0 0, .slice none 0 0]) (ds := [_, _, _, _, _, _, _]) (wants_plain rfl) rfl rfl Tryd.zeroValue25 Tryd.runUnderlying46 Tryd.sizeOf25 rfl rfl (by kernel_rfl) ⟨rfl, ot, rfl, ot, rfl, ot, rfl, ot, rfl, ot, rfl, ot, rfl, ot, trivial⟩ (by exact rfl) (fill_full (by exact rfl) (by exact rfl) (by exact rfl)) (fun b54 => ?_)
 refine OD.still (wants_plain rfl) rfl (still_as rfl ot) ?_
 refine OD.wk (Wk.as_ (n := 134) (l' := [(1, _), (5, _), (8, _)]) (S' := [⟨b54, 25, 7, [_, _, _, _, _, _, _]⟩, ⟨b7, 40, 5, [_, _, _, _, _]⟩, ⟨b6, 40, 5, [_, _, _, _, _]⟩, ⟨b5, 33, 3, [_, _, _]⟩]) rfl rfl ⟨lk, lk, lk, trivial⟩) ?_
 refine OD.nil ?_
 refine CD.seq ?_
 refine CD.region ?_
 refine OD.still (wants_plain rfl) rfl (still_mv rfl ot) ?_
 refine OD.callP (wants_plain rfl) rfl rfl rfl Tryd.call15 (hpk) ⟨ot, opd_const, trivial⟩ ?_
 refine OD.still (wants_plain rfl) rfl (still_as rfl ot) ?_
 refine OD.wk (Wk.as_ (n := 134) (l' := [(5, _), (8, _), (9, _)]) (S' := [⟨b54, 25, 7, [_, _, _, _, _, _, _]⟩, ⟨b7, 40, 5, [_, _, _, _, _]⟩, ⟨b6, 40, 5, [_, _, _, _, _]⟩, ⟨b5, 33, 3, [_, _, _]⟩]) rfl rfl ⟨lk, lk, lk, trivial⟩) ?_
 refine OD.nil ?_
 refine CD.seq ?_
 refine CD.draw (bks _) (by kernel_rfl) (fun _ h => h) ?_
 refine AD0.take (i := 1) rfl (by kernel_rfl) (by kernel_rfl) (by kernel_rfl) (by repeat (first | exact NP.body | apply NP.then | apply NP.cut | apply NP.inBlock | apply NP.round)) (wants_plain rfl) rfl (still_mv rfl ot) (by exact trivial) ?_
 refine AD0.take (i := 2) rfl (by kernel_rfl) (by kernel_rfl) (by kernel_rfl) (by repeat (first | exact NP.body | apply NP.then | apply NP.cut | apply NP.inBlock | apply NP.round)) (wants_plain rfl) rfl (still_mv rfl ot) (by exact trivial) ?_
 refine AD0.take (i := 3) rfl (by kernel_rfl) (by kernel_rfl) (by kernel_rfl) (by repeat (first | exact NP.body | apply NP.then | apply NP.cut | apply NP.inBlock | apply NP.round)) (wants_plain rfl) rfl (still_r2 (mk := Op.indexAddr 46) rfl ot ot (by first | exact ix_list Tryd.runUnderlying46 Tryd.sizeOf25 (j := 6) rfl (by decide) | exact ix_row Tryd.runUnderlying46 Tryd.sizeOf25 (j := 6) rfl (by decide))) (by exact trivial) ?_
 refine AD0.take (i := 4) rfl (by kernel_rfl) (by kernel_rfl) (by kernel_rfl) (by repeat (first | exact NP.body | apply NP.then | apply NP.cut | apply NP.inBlock | apply NP.round)) (wants_plain rfl) rfl (still_r1 (mk := Op.load 25) rfl ot (by first | exact ld_blk (k := 0) rfl rfl Tryd.isAgg25 rfl | exact ld_blk (k := 1) rfl rfl Tryd.isAgg25 rfl | exact ld_blk (k := 2) rfl rfl Tryd.isAgg25 rfl | exact ld_blk (k := 3) rfl rfl Tryd.isAgg25 rfl | exact ld_i Tryd.isAgg25 rfl)) (by first | exact trivial | exact safe_blk (k0 := 0) rfl rfl | exact safe_blk (k0 := 1) rfl rfl | exact safe_blk (k0 := 2) rfl rfl | exact safe_blk (k0 := 3) rfl rfl) ?_
 refine AD0.later rfl ?_
 refine AD.one (i := 0) (by kernel_rfl) ?_
 refine AStep.callP rfl (wants_plain rfl) rfl rfl rfl Tryd.call10 (colsOf_vp) trivial ?_
 refine AD.one (i := 5) (by kernel_rfl) ?_
 refine AStep.callP rfl (wants_plain rfl) rfl rfl rfl Tryd.call16 (hbv) ⟨ot, ot, trivial⟩ ?_
 refine AD.take (i := 6) rfl (by kernel_rfl) (by kernel_rfl) (by kernel_rfl) (by repeat (first | exact NP.body | apply NP.then | apply NP.cut | apply NP.inBlock | apply NP.round)) (wants_plain rfl) rfl (still_mv rfl ot) (by exact trivial) (by intro h; cases h) ?_
 refine AD.take (i := 7) rfl (by kernel_rfl) (by kernel_rfl) (by kernel_rfl) (by repeat (first | exact NP.body | apply NP.then | apply NP.cut | apply NP.inBlock | apply NP.round)) (wants_plain rfl) rfl (still_extract rfl ot rfl) (by exact trivial) (by intro h; cases h) ?_
 refine AD.take (i := 8) rfl (by kernel_rfl) (by kernel_rfl) (by kernel_rfl) (by repeat (first | exact NP.body | apply NP.then | apply NP.cut | apply NP.inBlock | apply NP.round)) (wants_plain rfl) rfl (still_extract rfl ot rfl) (by exact trivial) (by intro h; cases h) ?_
 refine AD.take (i := 9) rfl (by kernel_rfl) (by kernel_rfl) (by kernel_rfl) (by repeat (first | exact NP.body | apply NP.then | apply NP.cut | apply NP.inBlock | apply NP.round)) (wants_plain rfl) rfl (still_extract rfl ot rfl) (by exact trivial) (by intro h; cases h) ?_
 refine AD.take (i := 10) rfl (by kernel_rfl) (by kernel_rfl) (by kernel_rfl) (by repeat (first | exact NP.body | apply NP.then | apply NP.cut | apply NP.inBlock | apply NP.round)) (wants_plain rfl) rfl (still_as rfl ot) (by exact trivial) (by intro h; cases h) ?_
 refine AD.take (i := 11) rfl (by kernel_rfl) (by kernel_rfl) (by kernel_rfl) (by repeat (first | exact NP.body | apply NP.then | apply NP.cut | apply NP.inBlock | apply NP.round)) (wants_plain rfl) rfl (still_as rfl ot) (by exact trivial) (by intro h; cases h) ?_
 refine AD.take (i := 12) rfl (by kernel_rfl) (by kernel_rfl) (by kernel_rfl) (by repeat (first | exact NP.body | apply NP.then | apply NP.cut | apply NP.inBlock | apply NP.round)) (wants_plain rfl) rfl (still_as rfl ot) (by exact trivial) (by intro h; cases h) ?_
 refine AD.wk (y := ⟨134, [(5, _), (9, _), (10, _), (11, _), (12, _)], [⟨b54, 25, 7, [_, _, _, _, _, _, _]⟩, ⟨b7, 40, 5, [_, _, _, _, _]⟩, ⟨b6, 40, 5, [_, _, _, _, _]⟩, ⟨b5, 33, 3, [_, _, _]⟩]⟩) (Wk.as_ rfl rfl ⟨lk, lk, lk, lk, lk, trivial⟩) rfl ?_
 refine AD.done (by kernel_rfl) ?_
 refine CD.seq ?_
 refine CD.region ?_
 refine OD.still (wants_plain rfl) rfl (still_r1 (mk := Op.load 33) rfl ot (by first | exact ld_blks (k := 3) (ds := [_, _, _]) rfl rfl Tryd.isAgg33 Tryd.sizeOf33 rfl rfl | exact ld_is (ds := [_, _, _]) Tryd.isAgg33 Tryd.sizeOf33 rfl rfl)) ?_
 refine OD.bldS (pl := numD 0 [_]) (zvs := [.int .i64 0, .int .i64 0, .string ⟨#[]⟩]) (ds := [_, _, _]) (wants_plain rfl) rfl rfl Tryd.zeroValue33 Tryd.runUnderlying36 Tryd.sizeOf33 rfl rfl (by kernel_rfl) ⟨rfl, ot, trivial⟩ (by exact rfl) (fill_full (by exact rfl) (by exact rfl) (by exact rfl)) (fun b69 => ?_)
 refine OD.perm (perm_q11 (S1 := [⟨b69, 33, 1 * 3, List.flatMap cV ([numV x])⟩]) (A := [_, _, _, _])) ?_
 refine OD.giveL (t := 69) (Sq := [⟨b69, 33, 1 * 3, List.flatMap cV ([numV x])⟩]) lk (ownL_row (g := cV) (sz := 3) (e := 33) (ls := [numV x]) (Nat.le_refl _) (show 1 ≤ maxLen by decide)) (fm_len cV_len _) (perm_r11 (A := [_, _, _, _])) ?_
 refine OD.callP (wants_plain rfl) rfl rfl rfl Tryd.call17 (hev) ⟨ot, trivial⟩ ?_
 refine OD.still (wants_plain rfl) rfl (still_mv rfl ot) ?_
 refine OD.still (wants_plain rfl) rfl (still_extract rfl ot rfl) ?_
 refine OD.still (wants_plain rfl) rfl (still_extract rfl ot rfl) ?_
 refine OD.still (wants_plain rfl) rfl (still_as rfl ot) ?_
 refine OD.still (wants_plain rfl) rfl (still_as rfl ot) ?_
 refine OD.wk (Wk.as_ (n := 134) (l' := [(9, _), (10, _), (11, _), (12, _), (13, _), (14, _)]) (S' := [⟨b54, 25, 7, [_, _, _, _, _, _, _]⟩, ⟨b7, 40, 5, [_, _, _, _, _]⟩, ⟨b6, 40, 5, [_, _, _, _, _]⟩, ⟨b5, 33, 3, [_, _, _]⟩]) rfl rfl ⟨lk, lk, lk, lk, lk, lk, trivial⟩) ?_
 refine OD.nil ?_
 refine CD.seq ?_
 refine CD.region ?_
 refine OD.still (wants_plain rfl) rfl (still_mv rfl ot) ?_
 refine OD.still (wants_plain rfl) rfl (still_bin rfl ot opd_const bin_lss) ?_
 refine OD.still (wants_plain rfl) rfl (still_mv rfl ot) ?_
 refine OD.split (t := 75) lk (fun hg75 => ?_) (fun hg75 => ?_)
 ·exact absurd hg75 (by decide)
 ·have hg75' := hg75; (try simp only [V.cnd, ne_eq] at hg75')
  refine OD.still (wants_T rfl rfl rfl lk (by first | rfl | assumption)) rfl (still_mv rfl ot) ?_
  refine OD.still (wants_T rfl rfl rfl lk (by first | rfl | assumption)) rfl (still_bin rfl ot opd_const bin_eql) ?_
  refine OD.still (wants_plain rfl) rfl (still_pickF rfl ot (by first | rfl | assumption) ot) ?_
  refine OD.still (wants_plain rfl) rfl (still_mv rfl ot) ?_
  refine OD.split (t := 79) lk (fun hg79 => ?_) (fun hg79 => ?_)
  ·exact absurd hg79 (by decide)
  ·have hg79' := hg79; (try simp only [V.cnd, ne_eq] at hg79')
   refine OD.still (wants_T rfl rfl rfl lk (by first | rfl | assumption)) rfl (still_mv rfl ot) ?_
   refine OD.still (wants_T rfl rfl rfl lk (by first | rfl | assumption)) rfl (still_bin rfl ot opd_const bin_eql) ?_
   refine OD.still (wants_plain rfl) rfl (still_pickF rfl ot (by first | rfl | assumption) ot) ?_
   refine OD.still (wants_plain rfl) rfl (still_as rfl ot) ?_
   refine OD.wk (Wk.as_ (n := 134) (l' := [(9, _), (10, _), (11, _), (12, _), (13, _), (14, _), (15, _)]) (S' := [⟨b54, 25, 7, [_, _, _, _, _, _, _]⟩, ⟨b7, 40, 5, [_, _, _, _, _]⟩, ⟨b6, 40, 5, [_, _, _, _, _]⟩, ⟨b5, 33, 3, [_, _, _]⟩]) rfl rfl ⟨lk, lk, lk, lk, lk, lk, lk, trivial⟩) ?_
   refine OD.nil ?_
   refine CD.seq ?_
   refine CD.region ?_
   refine OD.still (wants_plain rfl) rfl (still_mv rfl ot) ?_
   refine OD.still (wants_plain rfl) rfl (still_bin rfl ot opd_const bin_lss) ?_
   refine OD.still (wants_plain rfl) rfl (still_mv rfl ot) ?_
   refine OD.split (t := 85) lk (fun hg85 => ?_) (fun hg85 => ?_)
   ·exact absurd hg85 (by decide)
   ·have hg85' := hg85; (try simp only [V.cnd, ne_eq] at hg85')
    refine OD.still (wants_T rfl rfl rfl lk (by first | rfl | assumption)) rfl (still_mv rfl ot) ?_
    refine OD.still (wants_T rfl rfl rfl lk (by first | rfl | assumption)) rfl (still_bin rfl ot opd_const bin_eql) ?_
    refine OD.still (wants_plain rfl) rfl (still_pickF rfl ot (by first | rfl | assumption) ot) ?_
    refine OD.still (wants_plain rfl) rfl (still_as rfl ot) ?_
    refine OD.wk (Wk.as_ (n := 134) (l' := [(10, _), (11, _), (12, _), (13, _), (14, _), (15, _), (16, _)]) (S' := [⟨b54, 25, 7, [_, _, _, _, _, _, _]⟩, ⟨b7, 40, 5, [_, _, _, _, _]⟩, ⟨b6, 40, 5, [_, _, _, _, _]⟩, ⟨b5, 33, 3, [_, _, _]⟩]) rfl rfl ⟨lk, lk, lk, lk, lk, lk, lk, trivial⟩) ?_
    refine OD.nil ?_
    refine CD.seq ?_
    refine CD.seq ?_
    refine CD.region ?_
    refine OD.still (wants_plain rfl) rfl (still_mv rfl ot) ?_
    refine OD.still (wants_plain rfl) rfl (still_bin rfl ot opd_const bin_neq) ?_
    refine OD.still (wants_plain rfl) rfl (still_mv rfl ot) ?_
    refine OD.split (t := 91) lk (fun hg91 => ?_) (fun hg91 => ?_)
    ·exact absurd hg91 (by simp)
    ·have hg91' := hg91; (try simp only [V.cnd, ne_eq] at hg91')
     refine OD.still (wants_T rfl rfl rfl lk (by first | rfl | assumption)) rfl (still_mv rfl ot) ?_
     refine OD.still (wants_T rfl rfl rfl lk (by first | rfl | assumption)) rfl (still_bin rfl ot opd_const bin_neq) ?_
     refine OD.still (wants_plain rfl) rfl (still_pickF rfl ot (by first | rfl | assumption) ot) ?_
     refine OD.still (wants_plain rfl) rfl (still_mv rfl ot) ?_
     refine OD.split (t := 95) lk (fun hg95 => ?_) (fun hg95 => ?_)
     ·exact absurd hg95 (by simp)
     ·have hg95' := hg95; (try simp only [V.cnd, ne_eq] at hg95')
      refine OD.still (wants_T rfl rfl rfl lk (by first | rfl | assumption)) rfl (still_mv rfl ot) ?_
      refine OD.still (wants_T rfl rfl rfl lk (by first | rfl | assumption)) rfl (still_r1 (mk := fun y => .call { callee := .builtin .len, args := #[y], argTypes := #[47] }) rfl ot (by first | exact len_list rfl Tryd.runUnderlying47 | exact len_row rfl Tryd.runUnderlying47)) ?_
      refine OD.still (wants_T rfl rfl rfl lk (by first | rfl | assumption)) rfl (still_bin rfl ot opd_const bin_eql) ?_
      refine OD.still (wants_plain rfl) rfl (still_pickF rfl ot (by first | rfl | assumption) ot) ?_
      refine OD.wk (Wk.as_ (n := 134) (l' := [(10, _), (11, _), (13, _), (15, _), (16, _), (99, _)]) (S' := [⟨b54, 25, 7, [_, _, _, _, _, _, _]⟩, ⟨b7, 40, 5, [_, _, _, _, _]⟩, ⟨b6, 40, 5, [_, _, _, _, _]⟩, ⟨b5, 33, 3, [_, _, _]⟩]) rfl rfl ⟨lk, lk, lk, lk, lk, lk, trivial⟩) ?_
      refine OD.nil ?_
      refine CD.cond ot (fun hc0 => ?_) (fun hc0 => ?_)
      ·exact absurd hc0 (by rw [hkl]; decide)
      ·have hc0' := hc0
       (try simp only [V.cnd, ne_eq] at hc0')
       refine CD.skip ?_
       refine CD.seq ?_
       refine CD.seq ?_
       refine CD.region ?_
       refine OD.still (wants_plain rfl) rfl (still_mv rfl ot) ?_
       refine OD.still (wants_plain rfl) rfl (still_mv rfl ot) ?_
       refine OD.split (t := 101) lk (fun hg101 => ?_) (fun hg101 => ?_)
       ·exact absurd hg101 (by decide)
       ·have hg101' := hg101; (try simp only [V.cnd, ne_eq] at hg101')
        refine OD.skip (wants_F rfl rfl rfl lk (by first | rfl | assumption)) rfl ?_
        refine OD.skip (wants_F rfl rfl rfl lk (by first | rfl | assumption)) rfl ?_
        refine OD.skip (wants_F rfl rfl rfl lk (by first | rfl | assumption)) rfl ?_
        refine OD.skip (wants_F rfl rfl rfl lk (by first | rfl | assumption)) rfl ?_
        refine OD.skip (wants_F rfl rfl rfl lk (by first | rfl | assumption)) rfl ?_
        refine OD.still (wants_plain rfl) rfl (still_pickF rfl ot (by first | rfl | assumption) opd_const) ?_
        refine OD.still (wants_plain rfl) rfl (still_mv rfl ot) ?_
        refine OD.still (wants_T rfl rfl rfl lk (by first | rfl | assumption)) rfl (still_mv rfl ot) ?_
        refine OD.still (wants_T rfl rfl rfl lk (by first | rfl | assumption)) rfl (still_un rfl ot un_not) ?_
        refine OD.still (wants_T rfl rfl rfl lk (by first | rfl | assumption)) rfl (still_mv rfl ot) ?_
        refine OD.split (t := 111) lk (fun hg111 => ?_) (fun hg111 => ?_)
        ·have hg111' := hg111; (try simp only [V.cnd, ne_eq] at hg111')
         refine OD.still (wants_T rfl rfl rfl lk (by first | rfl | assumption)) rfl (still_mv rfl ot) ?_
         refine OD.still (wants_T rfl rfl rfl lk (by first | rfl | assumption)) rfl (still_r1 (mk := fun y => .call { callee := .builtin .len, args := #[y], argTypes := #[47] }) rfl ot (by first | exact len_list rfl Tryd.runUnderlying47 | exact len_row rfl Tryd.runUnderlying47)) ?_
         refine OD.still (wants_T rfl rfl rfl lk (by first | rfl | assumption)) rfl (still_bin rfl ot opd_const bin_gtr) ?_
         refine OD.still (wants_T rfl rfl rfl lk (by first | rfl | assumption)) rfl (still_pickT rfl ot (by first | rfl | assumption) ot) ?_
         refine OD.still (wants_plain rfl) rfl (still_pickF rfl ot (by first | rfl | assumption) ot) ?_
         refine OD.wk (Wk.as_ (n := 134) (l' := [(11, _), (13, _), (16, _), (116, _)]) (S' := [⟨b54, 25, 7, [_, _, _, _, _, _, _]⟩, ⟨b7, 40, 5, [_, _, _, _, _]⟩, ⟨b6, 40, 5, [_, _, _, _, _]⟩, ⟨b5, 33, 3, [_, _, _]⟩]) rfl rfl ⟨lk, lk, lk, lk, trivial⟩) ?_
         refine OD.nil ?_
         refine CD.cond ot (fun hc1 => ?_) (fun hc1 => ?_)
         ·exact absurd hc1 (by simp)
         ·have hc1' := hc1
          (try simp only [V.cnd, ne_eq] at hc1')
          refine CD.skip ?_
          refine CD.seq ?_
          refine CD.region ?_
          refine OD.still (wants_plain rfl) rfl (still_mv rfl ot) ?_
          refine OD.still (wants_plain rfl) rfl (still_mv rfl ot) ?_
          refine OD.split (t := 118) lk (fun hg118 => ?_) (fun hg118 => ?_)
          ·exact absurd hg118 (by decide)
          ·have hg118' := hg118; (try simp only [V.cnd, ne_eq] at hg118')
           refine OD.skip (wants_F rfl rfl rfl lk (by first | rfl | assumption)) rfl ?_
           refine OD.skip (wants_F rfl rfl rfl lk (by first | rfl | assumption)) rfl ?_
           refine OD.skip (wants_F rfl rfl rfl lk (by first | rfl | assumption)) rfl ?_
           refine OD.skip (wants_F rfl rfl rfl lk (by first | rfl | assumption)) rfl ?_
           refine OD.skip (wants_F rfl rfl rfl lk (by first | rfl | assumption)) rfl ?_
           refine OD.still (wants_plain rfl) rfl (still_pickF rfl ot (by first | rfl | assumption) opd_const) ?_
           refine OD.still (wants_plain rfl) rfl (still_mv rfl ot) ?_
           refine OD.still (wants_T rfl rfl rfl lk (by first | rfl | assumption)) rfl (still_mv rfl ot) ?_
           refine OD.still (wants_T rfl rfl rfl lk (by first | rfl | assumption)) rfl (still_un rfl ot un_not) ?_
           refine OD.still (wants_T rfl rfl rfl lk (by first | rfl | assumption)) rfl (still_mv rfl ot) ?_
           refine OD.split (t := 128) lk (fun hg128 => ?_) (fun hg128 => ?_)
           ·have hg128' := hg128; (try simp only [V.cnd, ne_eq] at hg128')
            refine OD.still (wants_T rfl rfl rfl lk (by first | rfl | assumption)) rfl (still_mv rfl ot) ?_
            refine OD.still (wants_T rfl rfl rfl lk (by first | rfl | assumption)) rfl (still_r1 (mk := fun y => .call { callee := .builtin .len, args := #[y], argTypes := #[47] }) rfl ot (by first | exact len_list rfl Tryd.runUnderlying47 | exact len_row rfl Tryd.runUnderlying47)) ?_
            refine OD.still (wants_T rfl rfl rfl lk (by first | rfl | assumption)) rfl (still_bin rfl ot opd_const bin_eql) ?_
            refine OD.still (wants_T rfl rfl rfl lk (by first | rfl | assumption)) rfl (still_pickT rfl ot (by first | rfl | assumption) ot) ?_
            refine OD.still (wants_plain rfl) rfl (still_pickF rfl ot (by first | rfl | assumption) ot) ?_
            refine OD.still (wants_plain rfl) rfl (still_as rfl ot) ?_
            refine OD.wk (Wk.as_ (n := 134) (l' := [(4, _)]) (S' := [⟨b54, 25, 7, [_, _, _, _, _, _, _]⟩, ⟨b7, 40, 5, [_, _, _, _, _]⟩, ⟨b6, 40, 5, [_, _, _, _, _]⟩, ⟨b5, 33, 3, [_, _, _]⟩]) rfl rfl ⟨lk, trivial⟩) ?_
            refine OD.nil ?_
            refine CD.ret ?_
            refine ⟨.inr rfl, _, [], List.nil_sublist _, ret_one Tryd.results5 (res_tmp (Nat.le_of_ble_eq_true rfl) lk), ?_⟩
            first | exact ⟨rfl, rfl⟩ | (refine ⟨vb ?_, rfl⟩; simp)
           ·exact absurd hg128 (by decide)
        ·exact absurd hg111 (by decide)

theorem oneb_vp {m : Int} (hm : (3, marksC) ∈ G) (hw : (0, wordsC) ∈ G) (ht : (2, typesC) ∈ G) (hG : (1, [Value.int .i64 m]) ∈ G) (n : Int) (n1 : -9223372036854775808 ≤ n) (n2 : n ≤ 9223372036854775807) (form : Int) (form1 : -9223372036854775808 ≤ form) (form2 : form ≤ 9223372036854775807) : VP Tryd.prog G 5 [.v (.int .i64 n), .v (.int .i64 form)] (.v (.bool true)) := by
 have hb := pickedF_bd form (show (1 : Int) ≤ 7 by decide)
 have h4 : pickedF form 7 = 0 ∨ pickedF form 7 = 1 ∨ pickedF form 7 = 2 ∨ pickedF form 7 = 3 ∨ pickedF form 7 = 4 ∨ pickedF form 7 = 5 ∨ pickedF form 7 = 6 := by omega
 rcases h4 with hj | hj | hj | hj | hj | hj | hj
 ·exact one0_vp hm hw ht hG n n1 n2 form form1 form2 hj
 ·exact one1_vp hm hw ht hG n n1 n2 form form1 form2 hj
 ·exact one2_vp hm hw ht hG n n1 n2 form form1 form2 hj
 ·exact one3_vp hm hw ht hG n n1 n2 form form1 form2 hj
 ·exact one4_vp hm hw ht hG n n1 n2 form form1 form2 hj
 ·exact one5_vp hm hw ht hG n n1 n2 form form1 form2 hj
 ·exact one6_vp hm hw ht hG n n1 n2 form form1 form2 hj

theorem walkBoundsOne (n : Int) (wn : (Lit.int .i64 n).wf = true) (form : Int) (wform : (Lit.int .i64 form).wf = true) (w : World) (h1 : MarksTab w) (h2 : WordsTab w) (h3 : TypesTab w) {m : Int} (hm : Tab.TabAt w 1 [Value.int .i64 m]) : Calls Tryd.prog 5 #[.int .i64 n, .int .i64 form] w fun e w' => e = .returned (.bool true) ∧ Below w.heap.size w w' :=
 (oneb_vp (G := TGM m) tm1 tm2 tm3 tm4 n (wf_bd wn).1 (wf_bd wn).2 form (wf_bd wform).1 (wf_bd wform).2).runL (tgmx h1 h2 h3 hm) (vs := [_, _]) (RepL.vs w _ [_, _])

end Go.Proofs.YtfooincnmobemaaDoor.Ex
