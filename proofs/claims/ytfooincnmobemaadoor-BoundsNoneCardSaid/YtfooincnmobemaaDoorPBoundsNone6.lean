/-
  What the proof of BoundsNone leans on, part 6 of 6: walks of the program's functions at the level of values, and plain facts of what they compute.
-/
import Derived.Test.YtfooincnmobemaaDoorPBoundsNone5
namespace Go.Proofs.YtfooincnmobemaaDoor.Ex
open Go.RowKit V Pk Vl Go.Proofs.YtfooincnmobemaaDoor.Nm Go.Proofs.YtfooincnmobemaaDoor.Pc Go.Proofs.YtfooincnmobemaaDoor.Cd
set_option linter.unusedVariables false
set_option linter.unusedSimpArgs false

variable {G : List (Nat × List Value)}
theorem places40_Exc : ∀ w, ((#[{ name := "Kind", type := 3, offset := 0, embedded := false, tag := "", pkgPath := "", byteOffset := 0 }, { name := "Value", type := 33, offset := 1, embedded := false, tag := "", pkgPath := "", byteOffset := 8 }, { name := "Name", type := 9, offset := 4, embedded := false, tag := "", pkgPath := "", byteOffset := 40 }] : Array Field).mapM fun f => do pure (f.offset, ← sizeOf f.type) : Sem (Array (Nat × Nat))).run Tryd.prog w = .ok #[(0, 1), (1, 3), (4, 1)] w := fun w => by simp [Tryd.sizeOf3, Tryd.sizeOf33, Tryd.sizeOf9]

set_option maxHeartbeats 4000000 in
set_option maxRecDepth 100000 in
theorem none0_vp {m : Int} (hm : (3, marksC) ∈ G) (hw : (0, wordsC) ∈ G) (ht : (2, typesC) ∈ G) (hG : (1, [Value.int .i64 m]) ∈ G) (n : Int) (n1 : -9223372036854775808 ≤ n) (n2 : n ≤ 9223372036854775807) (which : Int) (which1 : -9223372036854775808 ≤ which) (which2 : which ≤ 9223372036854775807) (hk : pickedF which 7 = 0) : VP Tryd.prog G 7 [.v (.int .i64 n), .v (.int .i64 which)] (.v (.bool true)) := by
 refine VC.body Tryd.func7 rfl Tryd.ntmps7 (Nat.le_of_ble_eq_true rfl) fun X0 w0 S00 => ?_
 have hxb := pickedF_bd n (show (1 : Int) ≤ 100 by decide)
 have hbv := Bounds_at hm hw ht hG [colN, litO (pickedF n 100), bareOp 6] (fine_cons fine_nc (fine_cons (fine_lit (by omega) (by omega)) (fine_cons (fine_bare 6) fine_nil)))
 rw [none0 hxb.1] at hbv
 unfold bdD bytesL at hbv
 have hbw := Bounds_at hm hw ht hG [idO, litO (pickedF n 100), bareOp 6] (fine_cons fine_id (fine_cons (fine_lit (by omega) (by omega)) (fine_cons (fine_bare 6) fine_nil)))
 rw [one0 hxb.1] at hbw
 unfold bdD bytesL at hbw
 have hkl := key_len (pickedF n 100)
 have hpn := (picked_vp G n 100 n1 n2 (by decide))
 have hnv := number_vp (G := G) (pickedF n 100)
 unfold cV at hnv
 have hpk := (picked_vp G which 7 which1 which2 (by decide))
 rw [hk] at hpk
 generalize (pickedF n 100) = x at *
 refine CD.seq ?_
 refine CD.region ?_
 refine OD.still (wants_plain rfl) rfl (still_as rfl opd_const) ?_
 refine OD.wk (Wk.as_ (n := 102) (l' := [(0, _), (1, _)]) (S' := []) rfl rfl ⟨lk, lk, trivial⟩) ?_
 refine OD.nil ?_
 refine CD.seq ?_
 refine CD.region ?_
 refine OD.still (wants_plain rfl) rfl (still_mv rfl ot) ?_
 refine OD.callP (wants_plain rfl) rfl rfl rfl Tryd.call15 (hpn) ⟨ot, opd_const, trivial⟩ ?_
 refine OD.callP (wants_plain rfl) rfl rfl rfl Tryd.call19 (hnv) ⟨ot, trivial⟩ ?_
 refine OD.still (wants_plain rfl) rfl (still_bld (pl := [(0, _), (1, _)]) (ds := [_, _, _, _, _]) rfl Tryd.zeroValue40 Tryd.runUnderlying40 places40_Exc ⟨rfl, opd_const, rfl, ot, trivial⟩ rfl rfl) ?_
 refine OD.alloc (ds := [_, _, _, _, _]) (wants_plain rfl) rfl rfl Tryd.zeroValue40 rfl (fun b5 => ?_)
 refine OD.store (k := 0) (cs' := [_, _, _, _, _]) (wants_plain rfl) rfl rfl ot rfl rfl ot rfl rfl Tryd.sizeOf40 rfl rfl rfl ?_
 refine OD.wk (Wk.as_ (n := 102) (l' := [(1, _), (5, _)]) (S' := [⟨b5, 40, 5, [_, _, _, _, _]⟩]) rfl rfl ⟨lk, lk, trivial⟩) ?_
 refine OD.nil ?_
 refine CD.seq ?_
 refine CD.region ?_
 refine OD.still (wants_plain rfl) rfl (still_bld (pl := [(0, _), (2, _)]) (ds := [_, _, _, _, _]) rfl Tryd.zeroValue40 Tryd.runUnderlying40 places40_Exc ⟨rfl, opd_const, rfl, opd_const, trivial⟩ rfl rfl) ?_
 refine OD.alloc (ds := [_, _, _, _, _]) (wants_plain rfl) rfl rfl Tryd.zeroValue40 rfl (fun b6 => ?_)
 refine OD.store (k := 0) (cs' := [_, _, _, _, _]) (wants_plain rfl) rfl rfl ot rfl rfl ot rfl rfl Tryd.sizeOf40 rfl rfl rfl ?_
 refine OD.wk (Wk.as_ (n := 102) (l' := [(1, _), (5, _), (6, _)]) (S' := [⟨b6, 40, 5, [_, _, _, _, _]⟩, ⟨b5, 40, 5, [_, _, _, _, _]⟩]) rfl rfl ⟨lk, lk, lk, trivial⟩) ?_
 refine OD.nil ?_
 refine CD.seq ?_
 refine CD.region ?_
 refine OD.still (wants_plain rfl) rfl (still_bld (pl := [(0, _), (2, _)]) (ds := [_, _, _, _, _]) rfl Tryd.zeroValue40 Tryd.runUnderlying40 places40_Exc ⟨rfl, opd_const, rfl, opd_const, trivial⟩ rfl rfl) ?_
 refine OD.alloc (ds := [_, _, _, _, _]) (wants_plain rfl) rfl rfl Tryd.zeroValue40 rfl (fun b7 => ?_)
 refine OD.store (k := 0) (cs' := [_, _, _, _, _]) (wants_plain rfl) rfl rfl ot rfl rfl ot rfl rfl Tryd.sizeOf40 rfl rfl rfl ?_
 refine OD.wk (Wk.as_ (n := 102) (l' := [(1, _), (5, _), (6, _), (7, _)]) (S' := [⟨b7, 40, 5, [_, _, _, _, _]⟩, ⟨b6, 40, 5, [_, _, _, _, _]⟩, ⟨b5, 40, 5, [_, _, _, _, _]⟩]) rfl rfl ⟨lk, lk, lk, lk, trivial⟩) ?_
 refine OD.nil ?_
 refine CD.seq ?_
 refine CD.region ?_
 refine OD.still (wants_plain rfl) rfl (still_r1 (mk := Op.load 40) rfl ot (by first | exact ld_blks (k := 0) (ds := [_, _, _, _, _]) rfl rfl Tryd.isAgg40 Tryd.sizeOf40 rfl rfl | exact ld_is (ds := [_, _, _, _, _]) Tryd.isAgg40 Tryd.sizeOf40 rfl rfl)) ?_
 refine OD.still (wants_plain rfl) rfl (still_r1 (mk := Op.load 40) rfl ot (by first | exact ld_blks (k := 2) (ds := [_, _, _, _, _]) rfl rfl Tryd.isAgg40 Tryd.sizeOf40 rfl rfl | exact ld_is (ds := [_, _, _, _, _]) Tryd.isAgg40 Tryd.sizeOf40 rfl rfl)) ?_
 refine OD.still (wants_plain rfl) rfl (still_bld (pl := [(0, _)]) (ds := [_, _, _, _, _]) rfl Tryd.zeroValue40 Tryd.runUnderlying40 places40_Exc ⟨rfl, opd_const, trivial⟩ rfl rfl) ?_
 refine OD.bldS (pl := numD 0 [_, _, _]) (zvs := [.int .i64 0, .int .i64 0, .int .i64 0, .string ⟨#[]⟩, .string ⟨#[]⟩, .int .i64 0, .int .i64 0, .int .i64 0, .string ⟨#[]⟩, .string ⟨#[]⟩, .int .i64 0, .int .i64 0, .int .i64 0, .string ⟨#[]⟩, .string ⟨#[]⟩]) (ds := [_, _, _, _, _, _, _, _, _, _, _, _, _, _, _]) (wants_plain rfl) rfl rfl Tryd.zeroValue40 Tryd.runUnderlying25 Tryd.sizeOf40 rfl rfl (by kernel_rfl) ⟨rfl, ot, rfl, ot, rfl, ot, trivial⟩ (by exact rfl) (fill_full (by exact rfl) (by exact rfl) (by exact rfl)) (fun b24 => ?_)
 refine OD.perm (perm_q11 (S1 := [⟨b24, 40, 3 * 5, List.flatMap cO ([colN, litO x, bareOp 6])⟩]) (A := [_, _, _])) ?_
 refine OD.giveL (t := 24) (Sq := [⟨b24, 40, 3 * 5, List.flatMap cO ([colN, litO x, bareOp 6])⟩]) lk (ownL_row (g := cO) (sz := 5) (e := 40) (ls := [colN, litO x, bareOp 6]) (Nat.le_refl _) (show 3 ≤ maxLen by decide)) (fm_len cO_len _) (perm_r11 (A := [_, _, _])) ?_
 refine OD.still (wants_plain rfl) rfl (still_r1 (mk := Op.load 40) rfl ot (by first | exact ld_blks (k := 1) (ds := [_, _, _, _, _]) rfl rfl Tryd.isAgg40 Tryd.sizeOf40 rfl rfl | exact ld_is (ds := [_, _, _, _, _]) Tryd.isAgg40 Tryd.sizeOf40 rfl rfl)) ?_
 refine OD.still (wants_plain rfl) rfl (still_bld (pl := [(0, _)]) (ds := [_, _, _, _, _]) rfl Tryd.zeroValue40 Tryd.runUnderlying40 places40_Exc ⟨rfl, opd_const, trivial⟩ rfl rfl) ?_
 refine OD.still (wants_plain rfl) rfl (still_bld (pl := [(0, _)]) (ds := [_, _, _, _, _]) rfl Tryd.zeroValue40 Tryd.runUnderlying40 places40_Exc ⟨rfl, opd_const, trivial⟩ rfl rfl) ?_
 refine OD.bldS (pl := numD 0 [_, _, _]) (zvs := [.int .i64 0, .int .i64 0, .int .i64 0, .string ⟨#[]⟩, .string ⟨#[]⟩, .int .i64 0, .int .i64 0, .int .i64 0, .string ⟨#[]⟩, .string ⟨#[]⟩, .int .i64 0, .int .i64 0, .int .i64 0, .string ⟨#[]⟩, .string ⟨#[]⟩]) (ds := [_, _, _, _, _, _, _, _, _, _, _, _, _, _, _]) (wants_plain rfl) rfl rfl Tryd.zeroValue40 Tryd.runUnderlying25 Tryd.sizeOf40 rfl rfl (by kernel_rfl) ⟨rfl, ot, rfl, ot, rfl, ot, trivial⟩ (by exact rfl) (fill_full (by exact rfl) (by exact rfl) (by exact rfl)) (fun b28 => ?_)
 refine OD.perm (perm_q11 (S1 := [⟨b28, 40, 3 * 5, List.flatMap cO ([idO, nulO, bareOp 6])⟩]) (A := [_, _, _])) ?_
 refine OD.giveL (t := 28) (Sq := [⟨b28, 40, 3 * 5, List.flatMap cO ([idO, nulO, bareOp 6])⟩]) lk (ownL_row (g := cO) (sz := 5) (e := 40) (ls := [idO, nulO, bareOp 6]) (Nat.le_refl _) (show 3 ≤ maxLen by decide)) (fm_len cO_len _) (perm_r11 (A := [_, _, _])) ?_
 refine OD.still (wants_plain rfl) rfl (still_r1 (mk := Op.load 40) rfl ot (by first | exact ld_blks (k := 1) (ds := [_, _, _, _, _]) rfl rfl Tryd.isAgg40 Tryd.sizeOf40 rfl rfl | exact ld_is (ds := [_, _, _, _, _]) Tryd.isAgg40 Tryd.sizeOf40 rfl rfl)) ?_
 refine OD.still (wants_plain rfl) rfl (still_r1 (mk := Op.load 40) rfl ot (by first | exact ld_blks (k := 0) (ds := [_, _, _, _, _]) rfl rfl Tryd.isAgg40 Tryd.sizeOf40 rfl rfl | exact ld_is (ds := [_, _, _, _, _]) Tryd.isAgg40 Tryd.sizeOf40 rfl rfl)) ?_
 refine OD.still (wants_plain rfl) rfl (still_bld (pl := [(0, _)]) (ds := [_, _, _, _, _]) rfl Tryd.zeroValue40 Tryd.runUnderlying40 places40_Exc ⟨rfl, opd_const, trivial⟩ rfl rfl) ?_
 refine OD.bldS (pl := numD 0 [_, _, _]) (zvs := [.int .i64 0, .int .i64 0, .int .i64 0, .string ⟨#[]⟩, .string ⟨#[]⟩, .int .i64 0, .int .i64 0, .int .i64 0, .string ⟨#[]⟩, .string ⟨#[]⟩, .int .i64 0, .int .i64 0, .int .i64 0, .string ⟨#[]⟩, .string ⟨#[]⟩]) (ds := [_, _, _, _, _, _, _, _, _, _, _, _, _, _, _]) (wants_plain rfl) rfl rfl Tryd.zeroValue40 Tryd.runUnderlying25 Tryd.sizeOf40 rfl rfl (by kernel_rfl) ⟨rfl, ot, rfl, ot, rfl, ot, trivial⟩ (by exact rfl) (fill_full (by exact rfl) (by exact rfl) (by exact rfl)) (fun b32 => ?_)
 refine OD.perm (perm_q11 (S1 := [⟨b32, 40, 3 * 5, List.flatMap cO ([idO, colN, bareOp 7])⟩]) (A := [_, _, _])) ?_
 refine OD.giveL (t := 32) (Sq := [⟨b32, 40, 3 * 5, List.flatMap cO ([idO, colN, bareOp 7])⟩]) lk (ownL_row (g := cO) (sz := 5) (e := 40) (ls := [idO, colN, bareOp 7]) (Nat.le_refl _) (show 3 ≤ maxLen by decide)) (fm_len cO_len _) (perm_r11 (A := [_, _, _])) ?_
 refine OD.still (wants_plain rfl) rfl (still_r1 (mk := Op.load 40) rfl ot (by first | exact ld_blks (k := 2) (ds := [_, _, _, _, _]) rfl rfl Tryd.isAgg40 Tryd.sizeOf40 rfl rfl | exact ld_is (ds := [_, _, _, _, _]) Tryd.isAgg40 Tryd.sizeOf40 rfl rfl)) ?_
 refine OD.still (wants_plain rfl) rfl (still_r1 (mk := Op.load 40) rfl ot (by first | exact ld_blks (k := 2) (ds := [_, _, _, _, _]) rfl rfl Tryd.isAgg40 Tryd.sizeOf40 rfl rfl | exact ld_is (ds := [_, _, _, _, _]) Tryd.isAgg40 Tryd.sizeOf40 rfl rfl)) ?_
 refine OD.still (wants_plain rfl) rfl (still_bld (pl := [(0, _)]) (ds := [_, _, _, _, _]) rfl Tryd.zeroValue40 Tryd.runUnderlying40 places40_Exc ⟨rfl, opd_const, trivial⟩ rfl rfl) ?_
 refine OD.bldS (pl := numD 0 [_, _, _]) (zvs := [.int .i64 0, .int .i64 0, .int .i64 0, .string ⟨#[]⟩, .string ⟨#[]⟩, .int .i64 0, .int .i64 0, .int .i64 0, .string ⟨#[]⟩, .string ⟨#[]⟩, .int .i64 0, .int .i64 0, .int .i64 0, .string ⟨#[]⟩, .string ⟨#[]⟩]) (ds := [_, _, _, _, _, _, _, _, _, _, _, _, _, _, _]) (wants_plain rfl) rfl rfl Tryd.zeroValue40 Tryd.runUnderlying25 Tryd.sizeOf40 rfl rfl (by kernel_rfl) ⟨rfl, ot, rfl, ot, rfl, ot, trivial⟩ (by exact rfl) (fill_full (by exact rfl) (by exact rfl) (by exact rfl)) (fun b36 => ?_)
 refine OD.perm (perm_q11 (S1 := [⟨b36, 40, 3 * 5, List.flatMap cO ([litO x, litO x, bareOp 7])⟩]) (A := [_, _, _])) ?_
 refine OD.giveL (t := 36) (Sq := [⟨b36, 40, 3 * 5, List.flatMap cO ([litO x, litO x, bareOp 7])⟩]) lk (ownL_row (g := cO) (sz := 5) (e := 40) (ls := [litO x, litO x, bareOp 7]) (Nat.le_refl _) (show 3 ≤ maxLen by decide)) (fm_len cO_len _) (perm_r11 (A := [_, _, _])) ?_
 refine OD.still (wants_plain rfl) rfl (still_r1 (mk := Op.load 40) rfl ot (by first | exact ld_blks (k := 1) (ds := [_, _, _, _, _]) rfl rfl Tryd.isAgg40 Tryd.sizeOf40 rfl rfl | exact ld_is (ds := [_, _, _, _, _]) Tryd.isAgg40 Tryd.sizeOf40 rfl rfl)) ?_
 refine OD.still (wants_plain rfl) rfl (still_bld (pl := [(0, _)]) (ds := [_, _, _, _, _]) rfl Tryd.zeroValue40 Tryd.runUnderlying40 places40_Exc ⟨rfl, opd_const, trivial⟩ rfl rfl) ?_
 refine OD.bldS (pl := numD 0 [_, _]) (zvs := [.int .i64 0, .int .i64 0, .int .i64 0, .string ⟨#[]⟩, .string ⟨#[]⟩, .int .i64 0, .int .i64 0, .int .i64 0, .string ⟨#[]⟩, .string ⟨#[]⟩]) (ds := [_, _, _, _, _, _, _, _, _, _]) (wants_plain rfl) rfl rfl Tryd.zeroValue40 Tryd.runUnderlying25 Tryd.sizeOf40 rfl rfl (by kernel_rfl) ⟨rfl, ot, rfl, ot, trivial⟩ (by exact rfl) (fill_full (by exact rfl) (by exact rfl) (by exact rfl)) (fun b39 => ?_)
 refine OD.perm (perm_q11 (S1 := [⟨b39, 40, 2 * 5, List.flatMap cO ([idO, bareOp 11])⟩]) (A := [_, _, _])) ?_
 refine OD.giveL (t := 39) (Sq := [⟨b39, 40, 2 * 5, List.flatMap cO ([idO, bareOp 11])⟩]) lk (ownL_row (g := cO) (sz := 5) (e := 40) (ls := [idO, bareOp 11]) (Nat.le_refl _) (show 2 ≤ maxLen by decide)) (fm_len cO_len _) (perm_r11 (A := [_, _, _])) ?_
 refine OD.still (wants_plain rfl) rfl (still_r1 (mk := Op.load 40) rfl ot (by first | exact ld_blks (k := 1) (ds := [_, _, _, _, _]) rfl rfl Tryd.isAgg40 Tryd.sizeOf40 rfl rfl | exact ld_is (ds := [_, _, _, _, _]) Tryd.isAgg40 Tryd.sizeOf40 rfl rfl)) ?_
 refine OD.still (wants_plain rfl) rfl (still_r1 (mk := Op.load 40) rfl ot (by first | exact ld_blks (k := 2) (ds := [_, _, _, _, _]) rfl rfl Tryd.isAgg40 Tryd.sizeOf40 rfl rfl | exact ld_is (ds := [_, _, _, _, _]) Tryd.isAgg40 Tryd.sizeOf40 rfl rfl)) ?_
 refine OD.still (wants_plain rfl) rfl (still_bld (pl := [(0, _)]) (ds := [_, _, _, _, _]) rfl Tryd.zeroValue40 Tryd.runUnderlying40 places40_Exc ⟨rfl, opd_const, trivial⟩ rfl rfl) ?_
 refine OD.still (wants_plain rfl) rfl (still_r1 (mk := Op.load 40) rfl ot (by first | exact ld_blks (k := 2) (ds := [_, _, _, _, _]) rfl rfl Tryd.isAgg40 Tryd.sizeOf40 rfl rfl | exact ld_is (ds := [_, _, _, _, _]) Tryd.isAgg40 Tryd.sizeOf40 rfl rfl)) ?_
 refine OD.still (wants_plain rfl) rfl (still_bld (pl := [(0, _)]) (ds := [_, _, _, _, _]) rfl Tryd.zeroValue40 Tryd.runUnderlying40 places40_Exc ⟨rfl, opd_const, trivial⟩ rfl rfl) ?_
 refine OD.bldS (pl := numD 0 [_, _, _, _, _]) (zvs := [.int .i64 0, .int .i64 0, .int .i64 0, .string ⟨#[]⟩, .string ⟨#[]⟩, .int .i64 0, .int .i64 0, .int .i64 0, .string ⟨#[]⟩, .string ⟨#[]⟩, .int .i64 0, .int .i64 0, .int .i64 0, .string ⟨#[]⟩, .string ⟨#[]⟩, .int .i64 0, .int .i64 0, .int .i64 0, .string ⟨#[]⟩, .string ⟨#[]⟩, .int .i64 0, .int .i64 0, .int .i64 0, .string ⟨#[]⟩, .string ⟨#[]⟩]) (ds := [_, _, _, _, _, _, _, _, _, _, _, _, _, _, _, _, _, _, _, _, _, _, _, _, _]) (wants_plain rfl) rfl rfl Tryd.zeroValue40 Tryd.runUnderlying25 Tryd.sizeOf40 rfl rfl (by kernel_rfl) ⟨rfl, ot, rfl, ot, rfl, ot, rfl, ot, rfl, ot, trivial⟩ (by exact rfl) (fill_full (by exact rfl) (by exact rfl) (by exact rfl)) (fun b45 => ?_)
 refine OD.perm (perm_q11 (S1 := [⟨b45, 40, 5 * 5, List.flatMap cO ([idO, litO x, bareOp 8, litO x, bareOp 7])⟩]) (A := [_, _, _])) ?_
 refine OD.giveL (t := 45) (Sq := [⟨b45, 40, 5 * 5, List.flatMap cO ([idO, litO x, bareOp 8, litO x, bareOp 7])⟩]) lk (ownL_row (g := cO) (sz := 5) (e := 40) (ls := [idO, litO x, bareOp 8, litO x, bareOp 7]) (Nat.le_refl _) (show 5 ≤ maxLen by decide)) (fm_len cO_len _) (perm_r11 (A := [_, _, _])) ?_
 refine OD.still (wants_plain rfl) rfl (still_r1 (mk := Op.load 40) rfl ot (by first | exact ld_blks (k := 1) (ds := [_, _, _, _, _]) rfl rfl Tryd.isAgg40 Tryd.sizeOf40 rfl rfl | exact ld_is (ds := [_, _, _, _, _]) Tryd.isAgg40 Tryd.sizeOf40 rfl rfl)) ?_
 refine OD.still (wants_plain rfl) rfl (still_r1 (mk := Op.load 40) rfl ot (by first | exact ld_blks (k := 2) (ds := [_, _, _, _, _]) rfl rfl Tryd.isAgg40 Tryd.sizeOf40 rfl rfl | exact ld_is (ds := [_, _, _, _, _]) Tryd.isAgg40 Tryd.sizeOf40 rfl rfl)) ?_
 refine OD.still (wants_plain rfl) rfl (still_bld (pl := [(0, _)]) (ds := [_, _, _, _, _]) rfl Tryd.zeroValue40 Tryd.runUnderlying40 places40_Exc ⟨rfl, opd_const, trivial⟩ rfl rfl) ?_
 refine OD.still (wants_plain rfl) rfl (still_bld (pl := [(0, _)]) (ds := [_, _, _, _, _]) rfl Tryd.zeroValue40 Tryd.runUnderlying40 places40_Exc ⟨rfl, opd_const, trivial⟩ rfl rfl) ?_
 refine OD.still (wants_plain rfl) rfl (still_bld (pl := [(0, _)]) (ds := [_, _, _, _, _]) rfl Tryd.zeroValue40 Tryd.runUnderlying40 places40_Exc ⟨rfl, opd_const, trivial⟩ rfl rfl) ?_
 refine OD.bldS (pl := numD 0 [_, _, _, _, _]) (zvs := [.int .i64 0, .int .i64 0, .int .i64 0, .string ⟨#[]⟩, .string ⟨#[]⟩, .int .i64 0, .int .i64 0, .int .i64 0, .string ⟨#[]⟩, .string ⟨#[]⟩, .int .i64 0, .int .i64 0, .int .i64 0, .string ⟨#[]⟩, .string ⟨#[]⟩, .int .i64 0, .int .i64 0, .int .i64 0, .string ⟨#[]⟩, .string ⟨#[]⟩, .int .i64 0, .int .i64 0, .int .i64 0, .string ⟨#[]⟩, .string ⟨#[]⟩]) (ds := [_, _, _, _, _, _, _, _, _, _, _, _, _, _, _, _, _, _, _, _, _, _, _, _, _]) (wants_plain rfl) rfl rfl Tryd.zeroValue40 Tryd.runUnderlying25 Tryd.sizeOf40 rfl rfl (by kernel_rfl) ⟨rfl, ot, rfl, ot, rfl, ot, rfl, ot, rfl, ot, trivial⟩ (by exact rfl) (fill_full (by exact rfl) (by exact rfl) (by exact rfl)) (fun b51 => ?_)
 refine OD.perm (perm_q11 (S1 := [⟨b51, 40, 5 * 5, List.flatMap cO ([idO, litO x, bareOp 7, bareOp 5, bareOp 5])⟩]) (A := [_, _, _])) ?_
 refine OD.giveL (t := 51) (Sq := [⟨b51, 40, 5 * 5, List.flatMap cO ([idO, litO x, bareOp 7, bareOp 5, bareOp 5])⟩]) lk (ownL_row (g := cO) (sz := 5) (e := 40) (ls := [idO, litO x, bareOp 7, bareOp 5, bareOp 5]) (Nat.le_refl _) (show 5 ≤ maxLen by decide)) (fm_len cO_len _) (perm_r11 (A := [_, _, _])) ?_
 refine OD.bldS (pl := numD 0 [_, _, _, _, _, _, _]) (zvs := [.slice none 0 0, .slice none 0 0, .slice none 0 0, .slice none 0 0, .slice none 0 0, .slice none 0 0, .slice none 0 0]) (ds := [_, _, _, _, _, _, _]) (wants_plain rfl) rfl rfl Tryd.zeroValue25 Tryd.runUnderlying46 Tryd.sizeOf25 rfl rfl (by kernel_rfl) ⟨rfl, ot, rfl, ot, rfl, ot, rfl, ot, rfl, ot, rfl, ot, rfl, ot, trivial⟩ (by exact rfl) (fill_full (by exact rfl) (by exact rfl) (by exact rfl)) (fun b52 => ?_)
 refine OD.still (wants_plain rfl) rfl (still_as rfl ot) ?_
 refine OD.wk (Wk.as_ (n := 102) (l' := [(1, _), (5, _), (6, _), (8, _)]) (S' := [⟨b52, 25, 7, [_, _, _, _, _, _, _]⟩, ⟨b7, 40, 5, [_, _, _, _, _]⟩, ⟨b6, 40, 5, [_, _, _, _, _]⟩, ⟨b5, 40, 5, [_, _, _, _, _]⟩]) rfl rfl ⟨lk, lk, lk, lk, trivial⟩) ?_
 refine OD.nil ?_
 refine CD.seq ?_
 refine CD.region ?_
 refine OD.callP (wants_plain rfl) rfl rfl rfl Tryd.call10 (colsOf_vp) trivial ?_
 refine OD.still (wants_plain rfl) rfl (still_mv rfl ot) ?_
 refine OD.still (wants_plain rfl) rfl (still_mv rfl ot) ?_
 refine OD.still (wants_plain rfl) rfl (still_mv rfl ot) ?_
 refine OD.still (wants_plain rfl) rfl (still_r1 (mk := fun y => .call { callee := .builtin .len, args := #[y], argTypes := #[46] }) rfl ot (by first | exact len_list rfl Tryd.runUnderlying46 | exact len_row rfl Tryd.runUnderlying46)) ?_
 refine OD.callP (wants_plain rfl) rfl rfl rfl Tryd.call15 (hpk) ⟨ot, ot, trivial⟩ ?_
 refine OD.still (wants_plain rfl) rfl (still_r2 (mk := Op.indexAddr 46) rfl ot ot (by first | exact ix_list Tryd.runUnderlying46 Tryd.sizeOf25 (j := 0) rfl (by decide) | exact ix_row Tryd.runUnderlying46 Tryd.sizeOf25 (j := 0) rfl (by decide))) ?_
 refine OD.still (wants_plain rfl) rfl (still_r1 (mk := Op.load 25) rfl ot (by first | exact ld_blk (k := 0) rfl rfl Tryd.isAgg25 rfl | exact ld_blk (k := 1) rfl rfl Tryd.isAgg25 rfl | exact ld_blk (k := 2) rfl rfl Tryd.isAgg25 rfl | exact ld_blk (k := 3) rfl rfl Tryd.isAgg25 rfl | exact ld_i Tryd.isAgg25 rfl)) ?_
 refine OD.callP (wants_plain rfl) rfl rfl rfl Tryd.call16 (hbv) ⟨ot, ot, trivial⟩ ?_
 refine OD.still (wants_plain rfl) rfl (still_mv rfl ot) ?_
 refine OD.still (wants_plain rfl) rfl (still_extract rfl ot rfl) ?_
 refine OD.still (wants_plain rfl) rfl (still_extract rfl ot rfl) ?_
 refine OD.still (wants_plain rfl) rfl (still_extract rfl ot rfl) ?_
 refine OD.still (wants_plain rfl) rfl (still_as rfl ot) ?_
 refine OD.still (wants_plain rfl) rfl (still_as rfl ot) ?_
 refine OD.still (wants_plain rfl) rfl (still_as rfl ot) ?_
 refine OD.wk (Wk.as_ (n := 102) (l' := [(5, _), (6, _), (9, _), (10, _), (11, _)]) (S' := [⟨b52, 25, 7, [_, _, _, _, _, _, _]⟩, ⟨b7, 40, 5, [_, _, _, _, _]⟩, ⟨b6, 40, 5, [_, _, _, _, _]⟩, ⟨b5, 40, 5, [_, _, _, _, _]⟩]) rfl rfl ⟨lk, lk, lk, lk, lk, trivial⟩) ?_
 refine OD.nil ?_
 refine CD.seq ?_
 refine CD.draw (bks _) (by kernel_rfl) (fun _ h => h) ?_
 refine AD0.take (i := 1) rfl (by kernel_rfl) (by kernel_rfl) (by kernel_rfl) (by repeat (first | exact NP.body | apply NP.then | apply NP.cut | apply NP.inBlock | apply NP.round)) (wants_plain rfl) rfl (still_r1 (mk := Op.load 40) rfl ot (by first | exact ld_blks (k := 2) (ds := [_, _, _, _, _]) rfl rfl Tryd.isAgg40 Tryd.sizeOf40 rfl rfl | exact ld_is (ds := [_, _, _, _, _]) Tryd.isAgg40 Tryd.sizeOf40 rfl rfl)) (by first | exact trivial | exact safe_blk (k0 := 0) rfl rfl | exact safe_blk (k0 := 1) rfl rfl | exact safe_blk (k0 := 2) rfl rfl | exact safe_blk (k0 := 3) rfl rfl) ?_
 refine AD0.take (i := 2) rfl (by kernel_rfl) (by kernel_rfl) (by kernel_rfl) (by repeat (first | exact NP.body | apply NP.then | apply NP.cut | apply NP.inBlock | apply NP.round)) (wants_plain rfl) rfl (still_r1 (mk := Op.load 40) rfl ot (by first | exact ld_blks (k := 3) (ds := [_, _, _, _, _]) rfl rfl Tryd.isAgg40 Tryd.sizeOf40 rfl rfl | exact ld_is (ds := [_, _, _, _, _]) Tryd.isAgg40 Tryd.sizeOf40 rfl rfl)) (by first | exact trivial | exact safe_blk (k0 := 0) rfl rfl | exact safe_blk (k0 := 1) rfl rfl | exact safe_blk (k0 := 2) rfl rfl | exact safe_blk (k0 := 3) rfl rfl) ?_
 refine AD0.take (i := 3) rfl (by kernel_rfl) (by kernel_rfl) (by kernel_rfl) (by repeat (first | exact NP.body | apply NP.then | apply NP.cut | apply NP.inBlock | apply NP.round)) (wants_plain rfl) rfl (still_bld (pl := [(0, _)]) (ds := [_, _, _, _, _]) rfl Tryd.zeroValue40 Tryd.runUnderlying40 places40_Exc ⟨rfl, opd_const, trivial⟩ rfl rfl) (by exact trivial) ?_
 refine AD0.later rfl ?_
 refine AD.two (i := 0) (j := 4) (by kernel_rfl) ?_ ?_
 ·skip
  refine AStep.callP rfl (wants_plain rfl) rfl rfl rfl Tryd.call10 (colsOf_vp) trivial ?_
  refine AD.one (i := 4) (by kernel_rfl) ?_
  refine AStep.bldS (pl := numD 0 [_, _, _]) (zvs := [.int .i64 0, .int .i64 0, .int .i64 0, .string ⟨#[]⟩, .string ⟨#[]⟩, .int .i64 0, .int .i64 0, .int .i64 0, .string ⟨#[]⟩, .string ⟨#[]⟩, .int .i64 0, .int .i64 0, .int .i64 0, .string ⟨#[]⟩, .string ⟨#[]⟩]) (ds := [_, _, _, _, _, _, _, _, _, _, _, _, _, _, _]) rfl (wants_plain rfl) rfl rfl Tryd.zeroValue40 Tryd.runUnderlying25 Tryd.sizeOf40 rfl rfl (by kernel_rfl) ⟨rfl, ot, rfl, ot, rfl, ot, trivial⟩ (by exact rfl) (fill_full (by exact rfl) (by exact rfl) (by exact rfl)) (fun b71 => ?_)
  refine AD.give (k := 0) (t := 71) (sz := 5) (m := 3) rfl lk rfl rfl rfl (Nat.le_refl _) (by decide) ?_
  refine AD.one (i := 5) (by kernel_rfl) ?_
  refine AStep.callP rfl (wants_plain rfl) rfl rfl rfl Tryd.call16 (hbw) ⟨ot, ot, trivial⟩ ?_
  refine AD.take (i := 6) rfl (by kernel_rfl) (by kernel_rfl) (by kernel_rfl) (by repeat (first | exact NP.body | apply NP.then | apply NP.cut | apply NP.inBlock | apply NP.round)) (wants_plain rfl) rfl (still_mv rfl ot) (by exact trivial) (by intro h; cases h) ?_
  refine AD.take (i := 7) rfl (by kernel_rfl) (by kernel_rfl) (by kernel_rfl) (by repeat (first | exact NP.body | apply NP.then | apply NP.cut | apply NP.inBlock | apply NP.round)) (wants_plain rfl) rfl (still_extract rfl ot rfl) (by exact trivial) (by intro h; cases h) ?_
  refine AD.take (i := 8) rfl (by kernel_rfl) (by kernel_rfl) (by kernel_rfl) (by repeat (first | exact NP.body | apply NP.then | apply NP.cut | apply NP.inBlock | apply NP.round)) (wants_plain rfl) rfl (still_extract rfl ot rfl) (by exact trivial) (by intro h; cases h) ?_
  refine AD.take (i := 9) rfl (by kernel_rfl) (by kernel_rfl) (by kernel_rfl) (by repeat (first | exact NP.body | apply NP.then | apply NP.cut | apply NP.inBlock | apply NP.round)) (wants_plain rfl) rfl (still_extract rfl ot rfl) (by exact trivial) (by intro h; cases h) ?_
  refine AD.take (i := 10) rfl (by kernel_rfl) (by kernel_rfl) (by kernel_rfl) (by repeat (first | exact NP.body | apply NP.then | apply NP.cut | apply NP.inBlock | apply NP.round)) (wants_plain rfl) rfl (still_as rfl ot) (by exact trivial) (by intro h; cases h) ?_
  refine AD.take (i := 11) rfl (by kernel_rfl) (by kernel_rfl) (by kernel_rfl) (by repeat (first | exact NP.body | apply NP.then | apply NP.cut | apply NP.inBlock | apply NP.round)) (wants_plain rfl) rfl (still_as rfl ot) (by exact trivial) (by intro h; cases h) ?_
  refine AD.take (i := 12) rfl (by kernel_rfl) (by kernel_rfl) (by kernel_rfl) (by repeat (first | exact NP.body | apply NP.then | apply NP.cut | apply NP.inBlock | apply NP.round)) (wants_plain rfl) rfl (still_as rfl ot) (by exact trivial) (by intro h; cases h) ?_
  refine AD.wk (y := ⟨102, [(9, _), (10, _), (11, _), (12, _), (13, _), (14, _)], [⟨b52, 25, 7, [_, _, _, _, _, _, _]⟩, ⟨b7, 40, 5, [_, _, _, _, _]⟩, ⟨b6, 40, 5, [_, _, _, _, _]⟩, ⟨b5, 40, 5, [_, _, _, _, _]⟩]⟩) (Wk.as_ rfl rfl ⟨lk, lk, lk, lk, lk, lk, trivial⟩) rfl ?_
  refine AD.done (by kernel_rfl) ?_
  refine CD.seq ?_
  refine CD.region ?_
  refine OD.still (wants_plain rfl) rfl (still_mv rfl ot) ?_
  refine OD.still (wants_plain rfl) rfl (still_bin rfl ot opd_const bin_eql) ?_
  refine OD.still (wants_plain rfl) rfl (still_mv rfl ot) ?_
  refine OD.split (t := 78) lk (fun hg78 => ?_) (fun hg78 => ?_)
  ·have hg78' := hg78; (try simp only [V.cnd, ne_eq] at hg78')
   refine OD.still (wants_T rfl rfl rfl lk (by first | rfl | assumption)) rfl (still_mv rfl ot) ?_
   refine OD.still (wants_T rfl rfl rfl lk (by first | rfl | assumption)) rfl (still_bin rfl ot opd_const bin_eql) ?_
   refine OD.still (wants_plain rfl) rfl (still_pickT rfl ot (by first | rfl | assumption) ot) ?_
   refine OD.still (wants_plain rfl) rfl (still_mv rfl ot) ?_
   refine OD.split (t := 82) lk (fun hg82 => ?_) (fun hg82 => ?_)
   ·have hg82' := hg82; (try simp only [V.cnd, ne_eq] at hg82')
    refine OD.still (wants_T rfl rfl rfl lk (by first | rfl | assumption)) rfl (still_mv rfl ot) ?_
    refine OD.still (wants_T rfl rfl rfl lk (by first | rfl | assumption)) rfl (still_r1 (mk := fun y => .call { callee := .builtin .len, args := #[y], argTypes := #[47] }) rfl ot (by first | exact len_list rfl Tryd.runUnderlying47 | exact len_row rfl Tryd.runUnderlying47)) ?_
    refine OD.still (wants_T rfl rfl rfl lk (by first | rfl | assumption)) rfl (still_mv rfl ot) ?_
    refine OD.still (wants_T rfl rfl rfl lk (by first | rfl | assumption)) rfl (still_r1 (mk := fun y => .call { callee := .builtin .len, args := #[y], argTypes := #[47] }) rfl ot (by first | exact len_list rfl Tryd.runUnderlying47 | exact len_row rfl Tryd.runUnderlying47)) ?_
    refine OD.still (wants_T rfl rfl rfl lk (by first | rfl | assumption)) rfl (still_bin rfl ot ot (bin_add (wrap_i64 (by decide) (by decide)))) ?_
    refine OD.still (wants_T rfl rfl rfl lk (by first | rfl | assumption)) rfl (still_bin rfl ot opd_const bin_eql) ?_
    refine OD.still (wants_plain rfl) rfl (still_pickT rfl ot (by first | rfl | assumption) ot) ?_
    refine OD.still (wants_plain rfl) rfl (still_mv rfl ot) ?_
    refine OD.split (t := 90) lk (fun hg90 => ?_) (fun hg90 => ?_)
    ·have hg90' := hg90; (try simp only [V.cnd, ne_eq] at hg90')
     refine OD.still (wants_T rfl rfl rfl lk (by first | rfl | assumption)) rfl (still_mv rfl ot) ?_
     refine OD.still (wants_T rfl rfl rfl lk (by first | rfl | assumption)) rfl (still_r1 (mk := fun y => .call { callee := .builtin .len, args := #[y], argTypes := #[47] }) rfl ot (by first | exact len_list rfl Tryd.runUnderlying47 | exact len_row rfl Tryd.runUnderlying47)) ?_
     refine OD.still (wants_T rfl rfl rfl lk (by first | rfl | assumption)) rfl (still_bin rfl ot opd_const bin_gtr) ?_
     refine OD.still (wants_plain rfl) rfl (still_pickT rfl ot (by first | rfl | assumption) ot) ?_
     refine OD.still (wants_plain rfl) rfl (still_mv rfl ot) ?_
     refine OD.split (t := 95) lk (fun hg95 => ?_) (fun hg95 => ?_)
     ·have hg95' := hg95; (try simp only [V.cnd, ne_eq] at hg95')
      refine OD.still (wants_T rfl rfl rfl lk (by first | rfl | assumption)) rfl (still_mv rfl ot) ?_
      first | refine OD.still (wants_T rfl rfl rfl lk (by first | rfl | assumption)) rfl (still_ofBytes rfl ot Tryd.underlying47 Tryd.underlying5 Tryd.underlying9) ?_ | refine OD.still (wants_T rfl rfl rfl lk (by first | rfl | assumption)) rfl (still_ofBytesF rfl ot Tryd.underlying47 Tryd.underlying5 Tryd.underlying9) ?_
      refine OD.still (wants_T rfl rfl rfl lk (by first | rfl | assumption)) rfl (still_mv rfl ot) ?_
      first | refine OD.still (wants_T rfl rfl rfl lk (by first | rfl | assumption)) rfl (still_ofBytes rfl ot Tryd.underlying47 Tryd.underlying5 Tryd.underlying9) ?_ | refine OD.still (wants_T rfl rfl rfl lk (by first | rfl | assumption)) rfl (still_ofBytesF rfl ot Tryd.underlying47 Tryd.underlying5 Tryd.underlying9) ?_
      refine OD.still (wants_T rfl rfl rfl lk (by first | rfl | assumption)) rfl (still_bin rfl ot ot bin_seql) ?_
      refine OD.still (wants_plain rfl) rfl (still_pickT rfl ot (by first | rfl | assumption) ot) ?_
      refine OD.still (wants_plain rfl) rfl (still_as rfl ot) ?_
      refine OD.wk (Wk.as_ (n := 102) (l' := [(4, _)]) (S' := [⟨b52, 25, 7, [_, _, _, _, _, _, _]⟩, ⟨b7, 40, 5, [_, _, _, _, _]⟩, ⟨b6, 40, 5, [_, _, _, _, _]⟩, ⟨b5, 40, 5, [_, _, _, _, _]⟩]) rfl rfl ⟨lk, trivial⟩) ?_
      refine OD.nil ?_
      refine CD.ret ?_
      refine ⟨.inr rfl, _, [], List.nil_sublist _, ret_one Tryd.results7 (res_tmp (Nat.le_of_ble_eq_true rfl) lk), ?_⟩
      first | exact ⟨rfl, rfl⟩ | (refine ⟨vb ?_, rfl⟩; simp)
     ·exact absurd hg95 (by rw [hkl]; decide)
    ·exact absurd hg90 (by simp)
   ·exact absurd hg82 (by simp)
  ·exact absurd hg78 (by simp)
 ·skip
  refine AStep.bldS (pl := numD 0 [_, _, _]) (zvs := [.int .i64 0, .int .i64 0, .int .i64 0, .string ⟨#[]⟩, .string ⟨#[]⟩, .int .i64 0, .int .i64 0, .int .i64 0, .string ⟨#[]⟩, .string ⟨#[]⟩, .int .i64 0, .int .i64 0, .int .i64 0, .string ⟨#[]⟩, .string ⟨#[]⟩]) (ds := [_, _, _, _, _, _, _, _, _, _, _, _, _, _, _]) rfl (wants_plain rfl) rfl rfl Tryd.zeroValue40 Tryd.runUnderlying25 Tryd.sizeOf40 rfl rfl (by kernel_rfl) ⟨rfl, ot, rfl, ot, rfl, ot, trivial⟩ (by exact rfl) (fill_full (by exact rfl) (by exact rfl) (by exact rfl)) (fun b71 => ?_)
  refine AD.give (k := 0) (t := 71) (sz := 5) (m := 3) rfl lk rfl rfl rfl (Nat.le_refl _) (by decide) ?_
  refine AD.one (i := 0) (by kernel_rfl) ?_
  refine AStep.callP rfl (wants_plain rfl) rfl rfl rfl Tryd.call10 (colsOf_vp) trivial ?_
  refine AD.one (i := 5) (by kernel_rfl) ?_
  refine AStep.callP rfl (wants_plain rfl) rfl rfl rfl Tryd.call16 (hbw) ⟨ot, ot, trivial⟩ ?_
  refine AD.take (i := 6) rfl (by kernel_rfl) (by kernel_rfl) (by kernel_rfl) (by repeat (first | exact NP.body | apply NP.then | apply NP.cut | apply NP.inBlock | apply NP.round)) (wants_plain rfl) rfl (still_mv rfl ot) (by exact trivial) (by intro h; cases h) ?_
  refine AD.take (i := 7) rfl (by kernel_rfl) (by kernel_rfl) (by kernel_rfl) (by repeat (first | exact NP.body | apply NP.then | apply NP.cut | apply NP.inBlock | apply NP.round)) (wants_plain rfl) rfl (still_extract rfl ot rfl) (by exact trivial) (by intro h; cases h) ?_
  refine AD.take (i := 8) rfl (by kernel_rfl) (by kernel_rfl) (by kernel_rfl) (by repeat (first | exact NP.body | apply NP.then | apply NP.cut | apply NP.inBlock | apply NP.round)) (wants_plain rfl) rfl (still_extract rfl ot rfl) (by exact trivial) (by intro h; cases h) ?_
  refine AD.take (i := 9) rfl (by kernel_rfl) (by kernel_rfl) (by kernel_rfl) (by repeat (first | exact NP.body | apply NP.then | apply NP.cut | apply NP.inBlock | apply NP.round)) (wants_plain rfl) rfl (still_extract rfl ot rfl) (by exact trivial) (by intro h; cases h) ?_
  refine AD.take (i := 10) rfl (by kernel_rfl) (by kernel_rfl) (by kernel_rfl) (by repeat (first | exact NP.body | apply NP.then | apply NP.cut | apply NP.inBlock | apply NP.round)) (wants_plain rfl) rfl (still_as rfl ot) (by exact trivial) (by intro h; cases h) ?_
  refine AD.take (i := 11) rfl (by kernel_rfl) (by kernel_rfl) (by kernel_rfl) (by repeat (first | exact NP.body | apply NP.then | apply NP.cut | apply NP.inBlock | apply NP.round)) (wants_plain rfl) rfl (still_as rfl ot) (by exact trivial) (by intro h; cases h) ?_
  refine AD.take (i := 12) rfl (by kernel_rfl) (by kernel_rfl) (by kernel_rfl) (by repeat (first | exact NP.body | apply NP.then | apply NP.cut | apply NP.inBlock | apply NP.round)) (wants_plain rfl) rfl (still_as rfl ot) (by exact trivial) (by intro h; cases h) ?_
  refine AD.wk (y := ⟨102, [(9, _), (10, _), (11, _), (12, _), (13, _), (14, _)], [⟨b52, 25, 7, [_, _, _, _, _, _, _]⟩, ⟨b7, 40, 5, [_, _, _, _, _]⟩, ⟨b6, 40, 5, [_, _, _, _, _]⟩, ⟨b5, 40, 5, [_, _, _, _, _]⟩]⟩) (Wk.as_ rfl rfl ⟨lk, lk, lk, lk, lk, lk, trivial⟩) rfl ?_
  refine AD.done (by kernel_rfl) ?_
  refine CD.seq ?_
  refine CD.region ?_
  refine OD.still (wants_plain rfl) rfl (still_mv rfl ot) ?_
  refine OD.still (wants_plain rfl) rfl (still_bin rfl ot opd_const bin_eql) ?_
  refine OD.still (wants_plain rfl) rfl (still_mv rfl ot) ?_
  refine OD.split (t := 78) lk (fun hg78 => ?_) (fun hg78 => ?_)
  ·have hg78' := hg78; (try simp only [V.cnd, ne_eq] at hg78')
   refine OD.still (wants_T rfl rfl rfl lk (by first | rfl | assumption)) rfl (still_mv rfl ot) ?_
   refine OD.still (wants_T rfl rfl rfl lk (by first | rfl | assumption)) rfl (still_bin rfl ot opd_const bin_eql) ?_
   refine OD.still (wants_plain rfl) rfl (still_pickT rfl ot (by first | rfl | assumption) ot) ?_
   refine OD.still (wants_plain rfl) rfl (still_mv rfl ot) ?_
   refine OD.split (t := 82) lk (fun hg82 => ?_) (fun hg82 => ?_)
   ·have hg82' := hg82; (try simp only [V.cnd, ne_eq] at hg82')
    refine OD.still (wants_T rfl rfl rfl lk (by first | rfl | assumption)) rfl (still_mv rfl ot) ?_
    refine OD.still (wants_T rfl rfl rfl lk (by first | rfl | assumption)) rfl (still_r1 (mk := fun y => .call { callee := .builtin .len, args := #[y], argTypes := #[47] }) rfl ot (by first | exact len_list rfl Tryd.runUnderlying47 | exact len_row rfl Tryd.runUnderlying47)) ?_
    refine OD.still (wants_T rfl rfl rfl lk (by first | rfl | assumption)) rfl (still_mv rfl ot) ?_
    refine OD.still (wants_T rfl rfl rfl lk (by first | rfl | assumption)) rfl (still_r1 (mk := fun y => .call { callee := .builtin .len, args := #[y], argTypes := #[47] }) rfl ot (by first | exact len_list rfl Tryd.runUnderlying47 | exact len_row rfl Tryd.runUnderlying47)) ?_
    refine OD.still (wants_T rfl rfl rfl lk (by first | rfl | assumption)) rfl (still_bin rfl ot ot (bin_add (wrap_i64 (by decide) (by decide)))) ?_
    refine OD.still (wants_T rfl rfl rfl lk (by first | rfl | assumption)) rfl (still_bin rfl ot opd_const bin_eql) ?_
    refine OD.still (wants_plain rfl) rfl (still_pickT rfl ot (by first | rfl | assumption) ot) ?_
    refine OD.still (wants_plain rfl) rfl (still_mv rfl ot) ?_
    refine OD.split (t := 90) lk (fun hg90 => ?_) (fun hg90 => ?_)
    ·have hg90' := hg90; (try simp only [V.cnd, ne_eq] at hg90')
     refine OD.still (wants_T rfl rfl rfl lk (by first | rfl | assumption)) rfl (still_mv rfl ot) ?_
     refine OD.still (wants_T rfl rfl rfl lk (by first | rfl | assumption)) rfl (still_r1 (mk := fun y => .call { callee := .builtin .len, args := #[y], argTypes := #[47] }) rfl ot (by first | exact len_list rfl Tryd.runUnderlying47 | exact len_row rfl Tryd.runUnderlying47)) ?_
     refine OD.still (wants_T rfl rfl rfl lk (by first | rfl | assumption)) rfl (still_bin rfl ot opd_const bin_gtr) ?_
     refine OD.still (wants_plain rfl) rfl (still_pickT rfl ot (by first | rfl | assumption) ot) ?_
     refine OD.still (wants_plain rfl) rfl (still_mv rfl ot) ?_
     refine OD.split (t := 95) lk (fun hg95 => ?_) (fun hg95 => ?_)
     ·have hg95' := hg95; (try simp only [V.cnd, ne_eq] at hg95')
      refine OD.still (wants_T rfl rfl rfl lk (by first | rfl | assumption)) rfl (still_mv rfl ot) ?_
      first | refine OD.still (wants_T rfl rfl rfl lk (by first | rfl | assumption)) rfl (still_ofBytes rfl ot Tryd.underlying47 Tryd.underlying5 Tryd.underlying9) ?_ | refine OD.still (wants_T rfl rfl rfl lk (by first | rfl | assumption)) rfl (still_ofBytesF rfl ot Tryd.underlying47 Tryd.underlying5 Tryd.underlying9) ?_
      refine OD.still (wants_T rfl rfl rfl lk (by first | rfl | assumption)) rfl (still_mv rfl ot) ?_
      first | refine OD.still (wants_T rfl rfl rfl lk (by first | rfl | assumption)) rfl (still_ofBytes rfl ot Tryd.underlying47 Tryd.underlying5 Tryd.underlying9) ?_ | refine OD.still (wants_T rfl rfl rfl lk (by first | rfl | assumption)) rfl (still_ofBytesF rfl ot Tryd.underlying47 Tryd.underlying5 Tryd.underlying9) ?_
      refine OD.still (wants_T rfl rfl rfl lk (by first | rfl | assumption)) rfl (still_bin rfl ot ot bin_seql) ?_
      refine OD.still (wants_plain rfl) rfl (still_pickT rfl ot (by first | rfl | assumption) ot) ?_
      refine OD.still (wants_plain rfl) rfl (still_as rfl ot) ?_
      refine OD.wk (Wk.as_ (n := 102) (l' := [(4, _)]) (S' := [⟨b52, 25, 7, [_, _, _, _, _, _, _]⟩, ⟨b7, 40, 5, [_, _, _, _, _]⟩, ⟨b6, 40, 5, [_, _, _, _, _]⟩, ⟨b5, 40, 5, [_, _, _, _, _]⟩]) rfl rfl ⟨lk, trivial⟩) ?_
      refine OD.nil ?_
      refine CD.ret ?_
      refine ⟨.inr rfl, _, [], List.nil_sublist _, ret_one Tryd.results7 (res_tmp (Nat.le_of_ble_eq_true rfl) lk), ?_⟩
      first | exact ⟨rfl, rfl⟩ | (refine ⟨vb ?_, rfl⟩; simp)
     ·exact absurd hg95 (by rw [hkl]; decide)
    ·exact absurd hg90 (by simp)
   ·exact absurd hg82 (by simp)
  ·exact absurd hg78 (by simp)

set_option maxHeartbeats 4000000 in
set_option maxRecDepth 100000 in
theorem none1_vp {m : Int} (hm : (3, marksC) ∈ G) (hw : (0, wordsC) ∈ G) (ht : (2, typesC) ∈ G) (hG : (1, [Value.int .i64 m]) ∈ G) (n : Int) (n1 : -9223372036854775808 ≤ n) (n2 : n ≤ 9223372036854775807) (which : Int) (which1 : -9223372036854775808 ≤ which) (which2 : which ≤ 9223372036854775807) (hk : pickedF which 7 = 1) : VP Tryd.prog G 7 [.v (.int .i64 n), .v (.int .i64 which)] (.v (.bool true)) := by
 refine VC.body Tryd.func7 rfl Tryd.ntmps7 (Nat.le_of_ble_eq_true rfl) fun X0 w0 S00 => ?_
 have hxb := pickedF_bd n (show (1 : Int) ≤ 100 by decide)
 have hbv := Bounds_at hm hw ht hG [idO, nulO, bareOp 6] (fine_cons fine_id (fine_cons fine_nul (fine_cons (fine_bare 6) fine_nil)))
 rw [none1 hxb.1] at hbv
 unfold bdD bytesL at hbv
 have hbw := Bounds_at hm hw ht hG [idO, litO (pickedF n 100), bareOp 6] (fine_cons fine_id (fine_cons (fine_lit (by omega) (by omega)) (fine_cons (fine_bare 6) fine_nil)))
 rw [one0 hxb.1] at hbw
 unfold bdD bytesL at hbw
 have hkl := key_len (pickedF n 100)
 have hpn := (picked_vp G n 100 n1 n2 (by decide))
 have hnv := number_vp (G := G) (pickedF n 100)
 unfold cV at hnv
 have hpk := (picked_vp G which 7 which1 which2 (by decide))
 rw [hk] at hpk
 generalize (pickedF n 100) = x at *
 refine CD.seq ?_
 refine CD.region ?_
 refine OD.still (wants_plain rfl) rfl (still_as rfl opd_const) ?_
 refine OD.wk (Wk.as_ (n := 102) (l' := [(0, _), (1, _)]) (S' := []) rfl rfl ⟨lk, lk, trivial⟩) ?_
 refine OD.nil ?_
 refine CD.seq ?_
 refine CD.region ?_
 refine OD.still (wants_plain rfl) rfl (still_mv rfl ot) ?_
 refine OD.callP (wants_plain rfl) rfl rfl rfl Tryd.call15 (hpn) ⟨ot, opd_const, trivial⟩ ?_
 refine OD.callP (wants_plain rfl) rfl rfl rfl Tryd.call19 (hnv) ⟨ot, trivial⟩ ?_
 refine OD.still (wants_plain rfl) rfl (still_bld (pl := [(0, _), (1, _)]) (ds := [_, _, _, _, _]) rfl Tryd.zeroValue40 Tryd.runUnderlying40 places40_Exc ⟨rfl, opd_const, rfl, ot, trivial⟩ rfl rfl) ?_
 refine OD.alloc (ds := [_, _, _, _, _]) (wants_plain rfl) rfl rfl Tryd.zeroValue40 rfl (fun b5 => ?_)
 refine OD.store (k := 0) (cs' := [_, _, _, _, _]) (wants_plain rfl) rfl rfl ot rfl rfl ot rfl rfl Tryd.sizeOf40 rfl rfl rfl ?_
 refine OD.wk (Wk.as_ (n := 102) (l' := [(1, _), (5, _)]) (S' := [⟨b5, 40, 5, [_, _, _, _, _]⟩]) rfl rfl ⟨lk, lk, trivial⟩) ?_
 refine OD.nil ?_
 refine CD.seq ?_
 refine CD.region ?_
 refine OD.still (wants_plain rfl) rfl (still_bld (pl := [(0, _), (2, _)]) (ds := [_, _, _, _, _]) rfl Tryd.zeroValue40 Tryd.runUnderlying40 places40_Exc ⟨rfl, opd_const, rfl, opd_const, trivial⟩ rfl rfl) ?_
 refine OD.alloc (ds := [_, _, _, _, _]) (wants_plain rfl) rfl rfl Tryd.zeroValue40 rfl (fun b6 => ?_)
 refine OD.store (k := 0) (cs' := [_, _, _, _, _]) (wants_plain rfl) rfl rfl ot rfl rfl ot rfl rfl Tryd.sizeOf40 rfl rfl rfl ?_
 refine OD.wk (Wk.as_ (n := 102) (l' := [(1, _), (5, _), (6, _)]) (S' := [⟨b6, 40, 5, [_, _, _, _, _]⟩, ⟨b5, 40, 5, [_, _, _, _, _]⟩]) rfl rfl ⟨lk, lk, lk, trivial⟩) ?_
 refine OD.nil ?_
 refine CD.seq ?_
 refine CD.region ?_
 refine OD.still (wants_plain rfl) rfl (still_bld (pl := [(0, _), (2, _)]) (ds := [_, _, _, _, _]) rfl Tryd.zeroValue40 Tryd.runUnderlying40 places40_Exc ⟨rfl, opd_const, rfl, opd_const, trivial⟩ rfl rfl) ?_
 refine OD.alloc (ds := [_, _, _, _, _]) (wants_plain rfl) rfl rfl Tryd.zeroValue40 rfl (fun b7 => ?_)
 refine OD.store (k := 0) (cs' := [_, _, _, _, _]) (wants_plain rfl) rfl rfl ot rfl rfl ot rfl rfl Tryd.sizeOf40 rfl rfl rfl ?_
 refine OD.wk (Wk.as_ (n := 102) (l' := [(1, _), (5, _), (6, _), (7, _)]) (S' := [⟨b7, 40, 5, [_, _, _, _, _]⟩, ⟨b6, 40, 5, [_, _, _, _, _]⟩, ⟨b5, 40, 5, [_, _, _, _, _]⟩]) rfl rfl ⟨lk, lk, lk, lk, trivial⟩) ?_
 refine OD.nil ?_
 refine CD.seq ?_
 refine CD.region ?_
 refine OD.still (wants_plain rfl) rfl (still_r1 (mk := Op.load 40) rfl ot (by first | exact ld_blks (k := 0) (ds := [_, _, _, _, _]) rfl rfl Tryd.isAgg40 Tryd.sizeOf40 rfl rfl | exact ld_is (ds := [_, _, _, _, _]) Tryd.isAgg40 Tryd.sizeOf40 rfl rfl)) ?_
 refine OD.still (wants_plain rfl) rfl (still_r1 (mk := Op.load 40) rfl ot (by first | exact ld_blks (k := 2) (ds := [_, _, _, _, _]) rfl rfl Tryd.isAgg40 Tryd.sizeOf40 rfl rfl | exact ld_is (ds := [_, _, _, _, _]) Tryd.isAgg40 Tryd.sizeOf40 rfl rfl)) ?_
 refine OD.still (wants_plain rfl) rfl (still_bld (pl := [(0, _)]) (ds := [_, _, _, _, _]) rfl Tryd.zeroValue40 Tryd.runUnderlying40 places40_Exc ⟨rfl, opd_const, trivial⟩ rfl rfl) ?_
 refine OD.bldS (pl := numD 0 [_, _, _]) (zvs := [.int .i64 0, .int .i64 0, .int .i64 0, .string ⟨#[]⟩, .string ⟨#[]⟩, .int .i64 0, .int .i64 0, .int .i64 0, .string ⟨#[]⟩, .string ⟨#[]⟩, .int .i64 0, .int .i64 0, .int .i64 0, .string ⟨#[]⟩, .string ⟨#[]⟩]) (ds := [_, _, _, _, _, _, _, _, _, _, _, _, _, _, _]) (wants_plain rfl) rfl rfl Tryd.zeroValue40 Tryd.runUnderlying25 Tryd.sizeOf40 rfl rfl (by kernel_rfl) ⟨rfl, ot, rfl, ot, rfl, ot, trivial⟩ (by exact rfl) (fill_full (by exact rfl) (by exact rfl) (by exact rfl)) (fun b24 => ?_)
 refine OD.perm (perm_q11 (S1 := [⟨b24, 40, 3 * 5, List.flatMap cO ([colN, litO x, bareOp 6])⟩]) (A := [_, _, _])) ?_
 refine OD.giveL (t := 24) (Sq := [⟨b24, 40, 3 * 5, List.flatMap cO ([colN, litO x, bareOp 6])⟩]) lk (ownL_row (g := cO) (sz := 5) (e := 40) (ls := [colN, litO x, bareOp 6]) (Nat.le_refl _) (show 3 ≤ maxLen by decide)) (fm_len cO_len _) (perm_r11 (A := [_, _, _])) ?_
 refine OD.still (wants_plain rfl) rfl (still_r1 (mk := Op.load 40) rfl ot (by first | exact ld_blks (k := 1) (ds := [_, _, _, _, _]) rfl rfl Tryd.isAgg40 Tryd.sizeOf40 rfl rfl | exact ld_is (ds := [_, _, _, _, _]) Tryd.isAgg40 Tryd.sizeOf40 rfl rfl)) ?_
 refine OD.still (wants_plain rfl) rfl (still_bld (pl := [(0, _)]) (ds := [_, _, _, _, _]) rfl Tryd.zeroValue40 Tryd.runUnderlying40 places40_Exc ⟨rfl, opd_const, trivial⟩ rfl rfl) ?_
 refine OD.still (wants_plain rfl) rfl (still_bld (pl := [(0, _)]) (ds := [_, _, _, _, _]) rfl Tryd.zeroValue40 Tryd.runUnderlying40 places40_Exc ⟨rfl, opd_const, trivial⟩ rfl rfl) ?_
 refine OD.bldS (pl := numD 0 [_, _, _]) (zvs := [.int .i64 0, .int .i64 0, .int .i64 0, .string ⟨#[]⟩, .string ⟨#[]⟩, .int .i64 0, .int .i64 0, .int .i64 0, .string ⟨#[]⟩, .string ⟨#[]⟩, .int .i64 0, .int .i64 0, .int .i64 0, .string ⟨#[]⟩, .string ⟨#[]⟩]) (ds := [_, _, _, _, _, _, _, _, _, _, _, _, _, _, _]) (wants_plain rfl) rfl rfl Tryd.zeroValue40 Tryd.runUnderlying25 Tryd.sizeOf40 rfl rfl (by kernel_rfl) ⟨rfl, ot, rfl, ot, rfl, ot, trivial⟩ (by exact rfl) (fill_full (by exact rfl) (by exact rfl) (by exact rfl)) (fun b28 => ?_)
 refine OD.perm (perm_q11 (S1 := [⟨b28, 40, 3 * 5, List.flatMap cO ([idO, nulO, bareOp 6])⟩]) (A := [_, _, _])) ?_
 refine OD.giveL (t := 28) (Sq := [⟨b28, 40, 3 * 5, List.flatMap cO ([idO, nulO, bareOp 6])⟩]) lk (ownL_row (g := cO) (sz := 5) (e := 40) (ls := [idO, nulO, bareOp 6]) (Nat.le_refl _) (show 3 ≤ maxLen by decide)) (fm_len cO_len _) (perm_r11 (A := [_, _, _])) ?_
 refine OD.still (wants_plain rfl) rfl (still_r1 (mk := Op.load 40) rfl ot (by first | exact ld_blks (k := 1) (ds := [_, _, _, _, _]) rfl rfl Tryd.isAgg40 Tryd.sizeOf40 rfl rfl | exact ld_is (ds := [_, _, _, _, _]) Tryd.isAgg40 Tryd.sizeOf40 rfl rfl)) ?_
 refine OD.still (wants_plain rfl) rfl (still_r1 (mk := Op.load 40) rfl ot (by first | exact ld_blks (k := 0) (ds := [_, _, _, _, _]) rfl rfl Tryd.isAgg40 Tryd.sizeOf40 rfl rfl | exact ld_is (ds := [_, _, _, _, _]) Tryd.isAgg40 Tryd.sizeOf40 rfl rfl)) ?_
 refine OD.still (wants_plain rfl) rfl (still_bld (pl := [(0, _)]) (ds := [_, _, _, _, _]) rfl Tryd.zeroValue40 Tryd.runUnderlying40 places40_Exc ⟨rfl, opd_const, trivial⟩ rfl rfl) ?_
 refine OD.bldS (pl := numD 0 [_, _, _]) (zvs := [.int .i64 0, .int .i64 0, .int .i64 0, .string ⟨#[]⟩, .string ⟨#[]⟩, .int .i64 0, .int .i64 0, .int .i64 0, .string ⟨#[]⟩, .string ⟨#[]⟩, .int .i64 0, .int .i64 0, .int .i64 0, .string ⟨#[]⟩, .string ⟨#[]⟩]) (ds := [_, _, _, _, _, _, _, _, _, _, _, _, _, _, _]) (wants_plain rfl) rfl rfl Tryd.zeroValue40 Tryd.runUnderlying25 Tryd.sizeOf40 rfl rfl (by kernel_rfl) ⟨rfl, ot, rfl, ot, rfl, ot, trivial⟩ (by exact rfl) (fill_full (by exact rfl) (by exact rfl) (by exact rfl)) (fun b32 => ?_)
 refine OD.perm (perm_q11 (S1 := [⟨b32, 40, 3 * 5, List.flatMap cO ([idO, colN, bareOp 7])⟩]) (A := [_, _, _])) ?_
 refine OD.giveL (t := 32) (Sq := [⟨b32, 40, 3 * 5, List.flatMap cO ([idO, colN, bareOp 7])⟩]) lk (ownL_row (g := cO) (sz := 5) (e := 40) (ls := [idO, colN, bareOp 7]) (Nat.le_refl _) (show 3 ≤ maxLen by decide)) (fm_len cO_len _) (perm_r11 (A := [_, _, _])) ?_
 refine OD.still (wants_plain rfl) rfl (still_r1 (mk := Op.load 40) rfl ot (by first | exact ld_blks (k := 2) (ds := [_, _, _, _, _]) rfl rfl Tryd.isAgg40 Tryd.sizeOf40 rfl rfl | exact ld_is (ds := [_, _, _, _, _]) Tryd.isAgg40 Tryd.sizeOf40 rfl rfl)) ?_
 refine OD.still (wants_plain rfl) rfl (still_r1 (mk := Op.load 40) rfl ot (by first | exact ld_blks (k := 2) (ds := [_, _, _, _, _]) rfl rfl Tryd.isAgg40 Tryd.sizeOf40 rfl rfl | exact ld_is (ds := [_, _, _, _, _]) Tryd.isAgg40 Tryd.sizeOf40 rfl rfl)) ?_
 refine OD.still (wants_plain rfl) rfl (still_bld (pl := [(0, _)]) (ds := [_, _, _, _, _]) rfl Tryd.zeroValue40 Tryd.runUnderlying40 places40_Exc ⟨rfl, opd_const, trivial⟩ rfl rfl) ?_
 refine OD.bldS (pl := numD 0 [_, _, _]) (zvs := [.int .i64 0, .int .i64 0, .int .i64 0, .string ⟨#[]⟩, .string ⟨#[]⟩, .int .i64 0, .int .i64 0, .int .i64 0, .string ⟨#[]⟩, .string ⟨#[]⟩, .int .i64 0, .int .i64 0, .int .i64 0, .string ⟨#[]⟩, .string ⟨#[]⟩]) (ds := [_, _, _, _, _, _, _, _, _, _, _, _, _, _, _]) (wants_plain rfl) rfl rfl Tryd.zeroValue40 Tryd.runUnderlying25 Tryd.sizeOf40 rfl rfl (by kernel_rfl) ⟨rfl, ot, rfl, ot, rfl, ot, trivial⟩ (by exact rfl) (fill_full (by exact rfl) (by exact rfl) (by exact rfl)) (fun b36 => ?_)
 refine OD.perm (perm_q11 (S1 := [⟨b36, 40, 3 * 5, List.flatMap cO ([litO x, litO x, bareOp 7])⟩]) (A := [_, _, _])) ?_
 refine OD.giveL (t := 36) (Sq := [⟨b36, 40, 3 * 5, List.flatMap cO ([litO x, litO x, bareOp 7])⟩]) lk (ownL_row (g := cO) (sz := 5) (e := 40) (ls := [litO x, litO x, bareOp 7]) (Nat.le_refl _) (show 3 ≤ maxLen by decide)) (fm_len cO_len _) (perm_r11 (A := [_, _, _])) ?_
 refine OD.still (wants_plain rfl) rfl (still_r1 (mk := Op.load 40) rfl ot (by first | exact ld_blks (k := 1) (ds := [_, _, _, _, _]) rfl rfl Tryd.isAgg40 Tryd.sizeOf40 rfl rfl | exact ld_is (ds := [_, _, _, _, _]) Tryd.isAgg40 Tryd.sizeOf40 rfl rfl)) ?_
 refine OD.still (wants_plain rfl) rfl (still_bld (pl := [(0, _)]) (ds := [_, _, _, _, _]) rfl Tryd.zeroValue40 Tryd.runUnderlying40 places40_Exc ⟨rfl, opd_const, trivial⟩ rfl rfl) ?_
 refine OD.bldS (pl := numD 0 [_, _]) (zvs := [.int .i64 0, .int .i64 0, .int .i64 0, .string ⟨#[]⟩, .string ⟨#[]⟩, .int .i64 0, .int .i64 0, .int .i64 0, .string ⟨#[]⟩, .string ⟨#[]⟩]) (ds := [_, _, _, _, _, _, _, _, _, _]) (wants_plain rfl) rfl rfl Tryd.zeroValue40 Tryd.runUnderlying25 Tryd.sizeOf40 rfl rfl (by kernel_rfl) ⟨rfl, ot, rfl, ot, trivial⟩ (by exact rfl) (fill_full (by exact rfl) (by exact rfl) (by exact rfl)) (fun b39 => ?_)
 refine OD.perm (perm_q11 (S1 := [⟨b39, 40, 2 * 5, List.flatMap cO ([idO, bareOp 11])⟩]) (A := [_, _, _])) ?_
 refine OD.giveL (t := 39) (Sq := [⟨b39, 40, 2 * 5, List.flatMap cO ([idO, bareOp 11])⟩]) lk (ownL_row (g := cO) (sz := 5) (e := 40) (ls := [idO, bareOp 11]) (Nat.le_refl _) (show 2 ≤ maxLen by decide)) (fm_len cO_len _) (perm_r11 (A := [_, _, _])) ?_
 refine OD.still (wants_plain rfl) rfl (still_r1 (mk := Op.load 40) rfl ot (by first | exact ld_blks (k := 1) (ds := [_, _, _, _, _]) rfl rfl Tryd.isAgg40 Tryd.sizeOf40 rfl rfl | exact ld_is (ds := [_, _, _, _, _]) Tryd.isAgg40 Tryd.sizeOf40 rfl rfl)) ?_
 refine OD.still (wants_plain rfl) rfl (still_r1 (mk := Op.load 40) rfl ot (by first | exact ld_blks (k := 2) (ds := [_, _, _, _, _]) rfl rfl Tryd.isAgg40 Tryd.sizeOf40 rfl rfl | exact ld_is (ds := [_, _, _, _, _]) Tryd.isAgg40 Tryd.sizeOf40 rfl rfl)) ?_
 refine OD.still (wants_plain rfl) rfl (still_bld (pl := [(0, _)]) (ds := [_, _, _, _, _]) rfl Tryd.zeroValue40 Tryd.runUnderlying40 places40_Exc ⟨rfl, opd_const, trivial⟩ rfl rfl) ?_
 refine OD.still (wants_plain rfl) rfl (still_r1 (mk := Op.load 40) rfl ot (by first | exact ld_blks (k := 2) (ds := [_, _, _, _, _]) rfl rfl Tryd.isAgg40 Tryd.sizeOf40 rfl rfl | exact ld_is (ds := [_, _, _, _, _]) Tryd.isAgg40 Tryd.sizeOf40 rfl rfl)) ?_
 refine OD.still (wants_plain rfl) rfl (still_bld (pl := [(0, _)]) (ds := [_, _, _, _, _]) rfl Tryd.zeroValue40 Tryd.runUnderlying40 places40_Exc ⟨rfl, opd_const, trivial⟩ rfl rfl) ?_
 refine OD.bldS (pl := numD 0 [_, _, _, _, _]) (zvs := [.int .i64 0, .int .i64 0, .int .i64 0, .string ⟨#[]⟩, .string ⟨#[]⟩, .int .i64 0, .int .i64 0, .int .i64 0, .string ⟨#[]⟩, .string ⟨#[]⟩, .int .i64 0, .int .i64 0, .int .i64 0, .string ⟨#[]⟩, .string ⟨#[]⟩, .int .i64 0, .int .i64 0, .int .i64 0, .string ⟨#[]⟩, .string ⟨#[]⟩, .int .i64 0, .int .i64 0, .int .i64 0, .string ⟨#[]⟩, .string ⟨#[]⟩]) (ds := [_, _, _, _, _, _, _, _, _, _, _, _, _, _, _, _, _, _, _, _, _, _, _, _, _]) (wants_plain rfl) rfl rfl Tryd.zeroValue40 Tryd.runUnderlying25 Tryd.sizeOf40 rfl rfl (by kernel_rfl) ⟨rfl, ot, rfl, ot, rfl, ot, rfl, ot, rfl, ot, trivial⟩ (by exact rfl) (fill_full (by exact rfl) (by exact rfl) (by exact rfl)) (fun b45 => ?_)
 refine OD.perm (perm_q11 (S1 := [⟨b45, 40, 5 * 5, List.flatMap cO ([idO, litO x, bareOp 8, litO x, bareOp 7])⟩]) (A := [_, _, _])) ?_
 refine OD.giveL (t := 45) (Sq := [⟨b45, 40, 5 * 5, List.flatMap cO ([idO, litO x, bareOp 8, litO x, bareOp 7])⟩]) lk (ownL_row (g := cO) (sz := 5) (e := 40) (ls := [idO, litO x, bareOp 8, litO x, bareOp 7]) (Nat.le_refl _) (show 5 ≤ maxLen by decide)) (fm_len cO_len _) (perm_r11 (A := [_, _, _])) ?_
 refine OD.still (wants_plain rfl) rfl (still_r1 (mk := Op.load 40) rfl ot (by first | exact ld_blks (k := 1) (ds := [_, _, _, _, _]) rfl rfl Tryd.isAgg40 Tryd.sizeOf40 rfl rfl | exact ld_is (ds := [_, _, _, _, _]) Tryd.isAgg40 Tryd.sizeOf40 rfl rfl)) ?_
 refine OD.still (wants_plain rfl) rfl (still_r1 (mk := Op.load 40) rfl ot (by first | exact ld_blks (k := 2) (ds := [_, _, _, _, _]) rfl rfl Tryd.isAgg40 Tryd.sizeOf40 rfl rfl | exact ld_is (ds := [_, _, _, _, _]) Tryd.isAgg40 Tryd.sizeOf40 rfl rfl)) ?_
 refine OD.still (wants_plain rfl) rfl (still_bld (pl := [(0, _)]) (ds := [_, _, _, _, _]) rfl Tryd.zeroValue40 Tryd.runUnderlying40 places40_Exc ⟨rfl, opd_const, trivial⟩ rfl rfl) ?_
 refine OD.still (wants_plain rfl) rfl (still_bld (pl := [(0, _)]) (ds := [_, _, _, _, _]) rfl Tryd.zeroValue40 Tryd.runUnderlying40 places40_Exc ⟨rfl, opd_const, trivial⟩ rfl rfl) ?_
 refine OD.still (wants_plain rfl) rfl (still_bld (pl := [(0, _)]) (ds := [_, _, _, _, _]) rfl Tryd.zeroValue40 Tryd.runUnderlying40 places40_Exc ⟨rfl, opd_const, trivial⟩ rfl rfl) ?_
 refine OD.bldS (pl := numD 0 [_, _, _, _, _]) (zvs := [.int .i64 0, .int .i64 0, .int .i64 0, .string ⟨#[]⟩, .string ⟨#[]⟩, .int .i64 0, .int .i64 0, .int .i64 0, .string ⟨#[]⟩, .string ⟨#[]⟩, .int .i64 0, .int .i64 0, .int .i64 0, .string ⟨#[]⟩, .string ⟨#[]⟩, .int .i64 0, .int .i64 0, .int .i64 0, .string ⟨#[]⟩, .string ⟨#[]⟩, .int .i64 0, .int .i64 0, .int .i64 0, .string ⟨#[]⟩, .string ⟨#[]⟩]) (ds := [_, _, _, _, _, _, _, _, _, _, _, _, _, _, _, _, _, _, _, _, _, _, _, _, _]) (wants_plain rfl) rfl rfl Tryd.zeroValue40 Tryd.runUnderlying25 Tryd.sizeOf40 rfl rfl (by kernel_rfl) ⟨rfl, ot, rfl, ot, rfl, ot, rfl, ot, rfl, ot, trivial⟩ (by exact rfl) (fill_full (by exact rfl) (by exact rfl) (by exact rfl)) (fun b51 => ?_)
 refine OD.perm (perm_q11 (S1 := [⟨b51, 40, 5 * 5, List.flatMap cO ([idO, litO x, bareOp 7, bareOp 5, bareOp 5])⟩]) (A := [_, _, _])) ?_
 refine OD.giveL (t := 51) (Sq := [⟨b51, 40, 5 * 5, List.flatMap cO ([idO, litO x, bareOp 7, bareOp 5, bareOp 5])⟩]) lk (ownL_row (g := cO) (sz := 5) (e := 40) (ls := [idO, litO x, bareOp 7, bareOp 5, bareOp 5]) (Nat.le_refl _) (show 5 ≤ maxLen by decide)) (fm_len cO_len _) (perm_r11 (A := [_, _, _])) ?_
 refine OD.bldS (pl := numD 0 [_, _, _, _, _, _, _]) (zvs := [.slice none 0 0, .slice none 0 0, .slice none 0 0, .slice none 0 0, .slice none 0 0, .slice none 0 0, .slice none 0 0]) (ds := [_, _, _, _, _, _, _]) (wants_plain rfl) rfl rfl Tryd.zeroValue25 Tryd.runUnderlying46 Tryd.sizeOf25 rfl rfl (by kernel_rfl) ⟨rfl, ot, rfl, ot, rfl, ot, rfl, ot, rfl, ot, rfl, ot, rfl, ot, trivial⟩ (by exact rfl) (fill_full (by exact rfl) (by exact rfl) (by exact rfl)) (fun b52 => ?_)
 refine OD.still (wants_plain rfl) rfl (still_as rfl ot) ?_
 refine OD.wk (Wk.as_ (n := 102) (l' := [(1, _), (5, _), (6, _), (8, _)]) (S' := [⟨b52, 25, 7, [_, _, _, _, _, _, _]⟩, ⟨b7, 40, 5, [_, _, _, _, _]⟩, ⟨b6, 40, 5, [_, _, _, _, _]⟩, ⟨b5, 40, 5, [_, _, _, _, _]⟩]) rfl rfl ⟨lk, lk, lk, lk, trivial⟩) ?_
 refine OD.nil ?_
 refine CD.seq ?_
 refine CD.region ?_
 refine OD.callP (wants_plain rfl) rfl rfl rfl Tryd.call10 (colsOf_vp) trivial ?_
 refine OD.still (wants_plain rfl) rfl (still_mv rfl ot) ?_
 refine OD.still (wants_plain rfl) rfl (still_mv rfl ot) ?_
 refine OD.still (wants_plain rfl) rfl (still_mv rfl ot) ?_
 refine OD.still (wants_plain rfl) rfl (still_r1 (mk := fun y => .call { callee := .builtin .len, args := #[y], argTypes := #[46] }) rfl ot (by first | exact len_list rfl Tryd.runUnderlying46 | exact len_row rfl Tryd.runUnderlying46)) ?_
 refine OD.callP (wants_plain rfl) rfl rfl rfl Tryd.call15 (hpk) ⟨ot, ot, trivial⟩ ?_
 refine OD.still (wants_plain rfl) rfl (still_r2 (mk := Op.indexAddr 46) rfl ot ot (by first | exact ix_list Tryd.runUnderlying46 Tryd.sizeOf25 (j := 1) rfl (by decide) | exact ix_row Tryd.runUnderlying46 Tryd.sizeOf25 (j := 1) rfl (by decide))) ?_
 refine OD.still (wants_plain rfl) rfl (still_r1 (mk := Op.load 25) rfl ot (by first | exact ld_blk (k := 0) rfl rfl Tryd.isAgg25 rfl | exact ld_blk (k := 1) rfl rfl Tryd.isAgg25 rfl | exact ld_blk (k := 2) rfl rfl Tryd.isAgg25 rfl | exact ld_blk (k := 3) rfl rfl Tryd.isAgg25 rfl | exact ld_i Tryd.isAgg25 rfl)) ?_
 refine OD.callP (wants_plain rfl) rfl rfl rfl Tryd.call16 (hbv) ⟨ot, ot, trivial⟩ ?_
 refine OD.still (wants_plain rfl) rfl (still_mv rfl ot) ?_
 refine OD.still (wants_plain rfl) rfl (still_extract rfl ot rfl) ?_
 refine OD.still (wants_plain rfl) rfl (still_extract rfl ot rfl) ?_
 refine OD.still (wants_plain rfl) rfl (still_extract rfl ot rfl) ?_
 refine OD.still (wants_plain rfl) rfl (still_as rfl ot) ?_
 refine OD.still (wants_plain rfl) rfl (still_as rfl ot) ?_
 refine OD.still (wants_plain rfl) rfl (still_as rfl ot) ?_
 refine OD.wk (Wk.as_ (n := 102) (l' := [(5, _), (6, _), (9, _), (10, _), (11, _)]) (S' := [⟨b52, 25, 7, [_, _, _, _, _, _, _]⟩, ⟨b7, 40, 5, [_, _, _, _, _]⟩, ⟨b6, 40, 5, [_, _, _, _, _]⟩, ⟨b5, 40, 5, [_, _, _, _, _]⟩]) rfl rfl ⟨lk, lk, lk, lk, lk, trivial⟩) ?_
 refine OD.nil ?_
 refine CD.seq ?_
 refine CD.draw (bks _) (by kernel_rfl) (fun _ h => h) ?_
 refine AD0.take (i := 1) rfl (by kernel_rfl) (by kernel_rfl) (by kernel_rfl) (by repeat (first | exact NP.body | apply NP.then | apply NP.cut | apply NP.inBlock | apply NP.round)) (wants_plain rfl) rfl (still_r1 (mk := Op.load 40) rfl ot (by first | exact ld_blks (k := 2) (ds := [_, _, _, _, _]) rfl rfl Tryd.isAgg40 Tryd.sizeOf40 rfl rfl | exact ld_is (ds := [_, _, _, _, _]) Tryd.isAgg40 Tryd.sizeOf40 rfl rfl)) (by first | exact trivial | exact safe_blk (k0 := 0) rfl rfl | exact safe_blk (k0 := 1) rfl rfl | exact safe_blk (k0 := 2) rfl rfl | exact safe_blk (k0 := 3) rfl rfl) ?_
 refine AD0.take (i := 2) rfl (by kernel_rfl) (by kernel_rfl) (by kernel_rfl) (by repeat (first | exact NP.body | apply NP.then | apply NP.cut | apply NP.inBlock | apply NP.round)) (wants_plain rfl) rfl (still_r1 (mk := Op.load 40) rfl ot (by first | exact ld_blks (k := 3) (ds := [_, _, _, _, _]) rfl rfl Tryd.isAgg40 Tryd.sizeOf40 rfl rfl | exact ld_is (ds := [_, _, _, _, _]) Tryd.isAgg40 Tryd.sizeOf40 rfl rfl)) (by first | exact trivial | exact safe_blk (k0 := 0) rfl rfl | exact safe_blk (k0 := 1) rfl rfl | exact safe_blk (k0 := 2) rfl rfl | exact safe_blk (k0 := 3) rfl rfl) ?_
 refine AD0.take (i := 3) rfl (by kernel_rfl) (by kernel_rfl) (by kernel_rfl) (by repeat (first | exact NP.body | apply NP.then | apply NP.cut | apply NP.inBlock | apply NP.round)) (wants_plain rfl) rfl (still_bld (pl := [(0, _)]) (ds := [_, _, _, _, _]) rfl Tryd.zeroValue40 Tryd.runUnderlying40 places40_Exc ⟨rfl, opd_const, trivial⟩ rfl rfl) (by exact trivial) ?_
 refine AD0.later rfl ?_
 refine AD.two (i := 0) (j := 4) (by kernel_rfl) ?_ ?_
 ·skip
  refine AStep.callP rfl (wants_plain rfl) rfl rfl rfl Tryd.call10 (colsOf_vp) trivial ?_
  refine AD.one (i := 4) (by kernel_rfl) ?_
  refine AStep.bldS (pl := numD 0 [_, _, _]) (zvs := [.int .i64 0, .int .i64 0, .int .i64 0, .string ⟨#[]⟩, .string ⟨#[]⟩, .int .i64 0, .int .i64 0, .int .i64 0, .string ⟨#[]⟩, .string ⟨#[]⟩, .int .i64 0, .int .i64 0, .int .i64 0, .string ⟨#[]⟩, .string ⟨#[]⟩]) (ds := [_, _, _, _, _, _, _, _, _, _, _, _, _, _, _]) rfl (wants_plain rfl) rfl rfl Tryd.zeroValue40 Tryd.runUnderlying25 Tryd.sizeOf40 rfl rfl (by kernel_rfl) ⟨rfl, ot, rfl, ot, rfl, ot, trivial⟩ (by exact rfl) (fill_full (by exact rfl) (by exact rfl) (by exact rfl)) (fun b71 => ?_)
  refine AD.give (k := 0) (t := 71) (sz := 5) (m := 3) rfl lk rfl rfl rfl (Nat.le_refl _) (by decide) ?_
  refine AD.one (i := 5) (by kernel_rfl) ?_
  refine AStep.callP rfl (wants_plain rfl) rfl rfl rfl Tryd.call16 (hbw) ⟨ot, ot, trivial⟩ ?_
  refine AD.take (i := 6) rfl (by kernel_rfl) (by kernel_rfl) (by kernel_rfl) (by repeat (first | exact NP.body | apply NP.then | apply NP.cut | apply NP.inBlock | apply NP.round)) (wants_plain rfl) rfl (still_mv rfl ot) (by exact trivial) (by intro h; cases h) ?_
  refine AD.take (i := 7) rfl (by kernel_rfl) (by kernel_rfl) (by kernel_rfl) (by repeat (first | exact NP.body | apply NP.then | apply NP.cut | apply NP.inBlock | apply NP.round)) (wants_plain rfl) rfl (still_extract rfl ot rfl) (by exact trivial) (by intro h; cases h) ?_
  refine AD.take (i := 8) rfl (by kernel_rfl) (by kernel_rfl) (by kernel_rfl) (by repeat (first | exact NP.body | apply NP.then | apply NP.cut | apply NP.inBlock | apply NP.round)) (wants_plain rfl) rfl (still_extract rfl ot rfl) (by exact trivial) (by intro h; cases h) ?_
  refine AD.take (i := 9) rfl (by kernel_rfl) (by kernel_rfl) (by kernel_rfl) (by repeat (first | exact NP.body | apply NP.then | apply NP.cut | apply NP.inBlock | apply NP.round)) (wants_plain rfl) rfl (still_extract rfl ot rfl) (by exact trivial) (by intro h; cases h) ?_
  refine AD.take (i := 10) rfl (by kernel_rfl) (by kernel_rfl) (by kernel_rfl) (by repeat (first | exact NP.body | apply NP.then | apply NP.cut | apply NP.inBlock | apply NP.round)) (wants_plain rfl) rfl (still_as rfl ot) (by exact trivial) (by intro h; cases h) ?_
  refine AD.take (i := 11) rfl (by kernel_rfl) (by kernel_rfl) (by kernel_rfl) (by repeat (first | exact NP.body | apply NP.then | apply NP.cut | apply NP.inBlock | apply NP.round)) (wants_plain rfl) rfl (still_as rfl ot) (by exact trivial) (by intro h; cases h) ?_
  refine AD.take (i := 12) rfl (by kernel_rfl) (by kernel_rfl) (by kernel_rfl) (by repeat (first | exact NP.body | apply NP.then | apply NP.cut | apply NP.inBlock | apply NP.round)) (wants_plain rfl) rfl (still_as rfl ot) (by exact trivial) (by intro h; cases h) ?_
  refine AD.wk (y := ⟨102, [(9, _), (10, _), (11, _), (12, _), (13, _), (14, _)], [⟨b52, 25, 7, [_, _, _, _, _, _, _]⟩, ⟨b7, 40, 5, [_, _, _, _, _]⟩, ⟨b6, 40, 5, [_, _, _, _, _]⟩, ⟨b5, 40, 5, [_, _, _, _, _]⟩]⟩) (Wk.as_ rfl rfl ⟨lk, lk, lk, lk, lk, lk, trivial⟩) rfl ?_
  refine AD.done (by kernel_rfl) ?_
  refine CD.seq ?_
  refine CD.region ?_
  refine OD.still (wants_plain rfl) rfl (still_mv rfl ot) ?_
  refine OD.still (wants_plain rfl) rfl (still_bin rfl ot opd_const bin_eql) ?_
  refine OD.still (wants_plain rfl) rfl (still_mv rfl ot) ?_
  refine OD.split (t := 78) lk (fun hg78 => ?_) (fun hg78 => ?_)
  ·have hg78' := hg78; (try simp only [V.cnd, ne_eq] at hg78')
   refine OD.still (wants_T rfl rfl rfl lk (by first | rfl | assumption)) rfl (still_mv rfl ot) ?_
   refine OD.still (wants_T rfl rfl rfl lk (by first | rfl | assumption)) rfl (still_bin rfl ot opd_const bin_eql) ?_
   refine OD.still (wants_plain rfl) rfl (still_pickT rfl ot (by first | rfl | assumption) ot) ?_
   refine OD.still (wants_plain rfl) rfl (still_mv rfl ot) ?_
   refine OD.split (t := 82) lk (fun hg82 => ?_) (fun hg82 => ?_)
   ·have hg82' := hg82; (try simp only [V.cnd, ne_eq] at hg82')
    refine OD.still (wants_T rfl rfl rfl lk (by first | rfl | assumption)) rfl (still_mv rfl ot) ?_
    refine OD.still (wants_T rfl rfl rfl lk (by first | rfl | assumption)) rfl (still_r1 (mk := fun y => .call { callee := .builtin .len, args := #[y], argTypes := #[47] }) rfl ot (by first | exact len_list rfl Tryd.runUnderlying47 | exact len_row rfl Tryd.runUnderlying47)) ?_
    refine OD.still (wants_T rfl rfl rfl lk (by first | rfl | assumption)) rfl (still_mv rfl ot) ?_
    refine OD.still (wants_T rfl rfl rfl lk (by first | rfl | assumption)) rfl (still_r1 (mk := fun y => .call { callee := .builtin .len, args := #[y], argTypes := #[47] }) rfl ot (by first | exact len_list rfl Tryd.runUnderlying47 | exact len_row rfl Tryd.runUnderlying47)) ?_
    refine OD.still (wants_T rfl rfl rfl lk (by first | rfl | assumption)) rfl (still_bin rfl ot ot (bin_add (wrap_i64 (by decide) (by decide)))) ?_
    refine OD.still (wants_T rfl rfl rfl lk (by first | rfl | assumption)) rfl (still_bin rfl ot opd_const bin_eql) ?_
    refine OD.still (wants_plain rfl) rfl (still_pickT rfl ot (by first | rfl | assumption) ot) ?_
    refine OD.still (wants_plain rfl) rfl (still_mv rfl ot) ?_
    refine OD.split (t := 90) lk (fun hg90 => ?_) (fun hg90 => ?_)
    ·have hg90' := hg90; (try simp only [V.cnd, ne_eq] at hg90')
     refine OD.still (wants_T rfl rfl rfl lk (by first | rfl | assumption)) rfl (still_mv rfl ot) ?_
     refine OD.still (wants_T rfl rfl rfl lk (by first | rfl | assumption)) rfl (still_r1 (mk := fun y => .call { callee := .builtin .len, args := #[y], argTypes := #[47] }) rfl ot (by first | exact len_list rfl Tryd.runUnderlying47 | exact len_row rfl Tryd.runUnderlying47)) ?_
     refine OD.still (wants_T rfl rfl rfl lk (by first | rfl | assumption)) rfl (still_bin rfl ot opd_const bin_gtr) ?_
     refine OD.still (wants_plain rfl) rfl (still_pickT rfl ot (by first | rfl | assumption) ot) ?_
     refine OD.still (wants_plain rfl) rfl (still_mv rfl ot) ?_
     refine OD.split (t := 95) lk (fun hg95 => ?_) (fun hg95 => ?_)
     ·have hg95' := hg95; (try simp only [V.cnd, ne_eq] at hg95')
      refine OD.still (wants_T rfl rfl rfl lk (by first | rfl | assumption)) rfl (still_mv rfl ot) ?_
      first | refine OD.still (wants_T rfl rfl rfl lk (by first | rfl | assumption)) rfl (still_ofBytes rfl ot Tryd.underlying47 Tryd.underlying5 Tryd.underlying9) ?_ | refine OD.still (wants_T rfl rfl rfl lk (by first | rfl | assumption)) rfl (still_ofBytesF rfl ot Tryd.underlying47 Tryd.underlying5 Tryd.underlying9) ?_
      refine OD.still (wants_T rfl rfl rfl lk (by first | rfl | assumption)) rfl (still_mv rfl ot) ?_
      first | refine OD.still (wants_T rfl rfl rfl lk (by first | rfl | assumption)) rfl (still_ofBytes rfl ot Tryd.underlying47 Tryd.underlying5 Tryd.underlying9) ?_ | refine OD.still (wants_T rfl rfl rfl lk (by first | rfl | assumption)) rfl (still_ofBytesF rfl ot Tryd.underlying47 Tryd.underlying5 Tryd.underlying9) ?_
      refine OD.still (wants_T rfl rfl rfl lk (by first | rfl | assumption)) rfl (still_bin rfl ot ot bin_seql) ?_
      refine OD.still (wants_plain rfl) rfl (still_pickT rfl ot (by first | rfl | assumption) ot) ?_
      refine OD.still (wants_plain rfl) rfl (still_as rfl ot) ?_
      refine OD.wk (Wk.as_ (n := 102) (l' := [(4, _)]) (S' := [⟨b52, 25, 7, [_, _, _, _, _, _, _]⟩, ⟨b7, 40, 5, [_, _, _, _, _]⟩, ⟨b6, 40, 5, [_, _, _, _, _]⟩, ⟨b5, 40, 5, [_, _, _, _, _]⟩]) rfl rfl ⟨lk, trivial⟩) ?_
      refine OD.nil ?_
      refine CD.ret ?_
      refine ⟨.inr rfl, _, [], List.nil_sublist _, ret_one Tryd.results7 (res_tmp (Nat.le_of_ble_eq_true rfl) lk), ?_⟩
      first | exact ⟨rfl, rfl⟩ | (refine ⟨vb ?_, rfl⟩; simp)
     ·exact absurd hg95 (by rw [hkl]; decide)
    ·exact absurd hg90 (by simp)
   ·exact absurd hg82 (by simp)
  ·exact absurd hg78 (by simp)
 ·skip
  refine AStep.bldS (pl := numD 0 [_, _, _]) (zvs := [.int .i64 0, .int .i64 0, .int .i64 0, .string ⟨#[]⟩, .string ⟨#[]⟩, .int .i64 0, .int .i64 0, .int .i64 0, .string ⟨#[]⟩, .string ⟨#[]⟩, .int .i64 0, .int .i64 0, .int .i64 0, .string ⟨#[]⟩, .string ⟨#[]⟩]) (ds := [_, _, _, _, _, _, _, _, _, _, _, _, _, _, _]) rfl (wants_plain rfl) rfl rfl Tryd.zeroValue40 Tryd.runUnderlying25 Tryd.sizeOf40 rfl rfl (by kernel_rfl) ⟨rfl, ot, rfl, ot, rfl, ot, trivial⟩ (by exact rfl) (fill_full (by exact rfl) (by exact rfl) (by exact rfl)) (fun b71 => ?_)
  refine AD.give (k := 0) (t := 71) (sz := 5) (m := 3) rfl lk rfl rfl rfl (Nat.le_refl _) (by decide) ?_
  refine AD.one (i := 0) (by kernel_rfl) ?_
  refine AStep.callP rfl (wants_plain rfl) rfl rfl rfl Tryd.call10 (colsOf_vp) trivial ?_
  refine AD.one (i := 5) (by kernel_rfl) ?_
  refine AStep.callP rfl (wants_plain rfl) rfl rfl rfl Tryd.call16 (hbw) ⟨ot, ot, trivial⟩ ?_
  refine AD.take (i := 6) rfl (by kernel_rfl) (by kernel_rfl) (by kernel_rfl) (by repeat (first | exact NP.body | apply NP.then | apply NP.cut | apply NP.inBlock | apply NP.round)) (wants_plain rfl) rfl (still_mv rfl ot) (by exact trivial) (by intro h; cases h) ?_
  refine AD.take (i := 7) rfl (by kernel_rfl) (by kernel_rfl) (by kernel_rfl) (by repeat (first | exact NP.body | apply NP.then | apply NP.cut | apply NP.inBlock | apply NP.round)) (wants_plain rfl) rfl (still_extract rfl ot rfl) (by exact trivial) (by intro h; cases h) ?_
  refine AD.take (i := 8) rfl (by kernel_rfl) (by kernel_rfl) (by kernel_rfl) (by repeat (first | exact NP.body | apply NP.then | apply NP.cut | apply NP.inBlock | apply NP.round)) (wants_plain rfl) rfl (still_extract rfl ot rfl) (by exact trivial) (by intro h; cases h) ?_
  refine AD.take (i := 9) rfl (by kernel_rfl) (by kernel_rfl) (by kernel_rfl) (by repeat (first | exact NP.body | apply NP.then | apply NP.cut | apply NP.inBlock | apply NP.round)) (wants_plain rfl) rfl (still_extract rfl ot rfl) (by exact trivial) (by intro h; cases h) ?_
  refine AD.take (i := 10) rfl (by kernel_rfl) (by kernel_rfl) (by kernel_rfl) (by repeat (first | exact NP.body | apply NP.then | apply NP.cut | apply NP.inBlock | apply NP.round)) (wants_plain rfl) rfl (still_as rfl ot) (by exact trivial) (by intro h; cases h) ?_
  refine AD.take (i := 11) rfl (by kernel_rfl) (by kernel_rfl) (by kernel_rfl) (by repeat (first | exact NP.body | apply NP.then | apply NP.cut | apply NP.inBlock | apply NP.round)) (wants_plain rfl) rfl (still_as rfl ot) (by exact trivial) (by intro h; cases h) ?_
  refine AD.take (i := 12) rfl (by kernel_rfl) (by kernel_rfl) (by kernel_rfl) (by repeat (first | exact NP.body | apply NP.then | apply NP.cut | apply NP.inBlock | apply NP.round)) (wants_plain rfl) rfl (still_as rfl ot) (by exact trivial) (by intro h; cases h) ?_
  refine AD.wk (y := ⟨102, [(9, _), (10, _), (11, _), (12, _), (13, _), (14, _)], [⟨b52, 25, 7, [_, _, _, _, _, _, _]⟩, ⟨b7, 40, 5, [_, _, _, _, _]⟩, ⟨b6, 40, 5, [_, _, _, _, _]⟩, ⟨b5, 40, 5, [_, _, _, _, _]⟩]⟩) (Wk.as_ rfl rfl ⟨lk, lk, lk, lk, lk, lk, trivial⟩) rfl ?_
  refine AD.done (by kernel_rfl) ?_
  refine CD.seq ?_
  refine CD.region ?_
  refine OD.still (wants_plain rfl) rfl (still_mv rfl ot) ?_
  refine OD.still (wants_plain rfl) rfl (still_bin rfl ot opd_const bin_eql) ?_
  refine OD.still (wants_plain rfl) rfl (still_mv rfl ot) ?_
  refine OD.split (t := 78) lk (fun hg78 => ?_) (fun hg78 => ?_)
  ·have hg78' := hg78; (try simp only [V.cnd, ne_eq] at hg78')
   refine OD.still (wants_T rfl rfl rfl lk (by first | rfl | assumption)) rfl (still_mv rfl ot) ?_
   refine OD.still (wants_T rfl rfl rfl lk (by first | rfl | assumption)) rfl (still_bin rfl ot opd_const bin_eql) ?_
   refine OD.still (wants_plain rfl) rfl (still_pickT rfl ot (by first | rfl | assumption) ot) ?_
   refine OD.still (wants_plain rfl) rfl (still_mv rfl ot) ?_
   refine OD.split (t := 82) lk (fun hg82 => ?_) (fun hg82 => ?_)
   ·have hg82' := hg82; (try simp only [V.cnd, ne_eq] at hg82')
    refine OD.still (wants_T rfl rfl rfl lk (by first | rfl | assumption)) rfl (still_mv rfl ot) ?_
    refine OD.still (wants_T rfl rfl rfl lk (by first | rfl | assumption)) rfl (still_r1 (mk := fun y => .call { callee := .builtin .len, args := #[y], argTypes := #[47] }) rfl ot (by first | exact len_list rfl Tryd.runUnderlying47 | exact len_row rfl Tryd.runUnderlying47)) ?_
    refine OD.still (wants_T rfl rfl rfl lk (by first | rfl | assumption)) rfl (still_mv rfl ot) ?_
    refine OD.still (wants_T rfl rfl rfl lk (by first | rfl | assumption)) rfl (still_r1 (mk := fun y => .call { callee := .builtin .len, args := #[y], argTypes := #[47] }) rfl ot (by first | exact len_list rfl Tryd.runUnderlying47 | exact len_row rfl Tryd.runUnderlying47)) ?_
    refine OD.still (wants_T rfl rfl rfl lk (by first | rfl | assumption)) rfl (still_bin rfl ot ot (bin_add (wrap_i64 (by decide) (by decide)))) ?_
    refine OD.still (wants_T rfl rfl rfl lk (by first | rfl | assumption)) rfl (still_bin rfl ot opd_const bin_eql) ?_
    refine OD.still (wants_plain rfl) rfl (still_pickT rfl ot (by first | rfl | assumption) ot) ?_
    refine OD.still (wants_plain rfl) rfl (still_mv rfl ot) ?_
    refine OD.split (t := 90) lk (fun hg90 => ?_) (fun hg90 => ?_)
    ·have hg90' := hg90; (try simp only [V.cnd, ne_eq] at hg90')
     refine OD.still (wants_T rfl rfl rfl lk (by first | rfl | assumption)) rfl (still_mv rfl ot) ?_
     refine OD.still (wants_T rfl rfl rfl lk (by first | rfl | assumption)) rfl (still_r1 (mk := fun y => .call { callee := .builtin .len, args := #[y], argTypes := #[47] }) rfl ot (by first | exact len_list rfl Tryd.runUnderlying47 | exact len_row rfl Tryd.runUnderlying47)) ?_
     refine OD.still (wants_T rfl rfl rfl lk (by first | rfl | assumption)) rfl (still_bin rfl ot opd_const bin_gtr) ?_
     refine OD.still (wants_plain rfl) rfl (still_pickT rfl ot (by first | rfl | assumption) ot) ?_
     refine OD.still (wants_plain rfl) rfl (still_mv rfl ot) ?_
     refine OD.split (t := 95) lk (fun hg95 => ?_) (fun hg95 => ?_)
     ·have hg95' := hg95; (try simp only [V.cnd, ne_eq] at hg95')
      refine OD.still (wants_T rfl rfl rfl lk (by first | rfl | assumption)) rfl (still_mv rfl ot) ?_
      first | refine OD.still (wants_T rfl rfl rfl lk (by first | rfl | assumption)) rfl (still_ofBytes rfl ot Tryd.underlying47 Tryd.underlying5 Tryd.underlying9) ?_ | refine OD.still (wants_T rfl rfl rfl lk (by first | rfl | assumption)) rfl (still_ofBytesF rfl ot Tryd.underlying47 Tryd.underlying5 Tryd.underlying9) ?_
      refine OD.still (wants_T rfl rfl rfl lk (by first | rfl | assumption)) rfl (still_mv rfl ot) ?_
      first | refine OD.still (wants_T rfl rfl rfl lk (by first | rfl | assumption)) rfl (still_ofBytes rfl ot Tryd.underlying47 Tryd.underlying5 Tryd.underlying9) ?_ | refine OD.still (wants_T rfl rfl rfl lk (by first | rfl | assumption)) rfl (still_ofBytesF rfl ot Tryd.underlying47 Tryd.underlying5 Tryd.underlying9) ?_
      refine OD.still (wants_T rfl rfl rfl lk (by first | rfl | assumption)) rfl (still_bin rfl ot ot bin_seql) ?_
      refine OD.still (wants_plain rfl) rfl (still_pickT rfl ot (by first | rfl | assumption) ot) ?_
      refine OD.still (wants_plain rfl) rfl (still_as rfl ot) ?_
      refine OD.wk (Wk.as_ (n := 102) (l' := [(4, _)]) (S' := [⟨b52, 25, 7, [_, _, _, _, _, _, _]⟩, ⟨b7, 40, 5, [_, _, _, _, _]⟩, ⟨b6, 40, 5, [_, _, _, _, _]⟩, ⟨b5, 40, 5, [_, _, _, _, _]⟩]) rfl rfl ⟨lk, trivial⟩) ?_
      refine OD.nil ?_
      refine CD.ret ?_
      refine ⟨.inr rfl, _, [], List.nil_sublist _, ret_one Tryd.results7 (res_tmp (Nat.le_of_ble_eq_true rfl) lk), ?_⟩
      first | exact ⟨rfl, rfl⟩ | (refine ⟨vb ?_, rfl⟩; simp)
     ·exact absurd hg95 (by rw [hkl]; decide)
    ·exact absurd hg90 (by simp)
   ·exact absurd hg82 (by simp)
  ·exact absurd hg78 (by simp)

set_option maxHeartbeats 4000000 in
set_option maxRecDepth 100000 in
theorem none2_vp {m : Int} (hm : (3, marksC) ∈ G) (hw : (0, wordsC) ∈ G) (ht : (2, typesC) ∈ G) (hG : (1, [Value.int .i64 m]) ∈ G) (n : Int) (n1 : -9223372036854775808 ≤ n) (n2 : n ≤ 9223372036854775807) (which : Int) (which1 : -9223372036854775808 ≤ which) (which2 : which ≤ 9223372036854775807) (hk : pickedF which 7 = 2) : VP Tryd.prog G 7 [.v (.int .i64 n), .v (.int .i64 which)] (.v (.bool true)) := by
 refine VC.body Tryd.func7 rfl Tryd.ntmps7 (Nat.le_of_ble_eq_true rfl) fun X0 w0 S00 => ?_
 have hxb := pickedF_bd n (show (1 : Int) ≤ 100 by decide)
 have hbv := Bounds_at hm hw ht hG [idO, colN, bareOp 7] (fine_cons fine_id (fine_cons fine_nc (fine_cons (fine_bare 7) fine_nil)))
 rw [none2 hxb.1] at hbv
 unfold bdD bytesL at hbv
 have hbw := Bounds_at hm hw ht hG [idO, litO (pickedF n 100), bareOp 6] (fine_cons fine_id (fine_cons (fine_lit (by omega) (by omega)) (fine_cons (fine_bare 6) fine_nil)))
 rw [one0 hxb.1] at hbw
 unfold bdD bytesL at hbw
 have hkl := key_len (pickedF n 100)
 have hpn := (picked_vp G n 100 n1 n2 (by decide))
 have hnv := number_vp (G := G) (pickedF n 100)
 unfold cV at hnv
 have hpk := (picked_vp G which 7 which1 which2 (by decide))
 rw [hk] at hpk
 generalize (pickedF n 100) = x at *
 refine CD.seq ?_
 refine CD.region ?_
 refine OD.still (wants_plain rfl) rfl (still_as rfl opd_const) ?_
 refine OD.wk (Wk.as_ (n := 102) (l' := [(0, _), (1, _)]) (S' := []) rfl rfl ⟨lk, lk, trivial⟩) ?_
 refine OD.nil ?_
 refine CD.seq ?_
 refine CD.region ?_
 refine OD.still (wants_plain rfl) rfl (still_mv rfl ot) ?_
 refine OD.callP (wants_plain rfl) rfl rfl rfl Tryd.call15 (hpn) ⟨ot, opd_const, trivial⟩ ?_
 refine OD.callP (wants_plain rfl) rfl rfl rfl Tryd.call19 (hnv) ⟨ot, trivial⟩ ?_
 refine OD.still (wants_plain rfl) rfl (still_bld (pl := [(0, _), (1, _)]) (ds := [_, _, _, _, _]) rfl Tryd.zeroValue40 Tryd.runUnderlying40 places40_Exc ⟨rfl, opd_const, rfl, ot, trivial⟩ rfl rfl) ?_
 refine OD.alloc (ds := [_, _, _, _, _]) (wants_plain rfl) rfl rfl Tryd.zeroValue40 rfl (fun b5 => ?_)
 refine OD.store (k := 0) (cs' := [_, _, _, _, _]) (wants_plain rfl) rfl rfl ot rfl rfl ot rfl rfl Tryd.sizeOf40 rfl rfl rfl ?_
 refine OD.wk (Wk.as_ (n := 102) (l' := [(1, _), (5, _)]) (S' := [⟨b5, 40, 5, [_, _, _, _, _]⟩]) rfl rfl ⟨lk, lk, trivial⟩) ?_
 refine OD.nil ?_
 refine CD.seq ?_
 refine CD.region ?_
 refine OD.still (wants_plain rfl) rfl (still_bld (pl := [(0, _), (2, _)]) (ds := [_, _, _, _, _]) rfl Tryd.zeroValue40 Tryd.runUnderlying40 places40_Exc ⟨rfl, opd_const, rfl, opd_const, trivial⟩ rfl rfl) ?_
 refine OD.alloc (ds := [_, _, _, _, _]) (wants_plain rfl) rfl rfl Tryd.zeroValue40 rfl (fun b6 => ?_)
 refine OD.store (k := 0) (cs' := [_, _, _, _, _]) (wants_plain rfl) rfl rfl ot rfl rfl ot rfl rfl Tryd.sizeOf40 rfl rfl rfl ?_
 refine OD.wk (Wk.as_ (n := 102) (l' := [(1, _), (5, _), (6, _)]) (S' := [⟨b6, 40, 5, [_, _, _, _, _]⟩, ⟨b5, 40, 5, [_, _, _, _, _]⟩]) rfl rfl ⟨lk, lk, lk, trivial⟩) ?_
 refine OD.nil ?_
 refine CD.seq ?_
 refine CD.region ?_
 refine OD.still (wants_plain rfl) rfl (still_bld (pl := [(0, _), (2, _)]) (ds := [_, _, _, _, _]) rfl Tryd.zeroValue40 Tryd.runUnderlying40 places40_Exc ⟨rfl, opd_const, rfl, opd_const, trivial⟩ rfl rfl) ?_
 refine OD.alloc (ds := [_, _, _, _, _]) (wants_plain rfl) rfl rfl Tryd.zeroValue40 rfl (fun b7 => ?_)
 refine OD.store (k := 0) (cs' := [_, _, _, _, _]) (wants_plain rfl) rfl rfl ot rfl rfl ot rfl rfl Tryd.sizeOf40 rfl rfl rfl ?_
 refine OD.wk (Wk.as_ (n := 102) (l' := [(1, _), (5, _), (6, _), (7, _)]) (S' := [⟨b7, 40, 5, [_, _, _, _, _]⟩, ⟨b6, 40, 5, [_, _, _, _, _]⟩, ⟨b5, 40, 5, [_, _, _, _, _]⟩]) rfl rfl ⟨lk, lk, lk, lk, trivial⟩) ?_
 refine OD.nil ?_
 refine CD.seq ?_
 refine CD.region ?_
 refine OD.still (wants_plain rfl) rfl (still_r1 (mk := Op.load 40) rfl ot (by first | exact ld_blks (k := 0) (ds := [_, _, _, _, _]) rfl rfl Tryd.isAgg40 Tryd.sizeOf40 rfl rfl | exact ld_is (ds := [_, _, _, _, _]) Tryd.isAgg40 Tryd.sizeOf40 rfl rfl)) ?_
 refine OD.still (wants_plain rfl) rfl (still_r1 (mk := Op.load 40) rfl ot (by first | exact ld_blks (k := 2) (ds := [_, _, _, _, _]) rfl rfl Tryd.isAgg40 Tryd.sizeOf40 rfl rfl | exact ld_is (ds := [_, _, _, _, _]) Tryd.isAgg40 Tryd.sizeOf40 rfl rfl)) ?_
 refine OD.still (wants_plain rfl) rfl (still_bld (pl := [(0, _)]) (ds := [_, _, _, _, _]) rfl Tryd.zeroValue40 Tryd.runUnderlying40 places40_Exc ⟨rfl, opd_const, trivial⟩ rfl rfl) ?_
 refine OD.bldS (pl := numD 0 [_, _, _]) (zvs := [.int .i64 0, .int .i64 0, .int .i64 0, .string ⟨#[]⟩, .string ⟨#[]⟩, .int .i64 0, .int .i64 0, .int .i64 0, .string ⟨#[]⟩, .string ⟨#[]⟩, .int .i64 0, .int .i64 0, .int .i64 0, .string ⟨#[]⟩, .string ⟨#[]⟩]) (ds := [_, _, _, _, _, _, _, _, _, _, _, _, _, _, _]) (wants_plain rfl) rfl rfl Tryd.zeroValue40 Tryd.runUnderlying25 Tryd.sizeOf40 rfl rfl (by kernel_rfl) ⟨rfl, ot, rfl, ot, rfl, ot, trivial⟩ (by exact rfl) (fill_full (by exact rfl) (by exact rfl) (by exact rfl)) (fun b24 => ?_)
 refine OD.perm (perm_q11 (S1 := [⟨b24, 40, 3 * 5, List.flatMap cO ([colN, litO x, bareOp 6])⟩]) (A := [_, _, _])) ?_
 refine OD.giveL (t := 24) (Sq := [⟨b24, 40, 3 * 5, List.flatMap cO ([colN, litO x, bareOp 6])⟩]) lk (ownL_row (g := cO) (sz := 5) (e := 40) (ls := [colN, litO x, bareOp 6]) (Nat.le_refl _) (show 3 ≤ maxLen by decide)) (fm_len cO_len _) (perm_r11 (A := [_, _, _])) ?_
 refine OD.still (wants_plain rfl) rfl (still_r1 (mk := Op.load 40) rfl ot (by first | exact ld_blks (k := 1) (ds := [_, _, _, _, _]) rfl rfl Tryd.isAgg40 Tryd.sizeOf40 rfl rfl | exact ld_is (ds := [_, _, _, _, _]) Tryd.isAgg40 Tryd.sizeOf40 rfl rfl)) ?_
 refine OD.still (wants_plain rfl) rfl (still_bld (pl := [(0, _)]) (ds := [_, _, _, _, _]) rfl Tryd.zeroValue40 Tryd.runUnderlying40 places40_Exc ⟨rfl, opd_const, trivial⟩ rfl rfl) ?_
 refine OD.still (wants_plain rfl) rfl (still_bld (pl := [(0, _)]) (ds := [_, _, _, _, _]) rfl Tryd.zeroValue40 Tryd.runUnderlying40 places40_Exc ⟨rfl, opd_const, trivial⟩ rfl rfl) ?_
 refine OD.bldS (pl := numD 0 [_, _, _]) (zvs := [.int .i64 0, .int .i64 0, .int .i64 0, .string ⟨#[]⟩, .string ⟨#[]⟩, .int .i64 0, .int .i64 0, .int .i64 0, .string ⟨#[]⟩, .string ⟨#[]⟩, .int .i64 0, .int .i64 0, .int .i64 0, .string ⟨#[]⟩, .string ⟨#[]⟩]) (ds := [_, _, _, _, _, _, _, _, _, _, _, _, _, _, _]) (wants_plain rfl) rfl rfl Tryd.zeroValue40 Tryd.runUnderlying25 Tryd.sizeOf40 rfl rfl (by kernel_rfl) ⟨rfl, ot, rfl, ot, rfl, ot, trivial⟩ (by exact rfl) (fill_full (by exact rfl) (by exact rfl) (by exact rfl)) (fun b28 => ?_)
 refine OD.perm (perm_q11 (S1 := [⟨b28, 40, 3 * 5, List.flatMap cO ([idO, nulO, bareOp 6])⟩]) (A := [_, _, _])) ?_
 refine OD.giveL (t := 28) (Sq := [⟨b28, 40, 3 * 5, List.flatMap cO ([idO, nulO, bareOp 6])⟩]) lk (ownL_row (g := cO) (sz := 5) (e := 40) (ls := [idO, nulO, bareOp 6]) (Nat.le_refl _) (show 3 ≤ maxLen by decide)) (fm_len cO_len _) (perm_r11 (A := [_, _, _])) ?_
 refine OD.still (wants_plain rfl) rfl (still_r1 (mk := Op.load 40) rfl ot (by first | exact ld_blks (k := 1) (ds := [_, _, _, _, _]) rfl rfl Tryd.isAgg40 Tryd.sizeOf40 rfl rfl | exact ld_is (ds := [_, _, _, _, _]) Tryd.isAgg40 Tryd.sizeOf40 rfl rfl)) ?_
 refine OD.still (wants_plain rfl) rfl (still_r1 (mk := Op.load 40) rfl ot (by first | exact ld_blks (k := 0) (ds := [_, _, _, _, _]) rfl rfl Tryd.isAgg40 Tryd.sizeOf40 rfl rfl | exact ld_is (ds := [_, _, _, _, _]) Tryd.isAgg40 Tryd.sizeOf40 rfl rfl)) ?_
 refine OD.still (wants_plain rfl) rfl (still_bld (pl := [(0, _)]) (ds := [_, _, _, _, _]) rfl Tryd.zeroValue40 Tryd.runUnderlying40 places40_Exc ⟨rfl, opd_const, trivial⟩ rfl rfl) ?_
 refine OD.bldS (pl := numD 0 [_, _, _]) (zvs := [.int .i64 0, .int .i64 0, .int .i64 0, .string ⟨#[]⟩, .string ⟨#[]⟩, .int .i64 0, .int .i64 0, .int .i64 0, .string ⟨#[]⟩, .string ⟨#[]⟩, .int .i64 0, .int .i64 0, .int .i64 0, .string ⟨#[]⟩, .string ⟨#[]⟩]) (ds := [_, _, _, _, _, _, _, _, _, _, _, _, _, _, _]) (wants_plain rfl) rfl rfl Tryd.zeroValue40 Tryd.runUnderlying25 Tryd.sizeOf40 rfl rfl (by kernel_rfl) ⟨rfl, ot, rfl, ot, rfl, ot, trivial⟩ (by exact rfl) (fill_full (by exact rfl) (by exact rfl) (by exact rfl)) (fun b32 => ?_)
 refine OD.perm (perm_q11 (S1 := [⟨b32, 40, 3 * 5, List.flatMap cO ([idO, colN, bareOp 7])⟩]) (A := [_, _, _])) ?_
 refine OD.giveL (t := 32) (Sq := [⟨b32, 40, 3 * 5, List.flatMap cO ([idO, colN, bareOp 7])⟩]) lk (ownL_row (g := cO) (sz := 5) (e := 40) (ls := [idO, colN, bareOp 7]) (Nat.le_refl _) (show 3 ≤ maxLen by decide)) (fm_len cO_len _) (perm_r11 (A := [_, _, _])) ?_
 refine OD.still (wants_plain rfl) rfl (still_r1 (mk := Op.load 40) rfl ot (by first | exact ld_blks (k := 2) (ds := [_, _, _, _, _]) rfl rfl Tryd.isAgg40 Tryd.sizeOf40 rfl rfl | exact ld_is (ds := [_, _, _, _, _]) Tryd.isAgg40 Tryd.sizeOf40 rfl rfl)) ?_
 refine OD.still (wants_plain rfl) rfl (still_r1 (mk := Op.load 40) rfl ot (by first | exact ld_blks (k := 2) (ds := [_, _, _, _, _]) rfl rfl Tryd.isAgg40 Tryd.sizeOf40 rfl rfl | exact ld_is (ds := [_, _, _, _, _]) Tryd.isAgg40 Tryd.sizeOf40 rfl rfl)) ?_
 refine OD.still (wants_plain rfl) rfl (still_bld (pl := [(0, _)]) (ds := [_, _, _, _, _]) rfl Tryd.zeroValue40 Tryd.runUnderlying40 places40_Exc ⟨rfl, opd_const, trivial⟩ rfl rfl) ?_
 refine OD.bldS (pl := numD 0 [_, _, _]) (zvs := [.int .i64 0, .int .i64 0, .int .i64 0, .string ⟨#[]⟩, .string ⟨#[]⟩, .int .i64 0, .int .i64 0, .int .i64 0, .string ⟨#[]⟩, .string ⟨#[]⟩, .int .i64 0, .int .i64 0, .int .i64 0, .string ⟨#[]⟩, .string ⟨#[]⟩]) (ds := [_, _, _, _, _, _, _, _, _, _, _, _, _, _, _]) (wants_plain rfl) rfl rfl Tryd.zeroValue40 Tryd.runUnderlying25 Tryd.sizeOf40 rfl rfl (by kernel_rfl) ⟨rfl, ot, rfl, ot, rfl, ot, trivial⟩ (by exact rfl) (fill_full (by exact rfl) (by exact rfl) (by exact rfl)) (fun b36 => ?_)
 refine OD.perm (perm_q11 (S1 := [⟨b36, 40, 3 * 5, List.flatMap cO ([litO x, litO x, bareOp 7])⟩]) (A := [_, _, _])) ?_
 refine OD.giveL (t := 36) (Sq := [⟨b36, 40, 3 * 5, List.flatMap cO ([litO x, litO x, bareOp 7])⟩]) lk (ownL_row (g := cO) (sz := 5) (e := 40) (ls := [litO x, litO x, bareOp 7]) (Nat.le_refl _) (show 3 ≤ maxLen by decide)) (fm_len cO_len _) (perm_r11 (A := [_, _, _])) ?_
 refine OD.still (wants_plain rfl) rfl (still_r1 (mk := Op.load 40) rfl ot (by first | exact ld_blks (k := 1) (ds := [_, _, _, _, _]) rfl rfl Tryd.isAgg40 Tryd.sizeOf40 rfl rfl | exact ld_is (ds := [_, _, _, _, _]) Tryd.isAgg40 Tryd.sizeOf40 rfl rfl)) ?_
 refine OD.still (wants_plain rfl) rfl (still_bld (pl := [(0, _)]) (ds := [_, _, _, _, _]) rfl Tryd.zeroValue40 Tryd.runUnderlying40 places40_Exc ⟨rfl, opd_const, trivial⟩ rfl rfl) ?_
 refine OD.bldS (pl := numD 0 [_, _]) (zvs := [.int .i64 0, .int .i64 0, .int .i64 0, .string ⟨#[]⟩, .string ⟨#[]⟩, .int .i64 0, .int .i64 0, .int .i64 0, .string ⟨#[]⟩, .string ⟨#[]⟩]) (ds := [_, _, _, _, _, _, _, _, _, _]) (wants_plain rfl) rfl rfl Tryd.zeroValue40 Tryd.runUnderlying25 Tryd.sizeOf40 rfl rfl (by kernel_rfl) ⟨rfl, ot, rfl, ot, trivial⟩ (by exact rfl) (fill_full (by exact rfl) (by exact rfl) (by exact rfl)) (fun b39 => ?_)
 refine OD.perm (perm_q11 (S1 := [⟨b39, 40, 2 * 5, List.flatMap cO ([idO, bareOp 11])⟩]) (A := [_, _, _])) ?_
 refine OD.giveL (t := 39) (Sq := [⟨b39, 40, 2 * 5, List.flatMap cO ([idO, bareOp 11])⟩]) lk (ownL_row (g := cO) (sz := 5) (e := 40) (ls := [idO, bareOp 11]) (Nat.le_refl _) (show 2 ≤ maxLen by decide)) (fm_len cO_len _) (perm_r11 (A := [_, _, _])) ?_
 refine OD.still (wants_plain rfl) rfl (still_r1 (mk := Op.load 40) rfl ot (by first | exact ld_blks (k := 1) (ds := [_, _, _, _, _]) rfl rfl Tryd.isAgg40 Tryd.sizeOf40 rfl rfl | exact ld_is (ds := [_, _, _, _, _]) Tryd.isAgg40 Tryd.sizeOf40 rfl rfl)) ?_
 refine OD.still (wants_plain rfl) rfl (still_r1 (mk := Op.load 40) rfl ot (by first | exact ld_blks (k := 2) (ds := [_, _, _, _, _]) rfl rfl Tryd.isAgg40 Tryd.sizeOf40 rfl rfl | exact ld_is (ds := [_, _, _, _, _]) Tryd.isAgg40 Tryd.sizeOf40 rfl rfl)) ?_
 refine OD.still (wants_plain rfl) rfl (still_bld (pl := [(0, _)]) (ds := [_, _, _, _, _]) rfl Tryd.zeroValue40 Tryd.runUnderlying40 places40_Exc ⟨rfl, opd_const, trivial⟩ rfl rfl) ?_
 refine OD.still (wants_plain rfl) rfl (still_r1 (mk := Op.load 40) rfl ot (by first | exact ld_blks (k := 2) (ds := [_, _, _, _, _]) rfl rfl Tryd.isAgg40 Tryd.sizeOf40 rfl rfl | exact ld_is (ds := [_, _, _, _, _]) Tryd.isAgg40 Tryd.sizeOf40 rfl rfl)) ?_
 refine OD.still (wants_plain rfl) rfl (still_bld (pl := [(0, _)]) (ds := [_, _, _, _, _]) rfl Tryd.zeroValue40 Tryd.runUnderlying40 places40_Exc ⟨rfl, opd_const, trivial⟩ rfl rfl) ?_
 refine OD.bldS (pl := numD 0 [_, _, _, _, _]) (zvs := [.int .i64 0, .int .i64 0, .int .i64 0, .string ⟨#[]⟩, .string ⟨#[]⟩, .int .i64 0, .int .i64 0, .int .i64 0, .string ⟨#[]⟩, .string ⟨#[]⟩, .int .i64 0, .int .i64 0, .int .i64 0, .string ⟨#[]⟩, .string ⟨#[]⟩, .int .i64 0, .int .i64 0, .int .i64 0, .string ⟨#[]⟩, .string ⟨#[]⟩, .int .i64 0, .int .i64 0, .int .i64 0, .string ⟨#[]⟩, .string ⟨#[]⟩]) (ds := [_, _, _, _, _, _, _, _, _, _, _, _, _, _, _, _, _, _, _, _, _, _, _, _, _]) (wants_plain rfl) rfl rfl Tryd.zeroValue40 Tryd.runUnderlying25 Tryd.sizeOf40 rfl rfl (by kernel_rfl) ⟨rfl, ot, rfl, ot, rfl, ot, rfl, ot, rfl, ot, trivial⟩ (by exact rfl) (fill_full (by exact rfl) (by exact rfl) (by exact rfl)) (fun b45 => ?_)
 refine OD.perm (perm_q11 (S1 := [⟨b45, 40, 5 * 5, List.flatMap cO ([idO, litO x, bareOp 8, litO x, bareOp 7])⟩]) (A := [_, _, _])) ?_
 refine OD.giveL (t := 45) (Sq := [⟨b45, 40, 5 * 5, List.flatMap cO ([idO, litO x, bareOp 8, litO x, bareOp 7])⟩]) lk (ownL_row (g := cO) (sz := 5) (e := 40) (ls := [idO, litO x, bareOp 8, litO x, bareOp 7]) (Nat.le_refl _) (show 5 ≤ maxLen by decide)) (fm_len cO_len _) (perm_r11 (A := [_, _, _])) ?_
 refine OD.still (wants_plain rfl) rfl (still_r1 (mk := Op.load 40) rfl ot (by first | exact ld_blks (k := 1) (ds := [_, _, _, _, _]) rfl rfl Tryd.isAgg40 Tryd.sizeOf40 rfl rfl | exact ld_is (ds := [_, _, _, _, _]) Tryd.isAgg40 Tryd.sizeOf40 rfl rfl)) ?_
 refine OD.still (wants_plain rfl) rfl (still_r1 (mk := Op.load 40) rfl ot (by first | exact ld_blks (k := 2) (ds := [_, _, _, _, _]) rfl rfl Tryd.isAgg40 Tryd.sizeOf40 rfl rfl | exact ld_is (ds := [_, _, _, _, _]) Tryd.isAgg40 Tryd.sizeOf40 rfl rfl)) ?_
 refine OD.still (wants_plain rfl) rfl (still_bld (pl := [(0, _)]) (ds := [_, _, _, _, _]) rfl Tryd.zeroValue40 Tryd.runUnderlying40 places40_Exc ⟨rfl, opd_const, trivial⟩ rfl rfl) ?_
 refine OD.still (wants_plain rfl) rfl (still_bld (pl := [(0, _)]) (ds := [_, _, _, _, _]) rfl Tryd.zeroValue40 Tryd.runUnderlying40 places40_Exc ⟨rfl, opd_const, trivial⟩ rfl rfl) ?_
 refine OD.still (wants_plain rfl) rfl (still_bld (pl := [(0, _)]) (ds := [_, _, _, _, _]) rfl Tryd.zeroValue40 Tryd.runUnderlying40 places40_Exc ⟨rfl, opd_const, trivial⟩ rfl rfl) ?_
 refine OD.bldS (pl := numD 0 [_, _, _, _, _]) (zvs := [.int .i64 0, .int .i64 0, .int .i64 0, .string ⟨#[]⟩, .string ⟨#[]⟩, .int .i64 0, .int .i64 0, .int .i64 0, .string ⟨#[]⟩, .string ⟨#[]⟩, .int .i64 0, .int .i64 0, .int .i64 0, .string ⟨#[]⟩, .string ⟨#[]⟩, .int .i64 0, .int .i64 0, .int .i64 0, .string ⟨#[]⟩, .string ⟨#[]⟩, .int .i64 0, .int .i64 0, .int .i64 0, .string ⟨#[]⟩, .string ⟨#[]⟩]) (ds := [_, _, _, _, _, _, _, _, _, _, _, _, _, _, _, _, _, _, _, _, _, _, _, _, _]) (wants_plain rfl) rfl rfl Tryd.zeroValue40 Tryd.runUnderlying25 Tryd.sizeOf40 rfl rfl (by kernel_rfl) ⟨rfl, ot, rfl, ot, rfl, ot, rfl, ot, rfl, ot, trivial⟩ (by exact rfl) (fill_full (by exact rfl) (by exact rfl) (by exact rfl)) (fun b51 => ?_)
 refine OD.perm (perm_q11 (S1 := [⟨b51, 40, 5 * 5, List.flatMap cO ([idO, litO x, bareOp 7, bareOp 5, bareOp 5])⟩]) (A := [_, _, _])) ?_
 refine OD.giveL (t := 51) (Sq := [⟨b51, 40, 5 * 5, List.flatMap cO ([idO, litO x, bareOp 7, bareOp 5, bareOp 5])⟩]) lk (ownL_row (g := cO) (sz := 5) (e := 40) (ls := [idO, litO x, bareOp 7, bareOp 5, bareOp 5]) (Nat.le_refl _) (show 5 ≤ maxLen by decide)) (fm_len cO_len _) (perm_r11 (A := [_, _, _])) ?_
 refine OD.bldS (pl := numD 0 [_, _, _, _, _, _, _]) (zvs := [.slice none 0 0, .slice none 0 0, .slice none 0 0, .slice none 0 0, .slice none 0 0, .slice none 0 0, .slice none 0 0]) (ds := [_, _, _, _, _, _, _]) (wants_plain rfl) rfl rfl Tryd.zeroValue25 Tryd.runUnderlying46 Tryd.sizeOf25 rfl rfl (by kernel_rfl) ⟨rfl, ot, rfl, ot, rfl, ot, rfl, ot, rfl, ot, rfl, ot, rfl, ot, trivial⟩ (by exact rfl) (fill_full (by exact rfl) (by exact rfl) (by exact rfl)) (fun b52 => ?_)
 refine OD.still (wants_plain rfl) rfl (still_as rfl ot) ?_
 refine OD.wk (Wk.as_ (n := 102) (l' := [(1, _), (5, _), (6, _), (8, _)]) (S' := [⟨b52, 25, 7, [_, _, _, _, _, _, _]⟩, ⟨b7, 40, 5, [_, _, _, _, _]⟩, ⟨b6, 40, 5, [_, _, _, _, _]⟩, ⟨b5, 40, 5, [_, _, _, _, _]⟩]) rfl rfl ⟨lk, lk, lk, lk, trivial⟩) ?_
 refine OD.nil ?_
 refine CD.seq ?_
 refine CD.region ?_
 refine OD.callP (wants_plain rfl) rfl rfl rfl Tryd.call10 (colsOf_vp) trivial ?_
 refine OD.still (wants_plain rfl) rfl (still_mv rfl ot) ?_
 refine OD.still (wants_plain rfl) rfl (still_mv rfl ot) ?_
 refine OD.still (wants_plain rfl) rfl (still_mv rfl ot) ?_
 refine OD.still (wants_plain rfl) rfl (still_r1 (mk := fun y => .call { callee := .builtin .len, args := #[y], argTypes := #[46] }) rfl ot (by first | exact len_list rfl Tryd.runUnderlying46 | exact len_row rfl Tryd.runUnderlying46)) ?_
 refine OD.callP (wants_plain rfl) rfl rfl rfl Tryd.call15 (hpk) ⟨ot, ot, trivial⟩ ?_
 refine OD.still (wants_plain rfl) rfl (still_r2 (mk := Op.indexAddr 46) rfl ot ot (by first | exact ix_list Tryd.runUnderlying46 Tryd.sizeOf25 (j := 2) rfl (by decide) | exact ix_row Tryd.runUnderlying46 Tryd.sizeOf25 (j := 2) rfl (by decide))) ?_
 refine OD.still (wants_plain rfl) rfl (still_r1 (mk := Op.load 25) rfl ot (by first | exact ld_blk (k := 0) rfl rfl Tryd.isAgg25 rfl | exact ld_blk (k := 1) rfl rfl Tryd.isAgg25 rfl | exact ld_blk (k := 2) rfl rfl Tryd.isAgg25 rfl | exact ld_blk (k := 3) rfl rfl Tryd.isAgg25 rfl | exact ld_i Tryd.isAgg25 rfl)) ?_
 refine OD.callP (wants_plain rfl) rfl rfl rfl Tryd.call16 (hbv) ⟨ot, ot, trivial⟩ ?_
 refine OD.still (wants_plain rfl) rfl (still_mv rfl ot) ?_
 refine OD.still (wants_plain rfl) rfl (still_extract rfl ot rfl) ?_
 refine OD.still (wants_plain rfl) rfl (still_extract rfl ot rfl) ?_
 refine OD.still (wants_plain rfl) rfl (still_extract rfl ot rfl) ?_
 refine OD.still (wants_plain rfl) rfl (still_as rfl ot) ?_
 refine OD.still (wants_plain rfl) rfl (still_as rfl ot) ?_
 refine OD.still (wants_plain rfl) rfl (still_as rfl ot) ?_
 refine OD.wk (Wk.as_ (n := 102) (l' := [(5, _), (6, _), (9, _), (10, _), (11, _)]) (S' := [⟨b52, 25, 7, [_, _, _, _, _, _, _]⟩, ⟨b7, 40, 5, [_, _, _, _, _]⟩, ⟨b6, 40, 5, [_, _, _, _, _]⟩, ⟨b5, 40, 5, [_, _, _, _, _]⟩]) rfl rfl ⟨lk, lk, lk, lk, lk, trivial⟩) ?_
 refine OD.nil ?_
 refine CD.seq ?_
 refine CD.draw (bks _) (by kernel_rfl) (fun _ h => h) ?_
 refine AD0.take (i := 1) rfl (by kernel_rfl) (by kernel_rfl) (by kernel_rfl) (by repeat (first | exact NP.body | apply NP.then | apply NP.cut | apply NP.inBlock | apply NP.round)) (wants_plain rfl) rfl (still_r1 (mk := Op.load 40) rfl ot (by first | exact ld_blks (k := 2) (ds := [_, _, _, _, _]) rfl rfl Tryd.isAgg40 Tryd.sizeOf40 rfl rfl | exact ld_is (ds := [_, _, _, _, _]) Tryd.isAgg40 Tryd.sizeOf40 rfl rfl)) (by first | exact trivial | exact safe_blk (k0 := 0) rfl rfl | exact safe_blk (k0 := 1) rfl rfl | exact safe_blk (k0 := 2) rfl rfl | exact safe_blk (k0 := 3) rfl rfl) ?_
 refine AD0.take (i := 2) rfl (by kernel_rfl) (by kernel_rfl) (by kernel_rfl) (by repeat (first | exact NP.body | apply NP.then | apply NP.cut | apply NP.inBlock | apply NP.round)) (wants_plain rfl) rfl (still_r1 (mk := Op.load 40) rfl ot (by first | exact ld_blks (k := 3) (ds := [_, _, _, _, _]) rfl rfl Tryd.isAgg40 Tryd.sizeOf40 rfl rfl | exact ld_is (ds := [_, _, _, _, _]) Tryd.isAgg40 Tryd.sizeOf40 rfl rfl)) (by first | exact trivial | exact safe_blk (k0 := 0) rfl rfl | exact safe_blk (k0 := 1) rfl rfl | exact safe_blk (k0 := 2) rfl rfl | exact safe_blk (k0 := 3) rfl rfl) ?_
 refine AD0.take (i := 3) rfl (by kernel_rfl) (by kernel_rfl) (by kernel_rfl) (by repeat (first | exact NP.body | apply NP.then | apply NP.cut | apply NP.inBlock | apply NP.round)) (wants_plain rfl) rfl (still_bld (pl := [(0, _)]) (ds := [_, _, _, _, _]) rfl Tryd.zeroValue40 Tryd.runUnderlying40 places40_Exc ⟨rfl, opd_const, trivial⟩ rfl rfl) (by exact trivial) ?_
 refine AD0.later rfl ?_
 refine AD.two (i := 0) (j := 4) (by kernel_rfl) ?_ ?_
 ·skip
  refine AStep.callP rfl (wants_plain rfl) rfl rfl rfl Tryd.call10 (colsOf_vp) trivial ?_
  refine AD.one (i := 4) (by kernel_rfl) ?_
  refine AStep.bldS (pl := numD 0 [_, _, _]) (zvs := [.int .i64 0, .int .i64 0, .int .i64 0, .string ⟨#[]⟩, .string ⟨#[]⟩, .int .i64 0, .int .i64 0, .int .i64 0, .string ⟨#[]⟩, .string ⟨#[]⟩, .int .i64 0, .int .i64 0, .int .i64 0, .string ⟨#[]⟩, .string ⟨#[]⟩]) (ds := [_, _, _, _, _, _, _, _, _, _, _, _, _, _, _]) rfl (wants_plain rfl) rfl rfl Tryd.zeroValue40 Tryd.runUnderlying25 Tryd.sizeOf40 rfl rfl (by kernel_rfl) ⟨rfl, ot, rfl, ot, rfl, ot, trivial⟩ (by exact rfl) (fill_full (by exact rfl) (by exact rfl) (by exact rfl)) (fun b71 => ?_)
  refine AD.give (k := 0) (t := 71) (sz := 5) (m := 3) rfl lk rfl rfl rfl (Nat.le_refl _) (by decide) ?_
  refine AD.one (i := 5) (by kernel_rfl) ?_
  refine AStep.callP rfl (wants_plain rfl) rfl rfl rfl Tryd.call16 (hbw) ⟨ot, ot, trivial⟩ ?_
  refine AD.take (i := 6) rfl (by kernel_rfl) (by kernel_rfl) (by kernel_rfl) (by repeat (first | exact NP.body | apply NP.then | apply NP.cut | apply NP.inBlock | apply NP.round)) (wants_plain rfl) rfl (still_mv rfl ot) (by exact trivial) (by intro h; cases h) ?_
  refine AD.take (i := 7) rfl (by kernel_rfl) (by kernel_rfl) (by kernel_rfl) (by repeat (first | exact NP.body | apply NP.then | apply NP.cut | apply NP.inBlock | apply NP.round)) (wants_plain rfl) rfl (still_extract rfl ot rfl) (by exact trivial) (by intro h; cases h) ?_
  refine AD.take (i := 8) rfl (by kernel_rfl) (by kernel_rfl) (by kernel_rfl) (by repeat (first | exact NP.body | apply NP.then | apply NP.cut | apply NP.inBlock | apply NP.round)) (wants_plain rfl) rfl (still_extract rfl ot rfl) (by exact trivial) (by intro h; cases h) ?_
  refine AD.take (i := 9) rfl (by kernel_rfl) (by kernel_rfl) (by kernel_rfl) (by repeat (first | exact NP.body | apply NP.then | apply NP.cut | apply NP.inBlock | apply NP.round)) (wants_plain rfl) rfl (still_extract rfl ot rfl) (by exact trivial) (by intro h; cases h) ?_
  refine AD.take (i := 10) rfl (by kernel_rfl) (by kernel_rfl) (by kernel_rfl) (by repeat (first | exact NP.body | apply NP.then | apply NP.cut | apply NP.inBlock | apply NP.round)) (wants_plain rfl) rfl (still_as rfl ot) (by exact trivial) (by intro h; cases h) ?_
  refine AD.take (i := 11) rfl (by kernel_rfl) (by kernel_rfl) (by kernel_rfl) (by repeat (first | exact NP.body | apply NP.then | apply NP.cut | apply NP.inBlock | apply NP.round)) (wants_plain rfl) rfl (still_as rfl ot) (by exact trivial) (by intro h; cases h) ?_
  refine AD.take (i := 12) rfl (by kernel_rfl) (by kernel_rfl) (by kernel_rfl) (by repeat (first | exact NP.body | apply NP.then | apply NP.cut | apply NP.inBlock | apply NP.round)) (wants_plain rfl) rfl (still_as rfl ot) (by exact trivial) (by intro h; cases h) ?_
  refine AD.wk (y := ⟨102, [(9, _), (10, _), (11, _), (12, _), (13, _), (14, _)], [⟨b52, 25, 7, [_, _, _, _, _, _, _]⟩, ⟨b7, 40, 5, [_, _, _, _, _]⟩, ⟨b6, 40, 5, [_, _, _, _, _]⟩, ⟨b5, 40, 5, [_, _, _, _, _]⟩]⟩) (Wk.as_ rfl rfl ⟨lk, lk, lk, lk, lk, lk, trivial⟩) rfl ?_
  refine AD.done (by kernel_rfl) ?_
  refine CD.seq ?_
  refine CD.region ?_
  refine OD.still (wants_plain rfl) rfl (still_mv rfl ot) ?_
  refine OD.still (wants_plain rfl) rfl (still_bin rfl ot opd_const bin_eql) ?_
  refine OD.still (wants_plain rfl) rfl (still_mv rfl ot) ?_
  refine OD.split (t := 78) lk (fun hg78 => ?_) (fun hg78 => ?_)
  ·have hg78' := hg78; (try simp only [V.cnd, ne_eq] at hg78')
   refine OD.still (wants_T rfl rfl rfl lk (by first | rfl | assumption)) rfl (still_mv rfl ot) ?_
   refine OD.still (wants_T rfl rfl rfl lk (by first | rfl | assumption)) rfl (still_bin rfl ot opd_const bin_eql) ?_
   refine OD.still (wants_plain rfl) rfl (still_pickT rfl ot (by first | rfl | assumption) ot) ?_
   refine OD.still (wants_plain rfl) rfl (still_mv rfl ot) ?_
   refine OD.split (t := 82) lk (fun hg82 => ?_) (fun hg82 => ?_)
   ·have hg82' := hg82; (try simp only [V.cnd, ne_eq] at hg82')
    refine OD.still (wants_T rfl rfl rfl lk (by first | rfl | assumption)) rfl (still_mv rfl ot) ?_
    refine OD.still (wants_T rfl rfl rfl lk (by first | rfl | assumption)) rfl (still_r1 (mk := fun y => .call { callee := .builtin .len, args := #[y], argTypes := #[47] }) rfl ot (by first | exact len_list rfl Tryd.runUnderlying47 | exact len_row rfl Tryd.runUnderlying47)) ?_
    refine OD.still (wants_T rfl rfl rfl lk (by first | rfl | assumption)) rfl (still_mv rfl ot) ?_
    refine OD.still (wants_T rfl rfl rfl lk (by first | rfl | assumption)) rfl (still_r1 (mk := fun y => .call { callee := .builtin .len, args := #[y], argTypes := #[47] }) rfl ot (by first | exact len_list rfl Tryd.runUnderlying47 | exact len_row rfl Tryd.runUnderlying47)) ?_
    refine OD.still (wants_T rfl rfl rfl lk (by first | rfl | assumption)) rfl (still_bin rfl ot ot (bin_add (wrap_i64 (by decide) (by decide)))) ?_
    refine OD.still (wants_T rfl rfl rfl lk (by first | rfl | assumption)) rfl (still_bin rfl ot opd_const bin_eql) ?_
    refine OD.still (wants_plain rfl) rfl (still_pickT rfl ot (by first | rfl | assumption) ot) ?_
    refine OD.still (wants_plain rfl) rfl (still_mv rfl ot) ?_
    refine OD.split (t := 90) lk (fun hg90 => ?_) (fun hg90 => ?_)
    ·have hg90' := hg90; (try simp only [V.cnd, ne_eq] at hg90')
     refine OD.still (wants_T rfl rfl rfl lk (by first | rfl | assumption)) rfl (still_mv rfl ot) ?_
     refine OD.still (wants_T rfl rfl rfl lk (by first | rfl | assumption)) rfl (still_r1 (mk := fun y => .call { callee := .builtin .len, args := #[y], argTypes := #[47] }) rfl ot (by first | exact len_list rfl Tryd.runUnderlying47 | exact len_row rfl Tryd.runUnderlying47)) ?_
     refine OD.still (wants_T rfl rfl rfl lk (by first | rfl | assumption)) rfl (still_bin rfl ot opd_const bin_gtr) ?_
     refine OD.still (wants_plain rfl) rfl (still_pickT rfl ot (by first | rfl | assumption) ot) ?_
     refine OD.still (wants_plain rfl) rfl (still_mv rfl ot) ?_
     refine OD.split (t := 95) lk (fun hg95 => ?_) (fun hg95 => ?_)
     ·have hg95' := hg95; (try simp only [V.cnd, ne_eq] at hg95')
      refine OD.still (wants_T rfl rfl rfl lk (by first | rfl | assumption)) rfl (still_mv rfl ot) ?_
      first | refine OD.still (wants_T rfl rfl rfl lk (by first | rfl | assumption)) rfl (still_ofBytes rfl ot Tryd.underlying47 Tryd.underlying5 Tryd.underlying9) ?_ | refine OD.still (wants_T rfl rfl rfl lk (by first | rfl | assumption)) rfl (still_ofBytesF rfl ot Tryd.underlying47 Tryd.underlying5 Tryd.underlying9) ?_
      refine OD.still (wants_T rfl rfl rfl lk (by first | rfl | assumption)) rfl (still_mv rfl ot) ?_
      first | refine OD.still (wants_T rfl rfl rfl lk (by first | rfl | assumption)) rfl (still_ofBytes rfl ot Tryd.underlying47 Tryd.underlying5 Tryd.underlying9) ?_ | refine OD.still (wants_T rfl rfl rfl lk (by first | rfl | assumption)) rfl (still_ofBytesF rfl ot Tryd.underlying47 Tryd.underlying5 Tryd.underlying9) ?_
      refine OD.still (wants_T rfl rfl rfl lk (by first | rfl | assumption)) rfl (still_bin rfl ot ot bin_seql) ?_
      refine OD.still (wants_plain rfl) rfl (still_pickT rfl ot (by first | rfl | assumption) ot) ?_
      refine OD.still (wants_plain rfl) rfl (still_as rfl ot) ?_
      refine OD.wk (Wk.as_ (n := 102) (l' := [(4, _)]) (S' := [⟨b52, 25, 7, [_, _, _, _, _, _, _]⟩, ⟨b7, 40, 5, [_, _, _, _, _]⟩, ⟨b6, 40, 5, [_, _, _, _, _]⟩, ⟨b5, 40, 5, [_, _, _, _, _]⟩]) rfl rfl ⟨lk, trivial⟩) ?_
      refine OD.nil ?_
      refine CD.ret ?_
      refine ⟨.inr rfl, _, [], List.nil_sublist _, ret_one Tryd.results7 (res_tmp (Nat.le_of_ble_eq_true rfl) lk), ?_⟩
      first | exact ⟨rfl, rfl⟩ | (refine ⟨vb ?_, rfl⟩; simp)
     ·exact absurd hg95 (by rw [hkl]; decide)
    ·exact absurd hg90 (by simp)
   ·exact absurd hg82 (by simp)
  ·exact absurd hg78 (by simp)
 ·skip
  refine AStep.bldS (pl := numD 0 [_, _, _]) (zvs := [.int .i64 0, .int .i64 0, .int .i64 0, .string ⟨#[]⟩, .string ⟨#[]⟩, .int .i64 0, .int .i64 0, .int .i64 0, .string ⟨#[]⟩, .string ⟨#[]⟩, .int .i64 0, .int .i64 0, .int .i64 0, .string ⟨#[]⟩, .string ⟨#[]⟩]) (ds := [_, _, _, _, _, _, _, _, _, _, _, _, _, _, _]) rfl (wants_plain rfl) rfl rfl Tryd.zeroValue40 Tryd.runUnderlying25 Tryd.sizeOf40 rfl rfl (by kernel_rfl) ⟨rfl, ot, rfl, ot, rfl, ot, trivial⟩ (by exact rfl) (fill_full (by exact rfl) (by exact rfl) (by exact rfl)) (fun b71 => ?_)
  refine AD.give (k := 0) (t := 71) (sz := 5) (m := 3) rfl lk rfl rfl rfl (Nat.le_refl _) (by decide) ?_
  refine AD.one (i := 0) (by kernel_rfl) ?_
  refine AStep.callP rfl (wants_plain rfl) rfl rfl rfl Tryd.call10 (colsOf_vp) trivial ?_
  refine AD.one (i := 5) (by kernel_rfl) ?_
  refine AStep.callP rfl (wants_plain rfl) rfl rfl rfl Tryd.call16 (hbw) ⟨ot, ot, trivial⟩ ?_
  refine AD.take (i := 6) rfl (by kernel_rfl) (by kernel_rfl) (by kernel_rfl) (by repeat (first | exact NP.body | apply NP.then | apply NP.cut | apply NP.inBlock | apply NP.round)) (wants_plain rfl) rfl (still_mv rfl ot) (by exact trivial) (by intro h; cases h) ?_
  refine AD.take (i := 7) rfl (by kernel_rfl) (by kernel_rfl) (by kernel_rfl) (by repeat (first | exact NP.body | apply NP.then | apply NP.cut | apply NP.inBlock | apply NP.round)) (wants_plain rfl) rfl (still_extract rfl ot rfl) (by exact trivial) (by intro h; cases h) ?_
  refine AD.take (i := 8) rfl (by kernel_rfl) (by kernel_rfl) (by kernel_rfl) (by repeat (first | exact NP.body | apply NP.then | apply NP.cut | apply NP.inBlock | apply NP.round)) (wants_plain rfl) rfl (still_extract rfl ot rfl) (by exact trivial) (by intro h; cases h) ?_
  refine AD.take (i := 9) rfl (by kernel_rfl) (by kernel_rfl) (by kernel_rfl) (by repeat (first | exact NP.body | apply NP.then | apply NP.cut | apply NP.inBlock | apply NP.round)) (wants_plain rfl) rfl (still_extract rfl ot rfl) (by exact trivial) (by intro h; cases h) ?_
  refine AD.take (i := 10) rfl (by kernel_rfl) (by kernel_rfl) (by kernel_rfl) (by repeat (first | exact NP.body | apply NP.then | apply NP.cut | apply NP.inBlock | apply NP.round)) (wants_plain rfl) rfl (still_as rfl ot) (by exact trivial) (by intro h; cases h) ?_
  refine AD.take (i := 11) rfl (by kernel_rfl) (by kernel_rfl) (by kernel_rfl) (by repeat (first | exact NP.body | apply NP.then | apply NP.cut | apply NP.inBlock | apply NP.round)) (wants_plain rfl) rfl (still_as rfl ot) (by exact trivial) (by intro h; cases h) ?_
  refine AD.take (i := 12) rfl (by kernel_rfl) (by kernel_rfl) (by kernel_rfl) (by repeat (first | exact NP.body | apply NP.then | apply NP.cut | apply NP.inBlock | apply NP.round)) (wants_plain rfl) rfl (still_as rfl ot) (by exact trivial) (by intro h; cases h) ?_
  refine AD.wk (y := ⟨102, [(9, _), (10, _), (11, _), (12, _), (13, _), (14, _)], [⟨b52, 25, 7, [_, _, _, _, _, _, _]⟩, ⟨b7, 40, 5, [_, _, _, _, _]⟩, ⟨b6, 40, 5, [_, _, _, _, _]⟩, ⟨b5, 40, 5, [_, _, _, _, _]⟩]⟩) (Wk.as_ rfl rfl ⟨lk, lk, lk, lk, lk, lk, trivial⟩) rfl ?_
  refine AD.done (by kernel_rfl) ?_
  refine CD.seq ?_
  refine CD.region ?_
  refine OD.still (wants_plain rfl) rfl (still_mv rfl ot) ?_
  refine OD.still (wants_plain rfl) rfl (still_bin rfl ot opd_const bin_eql) ?_
  refine OD.still (wants_plain rfl) rfl (still_mv rfl ot) ?_
  refine OD.split (t := 78) lk (fun hg78 => ?_) (fun hg78 => ?_)
  ·have hg78' := hg78; (try simp only [V.cnd, ne_eq] at hg78')
   refine OD.still (wants_T rfl rfl rfl lk (by first | rfl | assumption)) rfl (still_mv rfl ot) ?_
   refine OD.still (wants_T rfl rfl rfl lk (by first | rfl | assumption)) rfl (still_bin rfl ot opd_const bin_eql) ?_
   refine OD.still (wants_plain rfl) rfl (still_pickT rfl ot (by first | rfl | assumption) ot) ?_
   refine OD.still (wants_plain rfl) rfl (still_mv rfl ot) ?_
   refine OD.split (t := 82) lk (fun hg82 => ?_) (fun hg82 => ?_)
   ·have hg82' := hg82; (try simp only [V.cnd, ne_eq] at hg82')
    refine OD.still (wants_T rfl rfl rfl lk (by first | rfl | assumption)) rfl (still_mv rfl ot) ?_
    refine OD.still (wants_T rfl rfl rfl lk (by first | rfl | assumption)) rfl (still_r1 (mk := fun y => .call { callee := .builtin .len, args := #[y], argTypes := #[47] }) rfl ot (by first | exact len_list rfl Tryd.runUnderlying47 | exact len_row rfl Tryd.runUnderlying47)) ?_
    refine OD.still (wants_T rfl rfl rfl lk (by first | rfl | assumption)) rfl (still_mv rfl ot) ?_
    refine OD.still (wants_T rfl rfl rfl lk (by first | rfl | assumption)) rfl (still_r1 (mk := fun y => .call { callee := .builtin .len, args := #[y], argTypes := #[47] }) rfl ot (by first | exact len_list rfl Tryd.runUnderlying47 | exact len_row rfl Tryd.runUnderlying47)) ?_
    refine OD.still (wants_T rfl rfl rfl lk (by first | rfl | assumption)) rfl (still_bin rfl ot ot (bin_add (wrap_i64 (by decide) (by decide)))) ?_
    refine OD.still (wants_T rfl rfl rfl lk (by first | rfl | assumption)) rfl (still_bin rfl ot opd_const bin_eql) ?_
    refine OD.still (wants_plain rfl) rfl (still_pickT rfl ot (by first | rfl | assumption) ot) ?_
    refine OD.still (wants_plain rfl) rfl (still_mv rfl ot) ?_
    refine OD.split (t := 90) lk (fun hg90 => ?_) (fun hg90 => ?_)
    ·have hg90' := hg90; (try simp only [V.cnd, ne_eq] at hg90')
     refine OD.still (wants_T rfl rfl rfl lk (by first | rfl | assumption)) rfl (still_mv rfl ot) ?_
     refine OD.still (wants_T rfl rfl rfl lk (by first | rfl | assumption)) rfl (still_r1 (mk := fun y => .call { callee := .builtin .len, args := #[y], argTypes := #[47] }) rfl ot (by first | exact len_list rfl Tryd.runUnderlying47 | exact len_row rfl Tryd.runUnderlying47)) ?_
     refine OD.still (wants_T rfl rfl rfl lk (by first | rfl | assumption)) rfl (still_bin rfl ot opd_const bin_gtr) ?_
     refine OD.still (wants_plain rfl) rfl (still_pickT rfl ot (by first | rfl | assumption) ot) ?_
     refine OD.still (wants_plain rfl) rfl (still_mv rfl ot) ?_
     refine OD.split (t := 95) lk (fun hg95 => ?_) (fun hg95 => ?_)
     ·have hg95' := hg95; (try simp only [V.cnd, ne_eq] at hg95')
      refine OD.still (wants_T rfl rfl rfl lk (by first | rfl | assumption)) rfl (still_mv rfl ot) ?_
      first | refine OD.still (wants_T rfl rfl rfl lk (by first | rfl | assumption)) rfl (still_ofBytes rfl ot Tryd.underlying47 Tryd.underlying5 Tryd.underlying9) ?_ | refine OD.still (wants_T rfl rfl rfl lk (by first | rfl | assumption)) rfl (still_ofBytesF rfl ot Tryd.underlying47 Tryd.underlying5 Tryd.underlying9) ?_
      refine OD.still (wants_T rfl rfl rfl lk (by first | rfl | assumption)) rfl (still_mv rfl ot) ?_
      first | refine OD.still (wants_T rfl rfl rfl lk (by first | rfl | assumption)) rfl (still_ofBytes rfl ot Tryd.underlying47 Tryd.underlying5 Tryd.underlying9) ?_ | refine OD.still (wants_T rfl rfl rfl lk (by first | rfl | assumption)) rfl (still_ofBytesF rfl ot Tryd.underlying47 Tryd.underlying5 Tryd.underlying9) ?_
      refine OD.still (wants_T rfl rfl rfl lk (by first | rfl | assumption)) rfl (still_bin rfl ot ot bin_seql) ?_
      refine OD.still (wants_plain rfl) rfl (still_pickT rfl ot (by first | rfl | assumption) ot) ?_
      refine OD.still (wants_plain rfl) rfl (still_as rfl ot) ?_
      refine OD.wk (Wk.as_ (n := 102) (l' := [(4, _)]) (S' := [⟨b52, 25, 7, [_, _, _, _, _, _, _]⟩, ⟨b7, 40, 5, [_, _, _, _, _]⟩, ⟨b6, 40, 5, [_, _, _, _, _]⟩, ⟨b5, 40, 5, [_, _, _, _, _]⟩]) rfl rfl ⟨lk, trivial⟩) ?_
      refine OD.nil ?_
      refine CD.ret ?_
      refine ⟨.inr rfl, _, [], List.nil_sublist _, ret_one Tryd.results7 (res_tmp (Nat.le_of_ble_eq_true rfl) lk), ?_⟩
      first | exact ⟨rfl, rfl⟩ | (refine ⟨vb ?_, rfl⟩; simp)
     ·exact absurd hg95 (by rw [hkl]; decide)
    ·exact absurd hg90 (by simp)
   ·exact absurd hg82 (by simp)
  ·exact absurd hg78 (by simp)

set_option maxHeartbeats 4000000 in
set_option maxRecDepth 100000 in
theorem none3_vp {m : Int} (hm : (3, marksC) ∈ G) (hw : (0, wordsC) ∈ G) (ht : (2, typesC) ∈ G) (hG : (1, [Value.int .i64 m]) ∈ G) (n : Int) (n1 : -9223372036854775808 ≤ n) (n2 : n ≤ 9223372036854775807) (which : Int) (which1 : -9223372036854775808 ≤ which) (which2 : which ≤ 9223372036854775807) (hk : pickedF which 7 = 3) : VP Tryd.prog G 7 [.v (.int .i64 n), .v (.int .i64 which)] (.v (.bool true)) := by
 refine VC.body Tryd.func7 rfl Tryd.ntmps7 (Nat.le_of_ble_eq_true rfl) fun X0 w0 S00 => ?_
 have hxb := pickedF_bd n (show (1 : Int) ≤ 100 by decide)
 have hbv := Bounds_at hm hw ht hG [litO (pickedF n 100), litO (pickedF n 100), bareOp 7] (fine_cons (fine_lit (by omega) (by omega)) (fine_cons (fine_lit (by omega) (by omega)) (fine_cons (fine_bare 7) fine_nil)))
 rw [none3 hxb.1] at hbv
 unfold bdD bytesL at hbv
 have hbw := Bounds_at hm hw ht hG [idO, litO (pickedF n 100), bareOp 6] (fine_cons fine_id (fine_cons (fine_lit (by omega) (by omega)) (fine_cons (fine_bare 6) fine_nil)))
 rw [one0 hxb.1] at hbw
 unfold bdD bytesL at hbw
 have hkl := key_len (pickedF n 100)
 have hpn := (picked_vp G n 100 n1 n2 (by decide))
 have hnv := number_vp (G := G) (pickedF n 100)
 unfold cV at hnv
 have hpk := (picked_vp G which 7 which1 which2 (by decide))
 rw [hk] at hpk
 generalize (pickedF n 100) = x at *
 refine CD.seq ?_
 refine CD.region ?_
 refine OD.still (wants_plain rfl) rfl (still_as rfl opd_const) ?_
 refine OD.wk (Wk.as_ (n := 102) (l' := [(0, _), (1, _)]) (S' := []) rfl rfl ⟨lk, lk, trivial⟩) ?_
 refine OD.nil ?_
 refine CD.seq ?_
 refine CD.region ?_
 refine OD.still (wants_plain rfl) rfl (still_mv rfl ot) ?_
 refine OD.callP (wants_plain rfl) rfl rfl rfl Tryd.call15 (hpn) ⟨ot, opd_const, trivial⟩ ?_
 refine OD.callP (wants_plain rfl) rfl rfl rfl Tryd.call19 (hnv) ⟨ot, trivial⟩ ?_
 refine OD.still (wants_plain rfl) rfl (still_bld (pl := [(0, _), (1, _)]) (ds := [_, _, _, _, _]) rfl Tryd.zeroValue40 Tryd.runUnderlying40 places40_Exc ⟨rfl, opd_const, rfl, ot, trivial⟩ rfl rfl) ?_
 refine OD.alloc (ds := [_, _, _, _, _]) (wants_plain rfl) rfl rfl Tryd.zeroValue40 rfl (fun b5 => ?_)
 refine OD.store (k := 0) (cs' := [_, _, _, _, _]) (wants_plain rfl) rfl rfl ot rfl rfl ot rfl rfl Tryd.sizeOf40 rfl rfl rfl ?_
 refine OD.wk (Wk.as_ (n := 102) (l' := [(1, _), (5, _)]) (S' := [⟨b5, 40, 5, [_, _, _, _, _]⟩]) rfl rfl ⟨lk, lk, trivial⟩) ?_
 refine OD.nil ?_
 refine CD.seq ?_
 refine CD.region ?_
 refine OD.still (wants_plain rfl) rfl (still_bld (pl := [(0, _), (2, _)]) (ds := [_, _, _, _, _]) rfl Tryd.zeroValue40 Tryd.runUnderlying40 places40_Exc ⟨rfl, opd_const, rfl, opd_const, trivial⟩ rfl rfl) ?_
 refine OD.alloc (ds := [_, _, _, _, _]) (wants_plain rfl) rfl rfl Tryd.zeroValue40 rfl (fun b6 => ?_)
 refine OD.store (k := 0) (cs' := [_, _, _, _, _]) (wants_plain rfl) rfl rfl ot rfl rfl ot rfl rfl Tryd.sizeOf40 rfl rfl rfl ?_
 refine OD.wk (Wk.as_ (n := 102) (l' := [(1, _), (5, _), (6, _)]) (S' := [⟨b6, 40, 5, [_, _, _, _, _]⟩, ⟨b5, 40, 5, [_, _, _, _, _]⟩]) rfl rfl ⟨lk, lk, lk, trivial⟩) ?_
 refine OD.nil ?_
 refine CD.seq ?_
 refine CD.region ?_
 refine OD.still (wants_plain rfl) rfl (still_bld (pl := [(0, _), (2, _)]) (ds := [_, _, _, _, _]) rfl Tryd.zeroValue40 Tryd.runUnderlying40 places40_Exc ⟨rfl, opd_const, rfl, opd_const, trivial⟩ rfl rfl) ?_
 refine OD.alloc (ds := [_, _, _, _, _]) (wants_plain rfl) rfl rfl Tryd.zeroValue40 rfl (fun b7 => ?_)
 refine OD.store (k := 0) (cs' := [_, _, _, _, _]) (wants_plain rfl) rfl rfl ot rfl rfl ot rfl rfl Tryd.sizeOf40 rfl rfl rfl ?_
 refine OD.wk (Wk.as_ (n := 102) (l' := [(1, _), (5, _), (6, _), (7, _)]) (S' := [⟨b7, 40, 5, [_, _, _, _, _]⟩, ⟨b6, 40, 5, [_, _, _, _, _]⟩, ⟨b5, 40, 5, [_, _, _, _, _]⟩]) rfl rfl ⟨lk, lk, lk, lk, trivial⟩) ?_
 refine OD.nil ?_
 refine CD.seq ?_
 refine CD.region ?_
 refine OD.still (wants_plain rfl) rfl (still_r1 (mk := Op.load 40) rfl ot (by first | exact ld_blks (k := 0) (ds := [_, _, _, _, _]) rfl rfl Tryd.isAgg40 Tryd.sizeOf40 rfl rfl | exact ld_is (ds := [_, _, _, _, _]) Tryd.isAgg40 Tryd.sizeOf40 rfl rfl)) ?_
 refine OD.still (wants_plain rfl) rfl (still_r1 (mk := Op.load 40) rfl ot (by first | exact ld_blks (k := 2) (ds := [_, _, _, _, _]) rfl rfl Tryd.isAgg40 Tryd.sizeOf40 rfl rfl | exact ld_is (ds := [_, _, _, _, _]) Tryd.isAgg40 Tryd.sizeOf40 rfl rfl)) ?_
 refine OD.still (wants_plain rfl) rfl (still_bld (pl := [(0, _)]) (ds := [_, _, _, _, _]) rfl Tryd.zeroValue40 Tryd.runUnderlying40 places40_Exc ⟨rfl, opd_const, trivial⟩ rfl rfl) ?_
 refine OD.bldS (pl := numD 0 [_, _, _]) (zvs := [.int .i64 0, .int .i64 0, .int .i64 0, .string ⟨#[]⟩, .string ⟨#[]⟩, .int .i64 0, .int .i64 0, .int .i64 0, .string ⟨#[]⟩, .string ⟨#[]⟩, .int .i64 0, .int .i64 0, .int .i64 0, .string ⟨#[]⟩, .string ⟨#[]⟩]) (ds := [_, _, _, _, _, _, _, _, _, _, _, _, _, _, _]) (wants_plain rfl) rfl rfl Tryd.zeroValue40 Tryd.runUnderlying25 Tryd.sizeOf40 rfl rfl (by kernel_rfl) ⟨rfl, ot, rfl, ot, rfl, ot, trivial⟩ (by exact rfl) (fill_full (by exact rfl) (by exact rfl) (by exact rfl)) (fun b24 => ?_)
 refine OD.perm (perm_q11 (S1 := [⟨b24, 40, 3 * 5, List.flatMap cO ([colN, litO x, bareOp 6])⟩]) (A := [_, _, _])) ?_
 refine OD.giveL (t := 24) (Sq := [⟨b24, 40, 3 * 5, List.flatMap cO ([colN, litO x, bareOp 6])⟩]) lk (ownL_row (g := cO) (sz := 5) (e := 40) (ls := [colN, litO x, bareOp 6]) (Nat.le_refl _) (show 3 ≤ maxLen by decide)) (fm_len cO_len _) (perm_r11 (A := [_, _, _])) ?_
 refine OD.still (wants_plain rfl) rfl (still_r1 (mk := Op.load 40) rfl ot (by first | exact ld_blks (k := 1) (ds := [_, _, _, _, _]) rfl rfl Tryd.isAgg40 Tryd.sizeOf40 rfl rfl | exact ld_is (ds := [_, _, _, _, _]) Tryd.isAgg40 Tryd.sizeOf40 rfl rfl)) ?_
 refine OD.still (wants_plain rfl) rfl (still_bld (pl := [(0, _)]) (ds := [_, _, _, _, _]) rfl Tryd.zeroValue40 Tryd.runUnderlying40 places40_Exc ⟨rfl, opd_const, trivial⟩ rfl rfl) ?_
 refine OD.still (wants_plain rfl) rfl (still_bld (pl := [(0, _)]) (ds := [_, _, _, _, _]) rfl Tryd.zeroValue40 Tryd.runUnderlying40 places40_Exc ⟨rfl, opd_const, trivial⟩ rfl rfl) ?_
 refine OD.bldS (pl := numD 0 [_, _, _]) (zvs := [.int .i64 0, .int .i64 0, .int .i64 0, .string ⟨#[]⟩, .string ⟨#[]⟩, .int .i64 0, .int .i64 0, .int .i64 0, .string ⟨#[]⟩, .string ⟨#[]⟩, .int .i64 0, .int .i64 0, .int .i64 0, .string ⟨#[]⟩, .string ⟨#[]⟩]) (ds := [_, _, _, _, _, _, _, _, _, _, _, _, _, _, _]) (wants_plain rfl) rfl rfl Tryd.zeroValue40 Tryd.runUnderlying25 Tryd.sizeOf40 rfl rfl (by kernel_rfl) ⟨rfl, ot, rfl, ot, rfl, ot, trivial⟩ (by exact rfl) (fill_full (by exact rfl) (by exact rfl) (by exact rfl)) (fun b28 => ?_)
 refine OD.perm (perm_q11 (S1 := [⟨b28, 40, 3 * 5, List.flatMap cO ([idO, nulO, bareOp 6])⟩]) (A := [_, _, _])) ?_
 refine OD.giveL (t := 28) (Sq := [⟨b28, 40, 3 * 5, List.flatMap cO ([idO, nulO, bareOp 6])⟩]) lk (ownL_row (g := cO) (sz := 5) (e := 40) (ls := [idO, nulO, bareOp 6]) (Nat.le_refl _) (show 3 ≤ maxLen by decide)) (fm_len cO_len _) (perm_r11 (A := [_, _, _])) ?_
 refine OD.still (wants_plain rfl) rfl (still_r1 (mk := Op.load 40) rfl ot (by first | exact ld_blks (k := 1) (ds := [_, _, _, _, _]) rfl rfl Tryd.isAgg40 Tryd.sizeOf40 rfl rfl | exact ld_is (ds := [_, _, _, _, _]) Tryd.isAgg40 Tryd.sizeOf40 rfl rfl)) ?_
 refine OD.still (wants_plain rfl) rfl (still_r1 (mk := Op.load 40) rfl ot (by first | exact ld_blks (k := 0) (ds := [_, _, _, _, _]) rfl rfl Tryd.isAgg40 Tryd.sizeOf40 rfl rfl | exact ld_is (ds := [_, _, _, _, _]) Tryd.isAgg40 Tryd.sizeOf40 rfl rfl)) ?_
 refine OD.still (wants_plain rfl) rfl (still_bld (pl := [(0, _)]) (ds := [_, _, _, _, _]) rfl Tryd.zeroValue40 Tryd.runUnderlying40 places40_Exc ⟨rfl, opd_const, trivial⟩ rfl rfl) ?_
 refine OD.bldS (pl := numD 0 [_, _, _]) (zvs := [.int .i64 0, .int .i64 0, .int .i64 0, .string ⟨#[]⟩, .string ⟨#[]⟩, .int .i64 0, .int .i64 0, .int .i64 0, .string ⟨#[]⟩, .string ⟨#[]⟩, .int .i64 0, .int .i64 0, .int .i64 0, .string ⟨#[]⟩, .string ⟨#[]⟩]) (ds := [_, _, _, _, _, _, _, _, _, _, _, _, _, _, _]) (wants_plain rfl) rfl rfl Tryd.zeroValue40 Tryd.runUnderlying25 Tryd.sizeOf40 rfl rfl (by kernel_rfl) ⟨rfl, ot, rfl, ot, rfl, ot, trivial⟩ (by exact rfl) (fill_full (by exact rfl) (by exact rfl) (by exact rfl)) (fun b32 => ?_)
 refine OD.perm (perm_q11 (S1 := [⟨b32, 40, 3 * 5, List.flatMap cO ([idO, colN, bareOp 7])⟩]) (A := [_, _, _])) ?_
 refine OD.giveL (t := 32) (Sq := [⟨b32, 40, 3 * 5, List.flatMap cO ([idO, colN, bareOp 7])⟩]) lk (ownL_row (g := cO) (sz := 5) (e := 40) (ls := [idO, colN, bareOp 7]) (Nat.le_refl _) (show 3 ≤ maxLen by decide)) (fm_len cO_len _) (perm_r11 (A := [_, _, _])) ?_
 refine OD.still (wants_plain rfl) rfl (still_r1 (mk := Op.load 40) rfl ot (by first | exact ld_blks (k := 2) (ds := [_, _, _, _, _]) rfl rfl Tryd.isAgg40 Tryd.sizeOf40 rfl rfl | exact ld_is (ds := [_, _, _, _, _]) Tryd.isAgg40 Tryd.sizeOf40 rfl rfl)) ?_
 refine OD.still (wants_plain rfl) rfl (still_r1 (mk := Op.load 40) rfl ot (by first | exact ld_blks (k := 2) (ds := [_, _, _, _, _]) rfl rfl Tryd.isAgg40 Tryd.sizeOf40 rfl rfl | exact ld_is (ds := [_, _, _, _, _]) Tryd.isAgg40 Tryd.sizeOf40 rfl rfl)) ?_
 refine OD.still (wants_plain rfl) rfl (still_bld (pl := [(0, _)]) (ds := [_, _, _, _, _]) rfl Tryd.zeroValue40 Tryd.runUnderlying40 places40_Exc ⟨rfl, opd_const, trivial⟩ rfl rfl) ?_
 refine OD.bldS (pl := numD 0 [_, _, _]) (zvs := [.int .i64 0, .int .i64 0, .int .i64 0, .string ⟨#[]⟩, .string ⟨#[]⟩, .int .i64 0, .int .i64 0, .int .i64 0, .string ⟨#[]⟩, .string ⟨#[]⟩, .int .i64 0, .int .i64 0, .int .i64 0, .string ⟨#[]⟩, .string ⟨#[]⟩]) (ds := [_, _, _, _, _, _, _, _, _, _, _, _, _, _, _]) (wants_plain rfl) rfl rfl Tryd.zeroValue40 Tryd.runUnderlying25 Tryd.sizeOf40 rfl rfl (by kernel_rfl) ⟨rfl, ot, rfl, ot, rfl, ot, trivial⟩ (by exact rfl) (fill_full (by exact rfl) (by exact rfl) (by exact rfl)) (fun b36 => ?_)
 refine OD.perm (perm_q11 (S1 := [⟨b36, 40, 3 * 5, List.flatMap cO ([litO x, litO x, bareOp 7])⟩]) (A := [_, _, _])) ?_
 refine OD.giveL (t := 36) (Sq := [⟨b36, 40, 3 * 5, List.flatMap cO ([litO x, litO x, bareOp 7])⟩]) lk (ownL_row (g := cO) (sz := 5) (e := 40) (ls := [litO x, litO x, bareOp 7]) (Nat.le_refl _) (show 3 ≤ maxLen by decide)) (fm_len cO_len _) (perm_r11 (A := [_, _, _])) ?_
 refine OD.still (wants_plain rfl) rfl (still_r1 (mk := Op.load 40) rfl ot (by first | exact ld_blks (k := 1) (ds := [_, _, _, _, _]) rfl rfl Tryd.isAgg40 Tryd.sizeOf40 rfl rfl | exact ld_is (ds := [_, _, _, _, _]) Tryd.isAgg40 Tryd.sizeOf40 rfl rfl)) ?_
 refine OD.still (wants_plain rfl) rfl (still_bld (pl := [(0, _)]) (ds := [_, _, _, _, _]) rfl Tryd.zeroValue40 Tryd.runUnderlying40 places40_Exc ⟨rfl, opd_const, trivial⟩ rfl rfl) ?_
 refine OD.bldS (pl := numD 0 [_, _]) (zvs := [.int .i64 0, .int .i64 0, .int .i64 0, .string ⟨#[]⟩, .string ⟨#[]⟩, .int .i64 0, .int .i64 0, .int .i64 0, .string ⟨#[]⟩, .string ⟨#[]⟩]) (ds := [_, _, _, _, _, _, _, _, _, _]) (wants_plain rfl) rfl rfl Tryd.zeroValue40 Tryd.runUnderlying25 Tryd.sizeOf40 rfl rfl (by kernel_rfl) ⟨rfl, ot, rfl, ot, trivial⟩ (by exact rfl) (fill_full (by exact rfl) (by exact rfl) (by exact rfl)) (fun b39 => ?_)
 refine OD.perm (perm_q11 (S1 := [⟨b39, 40, 2 * 5, List.flatMap cO ([idO, bareOp 11])⟩]) (A := [_, _, _])) ?_
 refine OD.giveL (t := 39) (Sq := [⟨b39, 40, 2 * 5, List.flatMap cO ([idO, bareOp 11])⟩]) lk (ownL_row (g := cO) (sz := 5) (e := 40) (ls := [idO, bareOp 11]) (Nat.le_refl _) (show 2 ≤ maxLen by decide)) (fm_len cO_len _) (perm_r11 (A := [_, _, _])) ?_
 refine OD.still (wants_plain rfl) rfl (still_r1 (mk := Op.load 40) rfl ot (by first | exact ld_blks (k := 1) (ds := [_, _, _, _, _]) rfl rfl Tryd.isAgg40 Tryd.sizeOf40 rfl rfl | exact ld_is (ds := [_, _, _, _, _]) Tryd.isAgg40 Tryd.sizeOf40 rfl rfl)) ?_
 refine OD.still (wants_plain rfl) rfl (still_r1 (mk := Op.load 40) rfl ot (by first | exact ld_blks (k := 2) (ds := [_, _, _, _, _]) rfl rfl Tryd.isAgg40 Tryd.sizeOf40 rfl rfl | exact ld_is (ds := [_, _, _, _, _]) Tryd.isAgg40 Tryd.sizeOf40 rfl rfl)) ?_
 refine OD.still (wants_plain rfl) rfl (still_bld (pl := [(0, _)]) (ds := [_, _, _, _, _]) rfl Tryd.zeroValue40 Tryd.runUnderlying40 places40_Exc ⟨rfl, opd_const, trivial⟩ rfl rfl) ?_
 refine OD.still (wants_plain rfl) rfl (still_r1 (mk := Op.load 40) rfl ot (by first | exact ld_blks (k := 2) (ds := [_, _, _, _, _]) rfl rfl Tryd.isAgg40 Tryd.sizeOf40 rfl rfl | exact ld_is (ds := [_, _, _, _, _]) Tryd.isAgg40 Tryd.sizeOf40 rfl rfl)) ?_
 refine OD.still (wants_plain rfl) rfl (still_bld (pl := [(0, _)]) (ds := [_, _, _, _, _]) rfl Tryd.zeroValue40 Tryd.runUnderlying40 places40_Exc ⟨rfl, opd_const, trivial⟩ rfl rfl) ?_
 refine OD.bldS (pl := numD 0 [_, _, _, _, _]) (zvs := [.int .i64 0, .int .i64 0, .int .i64 0, .string ⟨#[]⟩, .string ⟨#[]⟩, .int .i64 0, .int .i64 0, .int .i64 0, .string ⟨#[]⟩, .string ⟨#[]⟩, .int .i64 0, .int .i64 0, .int .i64 0, .string ⟨#[]⟩, .string ⟨#[]⟩, .int .i64 0, .int .i64 0, .int .i64 0, .string ⟨#[]⟩, .string ⟨#[]⟩, .int .i64 0, .int .i64 0, .int .i64 0, .string ⟨#[]⟩, .string ⟨#[]⟩]) (ds := [_, _, _, _, _, _, _, _, _, _, _, _, _, _, _, _, _, _, _, _, _, _, _, _, _]) (wants_plain rfl) rfl rfl Tryd.zeroValue40 Tryd.runUnderlying25 Tryd.sizeOf40 rfl rfl (by kernel_rfl) ⟨rfl, ot, rfl, ot, rfl, ot, rfl, ot, rfl, ot, trivial⟩ (by exact rfl) (fill_full (by exact rfl) (by exact rfl) (by exact rfl)) (fun b45 => ?_)
 refine OD.perm (perm_q11 (S1 := [⟨b45, 40, 5 * 5, List.flatMap cO ([idO, litO x, bareOp 8, litO x, bareOp 7])⟩]) (A := [_, _, _])) ?_
 refine OD.giveL (t := 45) (Sq := [⟨b45, 40, 5 * 5, List.flatMap cO ([idO, litO x, bareOp 8, litO x, bareOp 7])⟩]) lk (ownL_row (g := cO) (sz := 5) (e := 40) (ls := [idO, litO x, bareOp 8, litO x, bareOp 7]) (Nat.le_refl _) (show 5 ≤ maxLen by decide)) (fm_len cO_len _) (perm_r11 (A := [_, _, _])) ?_
 refine OD.still (wants_plain rfl) rfl (still_r1 (mk := Op.load 40) rfl ot (by first | exact ld_blks (k := 1) (ds := [_, _, _, _, _]) rfl rfl Tryd.isAgg40 Tryd.sizeOf40 rfl rfl | exact ld_is (ds := [_, _, _, _, _]) Tryd.isAgg40 Tryd.sizeOf40 rfl rfl)) ?_
 refine OD.still (wants_plain rfl) rfl (still_r1 (mk := Op.load 40) rfl ot (by first | exact ld_blks (k := 2) (ds := [_, _, _, _, _]) rfl rfl Tryd.isAgg40 Tryd.sizeOf40 rfl rfl | exact ld_is (ds := [_, _, _, _, _]) Tryd.isAgg40 Tryd.sizeOf40 rfl rfl)) ?_
 refine OD.still (wants_plain rfl) rfl (still_bld (pl := [(0, _)]) (ds := [_, _, _, _, _]) rfl Tryd.zeroValue40 Tryd.runUnderlying40 places40_Exc ⟨rfl, opd_const, trivial⟩ rfl rfl) ?_
 refine OD.still (wants_plain rfl) rfl (still_bld (pl := [(0, _)]) (ds := [_, _, _, _, _]) rfl Tryd.zeroValue40 Tryd.runUnderlying40 places40_Exc ⟨rfl, opd_const, trivial⟩ rfl rfl) ?_
 refine OD.still (wants_plain rfl) rfl (still_bld (pl := [(0, _)]) (ds := [_, _, _, _, _]) rfl Tryd.zeroValue40 Tryd.runUnderlying40 places40_Exc ⟨rfl, opd_const, trivial⟩ rfl rfl) ?_
 refine OD.bldS (pl := numD 0 [_, _, _, _, _]) (zvs := [.int .i64 0, .int .i64 0, .int .i64 0, .string ⟨#[]⟩, .string ⟨#[]⟩, .int .i64 0, .int .i64 0, .int .i64 0, .string ⟨#[]⟩, .string ⟨#[]⟩, .int .i64 0, .int .i64 0, .int .i64 0, .string ⟨#[]⟩, .string ⟨#[]⟩, .int .i64 0, .int .i64 0, .int .i64 0, .string ⟨#[]⟩, .string ⟨#[]⟩, .int .i64 0, .int .i64 0, .int .i64 0, .string ⟨#[]⟩, .string ⟨#[]⟩]) (ds := [_, _, _, _, _, _, _, _, _, _, _, _, _, _, _, _, _, _, _, _, _, _, _, _, _]) (wants_plain rfl) rfl rfl Tryd.zeroValue40 Tryd.runUnderlying25 Tryd.sizeOf40 rfl rfl (by kernel_rfl) ⟨rfl, ot, rfl, ot, rfl, ot, rfl, ot, rfl, ot, trivial⟩ (by exact rfl) (fill_full (by exact rfl) (by exact rfl) (by exact rfl)) (fun b51 => ?_)
 refine OD.perm (perm_q11 (S1 := [⟨b51, 40, 5 * 5, List.flatMap cO ([idO, litO x, bareOp 7, bareOp 5, bareOp 5])⟩]) (A := [_, _, _])) ?_
 refine OD.giveL (t := 51) (Sq := [⟨b51, 40, 5 * 5, List.flatMap cO ([idO, litO x, bareOp 7, bareOp 5, bareOp 5])⟩]) lk (ownL_row (g := cO) (sz := 5) (e := 40) (ls := [idO, litO x, bareOp 7, bareOp 5, bareOp 5]) (Nat.le_refl _) (show 5 ≤ maxLen by decide)) (fm_len cO_len _) (perm_r11 (A := [_, _, _])) ?_
 refine OD.bldS (pl := numD 0 [_, _, _, _, _, _, _]) (zvs := [.slice none 0 0, .slice none 0 0, .slice none 0 0, .slice none 0 0, .slice none 0 0, .slice none 0 0, .slice none 0 0]) (ds := [_, _, _, _, _, _, _]) (wants_plain rfl) rfl rfl Tryd.zeroValue25 Tryd.runUnderlying46 Tryd.sizeOf25 rfl rfl (by kernel_rfl) ⟨rfl, ot, rfl, ot, rfl, ot, rfl, ot, rfl, ot, rfl, ot, rfl, ot, trivial⟩ (by exact rfl) (fill_full (by exact rfl) (by exact rfl) (by exact rfl)) (fun b52 => ?_)
 refine OD.still (wants_plain rfl) rfl (still_as rfl ot) ?_
 refine OD.wk (Wk.as_ (n := 102) (l' := [(1, _), (5, _), (6, _), (8, _)]) (S' := [⟨b52, 25, 7, [_, _, _, _, _, _, _]⟩, ⟨b7, 40, 5, [_, _, _, _, _]⟩, ⟨b6, 40, 5, [_, _, _, _, _]⟩, ⟨b5, 40, 5, [_, _, _, _, _]⟩]) rfl rfl ⟨lk, lk, lk, lk, trivial⟩) ?_
 refine OD.nil ?_
 refine CD.seq ?_
 refine CD.region ?_
 refine OD.callP (wants_plain rfl) rfl rfl rfl Tryd.call10 (colsOf_vp) trivial ?_
 refine OD.still (wants_plain rfl) rfl (still_mv rfl ot) ?_
 refine OD.still (wants_plain rfl) rfl (still_mv rfl ot) ?_
 refine OD.still (wants_plain rfl) rfl (still_mv rfl ot) ?_
 refine OD.still (wants_plain rfl) rfl (still_r1 (mk := fun y => .call { callee := .builtin .len, args := #[y], argTypes := #[46] }) rfl ot (by first | exact len_list rfl Tryd.runUnderlying46 | exact len_row rfl Tryd.runUnderlying46)) ?_
 refine OD.callP (wants_plain rfl) rfl rfl rfl Tryd.call15 (hpk) ⟨ot, ot, trivial⟩ ?_
 refine OD.still (wants_plain rfl) rfl (still_r2 (mk := Op.indexAddr 46) rfl ot ot (by first | exact ix_list Tryd.runUnderlying46 Tryd.sizeOf25 (j := 3) rfl (by decide) | exact ix_row Tryd.runUnderlying46 Tryd.sizeOf25 (j := 3) rfl (by decide))) ?_
 refine OD.still (wants_plain rfl) rfl (still_r1 (mk := Op.load 25) rfl ot (by first | exact ld_blk (k := 0) rfl rfl Tryd.isAgg25 rfl | exact ld_blk (k := 1) rfl rfl Tryd.isAgg25 rfl | exact ld_blk (k := 2) rfl rfl Tryd.isAgg25 rfl | exact ld_blk (k := 3) rfl rfl Tryd.isAgg25 rfl | exact ld_i Tryd.isAgg25 rfl)) ?_
 refine OD.callP (wants_plain rfl) rfl rfl rfl Tryd.call16 (hbv) ⟨ot, ot, trivial⟩ ?_
 refine OD.still (wants_plain rfl) rfl (still_mv rfl ot) ?_
 refine OD.still (wants_plain rfl) rfl (still_extract rfl ot rfl) ?_
 refine OD.still (wants_plain rfl) rfl (still_extract rfl ot rfl) ?_
 refine OD.still (wants_plain rfl) rfl (still_extract rfl ot rfl) ?_
 refine OD.still (wants_plain rfl) rfl (still_as rfl ot) ?_
 refine OD.still (wants_plain rfl) rfl (still_as rfl ot) ?_
 refine OD.still (wants_plain rfl) rfl (still_as rfl ot) ?_
 refine OD.wk (Wk.as_ (n := 102) (l' := [(5, _), (6, _), (9, _), (10, _), (11, _)]) (S' := [⟨b52, 25, 7, [_, _, _, _, _, _, _]⟩, ⟨b7, 40, 5, [_, _, _, _, _]⟩, ⟨b6, 40, 5, [_, _, _, _, _]⟩, ⟨b5, 40, 5, [_, _, _, _, _]⟩]) rfl rfl ⟨lk, lk, lk, lk, lk, trivial⟩) ?_
 refine OD.nil ?_
 refine CD.seq ?_
 refine CD.draw (bks _) (by kernel_rfl) (fun _ h => h) ?_
 refine AD0.take (i := 1) rfl (by kernel_rfl) (by kernel_rfl) (by kernel_rfl) (by repeat (first | exact NP.body | apply NP.then | apply NP.cut | apply NP.inBlock | apply NP.round)) (wants_plain rfl) rfl (still_r1 (mk := Op.load 40) rfl ot (by first | exact ld_blks (k := 2) (ds := [_, _, _, _, _]) rfl rfl Tryd.isAgg40 Tryd.sizeOf40 rfl rfl | exact ld_is (ds := [_, _, _, _, _]) Tryd.isAgg40 Tryd.sizeOf40 rfl rfl)) (by first | exact trivial | exact safe_blk (k0 := 0) rfl rfl | exact safe_blk (k0 := 1) rfl rfl | exact safe_blk (k0 := 2) rfl rfl | exact safe_blk (k0 := 3) rfl rfl) ?_
 refine AD0.take (i := 2) rfl (by kernel_rfl) (by kernel_rfl) (by kernel_rfl) (by repeat (first | exact NP.body | apply NP.then | apply NP.cut | apply NP.inBlock | apply NP.round)) (wants_plain rfl) rfl (still_r1 (mk := Op.load 40) rfl ot (by first | exact ld_blks (k := 3) (ds := [_, _, _, _, _]) rfl rfl Tryd.isAgg40 Tryd.sizeOf40 rfl rfl | exact ld_is (ds := [_, _, _, _, _]) Tryd.isAgg40 Tryd.sizeOf40 rfl rfl)) (by first | exact trivial | exact safe_blk (k0 := 0) rfl rfl | exact safe_blk (k0 := 1) rfl rfl | exact safe_blk (k0 := 2) rfl rfl | exact safe_blk (k0 := 3) rfl rfl) ?_
 refine AD0.take (i := 3) rfl (by kernel_rfl) (by kernel_rfl) (by kernel_rfl) (by repeat (first | exact NP.body | apply NP.then | apply NP.cut | apply NP.inBlock | apply NP.round)) (wants_plain rfl) rfl (still_bld (pl := [(0, _)]) (ds := [_, _, _, _, _]) rfl Tryd.zeroValue40 Tryd.runUnderlying40 places40_Exc ⟨rfl, opd_const, trivial⟩ rfl rfl) (by exact trivial) ?_
 refine AD0.later rfl ?_
 refine AD.two (i := 0) (j := 4) (by kernel_rfl) ?_ ?_
 ·skip
  refine AStep.callP rfl (wants_plain rfl) rfl rfl rfl Tryd.call10 (colsOf_vp) trivial ?_
  refine AD.one (i := 4) (by kernel_rfl) ?_
  refine AStep.bldS (pl := numD 0 [_, _, _]) (zvs := [.int .i64 0, .int .i64 0, .int .i64 0, .string ⟨#[]⟩, .string ⟨#[]⟩, .int .i64 0, .int .i64 0, .int .i64 0, .string ⟨#[]⟩, .string ⟨#[]⟩, .int .i64 0, .int .i64 0, .int .i64 0, .string ⟨#[]⟩, .string ⟨#[]⟩]) (ds := [_, _, _, _, _, _, _, _, _, _, _, _, _, _, _]) rfl (wants_plain rfl) rfl rfl Tryd.zeroValue40 Tryd.runUnderlying25 Tryd.sizeOf40 rfl rfl (by kernel_rfl) ⟨rfl, ot, rfl, ot, rfl, ot, trivial⟩ (by exact rfl) (fill_full (by exact rfl) (by exact rfl) (by exact rfl)) (fun b71 => ?_)
  refine AD.give (k := 0) (t := 71) (sz := 5) (m := 3) rfl lk rfl rfl rfl (Nat.le_refl _) (by decide) ?_
  refine AD.one (i := 5) (by kernel_rfl) ?_
  refine AStep.callP rfl (wants_plain rfl) rfl rfl rfl Tryd.call16 (hbw) ⟨ot, ot, trivial⟩ ?_
  refine AD.take (i := 6) rfl (by kernel_rfl) (by kernel_rfl) (by kernel_rfl) (by repeat (first | exact NP.body | apply NP.then | apply NP.cut | apply NP.inBlock | apply NP.round)) (wants_plain rfl) rfl (still_mv rfl ot) (by exact trivial) (by intro h; cases h) ?_
  refine AD.take (i := 7) rfl (by kernel_rfl) (by kernel_rfl) (by kernel_rfl) (by repeat (first | exact NP.body | apply NP.then | apply NP.cut | apply NP.inBlock | apply NP.round)) (wants_plain rfl) rfl (still_extract rfl ot rfl) (by exact trivial) (by intro h; cases h) ?_
  refine AD.take (i := 8) rfl (by kernel_rfl) (by kernel_rfl) (by kernel_rfl) (by repeat (first | exact NP.body | apply NP.then | apply NP.cut | apply NP.inBlock | apply NP.round)) (wants_plain rfl) rfl (still_extract rfl ot rfl) (by exact trivial) (by intro h; cases h) ?_
  refine AD.take (i := 9) rfl (by kernel_rfl) (by kernel_rfl) (by kernel_rfl) (by repeat (first | exact NP.body | apply NP.then | apply NP.cut | apply NP.inBlock | apply NP.round)) (wants_plain rfl) rfl (still_extract rfl ot rfl) (by exact trivial) (by intro h; cases h) ?_
  refine AD.take (i := 10) rfl (by kernel_rfl) (by kernel_rfl) (by kernel_rfl) (by repeat (first | exact NP.body | apply NP.then | apply NP.cut | apply NP.inBlock | apply NP.round)) (wants_plain rfl) rfl (still_as rfl ot) (by exact trivial) (by intro h; cases h) ?_
  refine AD.take (i := 11) rfl (by kernel_rfl) (by kernel_rfl) (by kernel_rfl) (by repeat (first | exact NP.body | apply NP.then | apply NP.cut | apply NP.inBlock | apply NP.round)) (wants_plain rfl) rfl (still_as rfl ot) (by exact trivial) (by intro h; cases h) ?_
  refine AD.take (i := 12) rfl (by kernel_rfl) (by kernel_rfl) (by kernel_rfl) (by repeat (first | exact NP.body | apply NP.then | apply NP.cut | apply NP.inBlock | apply NP.round)) (wants_plain rfl) rfl (still_as rfl ot) (by exact trivial) (by intro h; cases h) ?_
  refine AD.wk (y := ⟨102, [(9, _), (10, _), (11, _), (12, _), (13, _), (14, _)], [⟨b52, 25, 7, [_, _, _, _, _, _, _]⟩, ⟨b7, 40, 5, [_, _, _, _, _]⟩, ⟨b6, 40, 5, [_, _, _, _, _]⟩, ⟨b5, 40, 5, [_, _, _, _, _]⟩]⟩) (Wk.as_ rfl rfl ⟨lk, lk, lk, lk, lk, lk, trivial⟩) rfl ?_
  refine AD.done (by kernel_rfl) ?_
  refine CD.seq ?_
  refine CD.region ?_
  refine OD.still (wants_plain rfl) rfl (still_mv rfl ot) ?_
  refine OD.still (wants_plain rfl) rfl (still_bin rfl ot opd_const bin_eql) ?_
  refine OD.still (wants_plain rfl) rfl (still_mv rfl ot) ?_
  refine OD.split (t := 78) lk (fun hg78 => ?_) (fun hg78 => ?_)
  ·have hg78' := hg78; (try simp only [V.cnd, ne_eq] at hg78')
   refine OD.still (wants_T rfl rfl rfl lk (by first | rfl | assumption)) rfl (still_mv rfl ot) ?_
   refine OD.still (wants_T rfl rfl rfl lk (by first | rfl | assumption)) rfl (still_bin rfl ot opd_const bin_eql) ?_
   refine OD.still (wants_plain rfl) rfl (still_pickT rfl ot (by first | rfl | assumption) ot) ?_
   refine OD.still (wants_plain rfl) rfl (still_mv rfl ot) ?_
   refine OD.split (t := 82) lk (fun hg82 => ?_) (fun hg82 => ?_)
   ·have hg82' := hg82; (try simp only [V.cnd, ne_eq] at hg82')
    refine OD.still (wants_T rfl rfl rfl lk (by first | rfl | assumption)) rfl (still_mv rfl ot) ?_
    refine OD.still (wants_T rfl rfl rfl lk (by first | rfl | assumption)) rfl (still_r1 (mk := fun y => .call { callee := .builtin .len, args := #[y], argTypes := #[47] }) rfl ot (by first | exact len_list rfl Tryd.runUnderlying47 | exact len_row rfl Tryd.runUnderlying47)) ?_
    refine OD.still (wants_T rfl rfl rfl lk (by first | rfl | assumption)) rfl (still_mv rfl ot) ?_
    refine OD.still (wants_T rfl rfl rfl lk (by first | rfl | assumption)) rfl (still_r1 (mk := fun y => .call { callee := .builtin .len, args := #[y], argTypes := #[47] }) rfl ot (by first | exact len_list rfl Tryd.runUnderlying47 | exact len_row rfl Tryd.runUnderlying47)) ?_
    refine OD.still (wants_T rfl rfl rfl lk (by first | rfl | assumption)) rfl (still_bin rfl ot ot (bin_add (wrap_i64 (by decide) (by decide)))) ?_
    refine OD.still (wants_T rfl rfl rfl lk (by first | rfl | assumption)) rfl (still_bin rfl ot opd_const bin_eql) ?_
    refine OD.still (wants_plain rfl) rfl (still_pickT rfl ot (by first | rfl | assumption) ot) ?_
    refine OD.still (wants_plain rfl) rfl (still_mv rfl ot) ?_
    refine OD.split (t := 90) lk (fun hg90 => ?_) (fun hg90 => ?_)
    ·have hg90' := hg90; (try simp only [V.cnd, ne_eq] at hg90')
     refine OD.still (wants_T rfl rfl rfl lk (by first | rfl | assumption)) rfl (still_mv rfl ot) ?_
     refine OD.still (wants_T rfl rfl rfl lk (by first | rfl | assumption)) rfl (still_r1 (mk := fun y => .call { callee := .builtin .len, args := #[y], argTypes := #[47] }) rfl ot (by first | exact len_list rfl Tryd.runUnderlying47 | exact len_row rfl Tryd.runUnderlying47)) ?_
     refine OD.still (wants_T rfl rfl rfl lk (by first | rfl | assumption)) rfl (still_bin rfl ot opd_const bin_gtr) ?_
     refine OD.still (wants_plain rfl) rfl (still_pickT rfl ot (by first | rfl | assumption) ot) ?_
     refine OD.still (wants_plain rfl) rfl (still_mv rfl ot) ?_
     refine OD.split (t := 95) lk (fun hg95 => ?_) (fun hg95 => ?_)
     ·have hg95' := hg95; (try simp only [V.cnd, ne_eq] at hg95')
      refine OD.still (wants_T rfl rfl rfl lk (by first | rfl | assumption)) rfl (still_mv rfl ot) ?_
      first | refine OD.still (wants_T rfl rfl rfl lk (by first | rfl | assumption)) rfl (still_ofBytes rfl ot Tryd.underlying47 Tryd.underlying5 Tryd.underlying9) ?_ | refine OD.still (wants_T rfl rfl rfl lk (by first | rfl | assumption)) rfl (still_ofBytesF rfl ot Tryd.underlying47 Tryd.underlying5 Tryd.underlying9) ?_
      refine OD.still (wants_T rfl rfl rfl lk (by first | rfl | assumption)) rfl (still_mv rfl ot) ?_
      first | refine OD.still (wants_T rfl rfl rfl lk (by first | rfl | assumption)) rfl (still_ofBytes rfl ot Tryd.underlying47 Tryd.underlying5 Tryd.underlying9) ?_ | refine OD.still (wants_T rfl rfl rfl lk (by first | rfl | assumption)) rfl (still_ofBytesF rfl ot Tryd.underlying47 Tryd.underlying5 Tryd.underlying9) ?_
      refine OD.still (wants_T rfl rfl rfl lk (by first | rfl | assumption)) rfl (still_bin rfl ot ot bin_seql) ?_
      refine OD.still (wants_plain rfl) rfl (still_pickT rfl ot (by first | rfl | assumption) ot) ?_
      refine OD.still (wants_plain rfl) rfl (still_as rfl ot) ?_
      refine OD.wk (Wk.as_ (n := 102) (l' := [(4, _)]) (S' := [⟨b52, 25, 7, [_, _, _, _, _, _, _]⟩, ⟨b7, 40, 5, [_, _, _, _, _]⟩, ⟨b6, 40, 5, [_, _, _, _, _]⟩, ⟨b5, 40, 5, [_, _, _, _, _]⟩]) rfl rfl ⟨lk, trivial⟩) ?_
      refine OD.nil ?_
      refine CD.ret ?_
      refine ⟨.inr rfl, _, [], List.nil_sublist _, ret_one Tryd.results7 (res_tmp (Nat.le_of_ble_eq_true rfl) lk), ?_⟩
      first | exact ⟨rfl, rfl⟩ | (refine ⟨vb ?_, rfl⟩; simp)
     ·exact absurd hg95 (by rw [hkl]; decide)
    ·exact absurd hg90 (by simp)
   ·exact absurd hg82 (by simp)
  ·exact absurd hg78 (by simp)
 ·skip
  refine AStep.bldS (pl := numD 0 [_, _, _]) (zvs := [.int .i64 0, .int .i64 0, .int .i64 0, .string ⟨#[]⟩, .string ⟨#[]⟩, .int .i64 0, .int .i64 0, .int .i64 0, .string ⟨#[]⟩, .string ⟨#[]⟩, .int .i64 0, .int .i64 0, .int .i64 0, .string ⟨#[]⟩, .string ⟨#[]⟩]) (ds := [_, _, _, _, _, _, _, _, _, _, _, _, _, _, _]) rfl (wants_plain rfl) rfl rfl Tryd.zeroValue40 Tryd.runUnderlying25 Tryd.sizeOf40 rfl rfl (by kernel_rfl) ⟨rfl, ot, rfl, ot, rfl, ot, trivial⟩ (by exact rfl) (fill_full (by exact rfl) (by exact rfl) (by exact rfl)) (fun b71 => ?_)
  refine AD.give (k := 0) (t := 71) (sz := 5) (m := 3) rfl lk rfl rfl rfl (Nat.le_refl _) (by decide) ?_
  refine AD.one (i := 0) (by kernel_rfl) ?_
  refine AStep.callP rfl (wants_plain rfl) rfl rfl rfl Tryd.call10 (colsOf_vp) trivial ?_
  refine AD.one (i := 5) (by kernel_rfl) ?_
  refine AStep.callP rfl (wants_plain rfl) rfl rfl rfl Tryd.call16 (hbw) ⟨ot, ot, trivial⟩ ?_
  refine AD.take (i := 6) rfl (by kernel_rfl) (by kernel_rfl) (by kernel_rfl) (by repeat (first | exact NP.body | apply NP.then | apply NP.cut | apply NP.inBlock | apply NP.round)) (wants_plain rfl) rfl (still_mv rfl ot) (by exact trivial) (by intro h; cases h) ?_
  refine AD.take (i := 7) rfl (by kernel_rfl) (by kernel_rfl) (by kernel_rfl) (by repeat (first | exact NP.body | apply NP.then | apply NP.cut | apply NP.inBlock | apply NP.round)) (wants_plain rfl) rfl (still_extract rfl ot rfl) (by exact trivial) (by intro h; cases h) ?_
  refine AD.take (i := 8) rfl (by kernel_rfl) (by kernel_rfl) (by kernel_rfl) (by repeat (first | exact NP.body | apply NP.then | apply NP.cut | apply NP.inBlock | apply NP.round)) (wants_plain rfl) rfl (still_extract rfl ot rfl) (by exact trivial) (by intro h; cases h) ?_
  refine AD.take (i := 9) rfl (by kernel_rfl) (by kernel_rfl) (by kernel_rfl) (by repeat (first | exact NP.body | apply NP.then | apply NP.cut | apply NP.inBlock | apply NP.round)) (wants_plain rfl) rfl (still_extract rfl ot rfl) (by exact trivial) (by intro h; cases h) ?_
  refine AD.take (i := 10) rfl (by kernel_rfl) (by kernel_rfl) (by kernel_rfl) (by repeat (first | exact NP.body | apply NP.then | apply NP.cut | apply NP.inBlock | apply NP.round)) (wants_plain rfl) rfl (still_as rfl ot) (by exact trivial) (by intro h; cases h) ?_
  refine AD.take (i := 11) rfl (by kernel_rfl) (by kernel_rfl) (by kernel_rfl) (by repeat (first | exact NP.body | apply NP.then | apply NP.cut | apply NP.inBlock | apply NP.round)) (wants_plain rfl) rfl (still_as rfl ot) (by exact trivial) (by intro h; cases h) ?_
  refine AD.take (i := 12) rfl (by kernel_rfl) (by kernel_rfl) (by kernel_rfl) (by repeat (first | exact NP.body | apply NP.then | apply NP.cut | apply NP.inBlock | apply NP.round)) (wants_plain rfl) rfl (still_as rfl ot) (by exact trivial) (by intro h; cases h) ?_
  refine AD.wk (y := ⟨102, [(9, _), (10, _), (11, _), (12, _), (13, _), (14, _)], [⟨b52, 25, 7, [_, _, _, _, _, _, _]⟩, ⟨b7, 40, 5, [_, _, _, _, _]⟩, ⟨b6, 40, 5, [_, _, _, _, _]⟩, ⟨b5, 40, 5, [_, _, _, _, _]⟩]⟩) (Wk.as_ rfl rfl ⟨lk, lk, lk, lk, lk, lk, trivial⟩) rfl ?_
  refine AD.done (by kernel_rfl) ?_
  refine CD.seq ?_
  refine CD.region ?_
  refine OD.still (wants_plain rfl) rfl (still_mv rfl ot) ?_
  refine OD.still (wants_plain rfl) rfl (still_bin rfl ot opd_const bin_eql) ?_
  refine OD.still (wants_plain rfl) rfl (still_mv rfl ot) ?_
  refine OD.split (t := 78) lk (fun hg78 => ?_) (fun hg78 => ?_)
  ·have hg78' := hg78; (try simp only [V.cnd, ne_eq] at hg78')
   refine OD.still (wants_T rfl rfl rfl lk (by first | rfl | assumption)) rfl (still_mv rfl ot) ?_
   refine OD.still (wants_T rfl rfl rfl lk (by first | rfl | assumption)) rfl (still_bin rfl ot opd_const bin_eql) ?_
   refine OD.still (wants_plain rfl) rfl (still_pickT rfl ot (by first | rfl | assumption) ot) ?_
   refine OD.still (wants_plain rfl) rfl (still_mv rfl ot) ?_
   refine OD.split (t := 82) lk (fun hg82 => ?_) (fun hg82 => ?_)
   ·have hg82' := hg82; (try simp only [V.cnd, ne_eq] at hg82')
    refine OD.still (wants_T rfl rfl rfl lk (by first | rfl | assumption)) rfl (still_mv rfl ot) ?_
    refine OD.still (wants_T rfl rfl rfl lk (by first | rfl | assumption)) rfl (still_r1 (mk := fun y => .call { callee := .builtin .len, args := #[y], argTypes := #[47] }) rfl ot (by first | exact len_list rfl Tryd.runUnderlying47 | exact len_row rfl Tryd.runUnderlying47)) ?_
    refine OD.still (wants_T rfl rfl rfl lk (by first | rfl | assumption)) rfl (still_mv rfl ot) ?_
    refine OD.still (wants_T rfl rfl rfl lk (by first | rfl | assumption)) rfl (still_r1 (mk := fun y => .call { callee := .builtin .len, args := #[y], argTypes := #[47] }) rfl ot (by first | exact len_list rfl Tryd.runUnderlying47 | exact len_row rfl Tryd.runUnderlying47)) ?_
    refine OD.still (wants_T rfl rfl rfl lk (by first | rfl | assumption)) rfl (still_bin rfl ot ot (bin_add (wrap_i64 (by decide) (by decide)))) ?_
    refine OD.still (wants_T rfl rfl rfl lk (by first | rfl | assumption)) rfl (still_bin rfl ot opd_const bin_eql) ?_
    refine OD.still (wants_plain rfl) rfl (still_pickT rfl ot (by first | rfl | assumption) ot) ?_
    refine OD.still (wants_plain rfl) rfl (still_mv rfl ot) ?_
    refine OD.split (t := 90) lk (fun hg90 => ?_) (fun hg90 => ?_)
    ·have hg90' := hg90; (try simp only [V.cnd, ne_eq] at hg90')
     refine OD.still (wants_T rfl rfl rfl lk (by first | rfl | assumption)) rfl (still_mv rfl ot) ?_
     refine OD.still (wants_T rfl rfl rfl lk (by first | rfl | assumption)) rfl (still_r1 (mk := fun y => .call { callee := .builtin .len, args := #[y], argTypes := #[47] }) rfl ot (by first | exact len_list rfl Tryd.runUnderlying47 | exact len_row rfl Tryd.runUnderlying47)) ?_
     refine OD.still (wants_T rfl rfl rfl lk (by first | rfl | assumption)) rfl (still_bin rfl ot opd_const bin_gtr) ?_
     refine OD.still (wants_plain rfl) rfl (still_pickT rfl ot (by first | rfl | assumption) ot) ?_
     refine OD.still (wants_plain rfl) rfl (still_mv rfl ot) ?_
     refine OD.split (t := 95) lk (fun hg95 => ?_) (fun hg95 => ?_)
     ·have hg95' := hg95; (try simp only [V.cnd, ne_eq] at hg95')
      refine OD.still (wants_T rfl rfl rfl lk (by first | rfl | assumption)) rfl (still_mv rfl ot) ?_
      first | refine OD.still (wants_T rfl rfl rfl lk (by first | rfl | assumption)) rfl (still_ofBytes rfl ot Tryd.underlying47 Tryd.underlying5 Tryd.underlying9) ?_ | refine OD.still (wants_T rfl rfl rfl lk (by first | rfl | assumption)) rfl (still_ofBytesF rfl ot Tryd.underlying47 Tryd.underlying5 Tryd.underlying9) ?_
      refine OD.still (wants_T rfl rfl rfl lk (by first | rfl | assumption)) rfl (still_mv rfl ot) ?_
      first | refine OD.still (wants_T rfl rfl rfl lk (by first | rfl | assumption)) rfl (still_ofBytes rfl ot Tryd.underlying47 Tryd.underlying5 Tryd.underlying9) ?_ | refine OD.still (wants_T rfl rfl rfl lk (by first | rfl | assumption)) rfl (still_ofBytesF rfl ot Tryd.underlying47 Tryd.underlying5 Tryd.underlying9) ?_
      refine OD.still (wants_T rfl rfl rfl lk (by first | rfl | assumption)) rfl (still_bin rfl ot ot bin_seql) ?_
      refine OD.still (wants_plain rfl) rfl (still_pickT rfl ot (by first | rfl | assumption) ot) ?_
      refine OD.still (wants_plain rfl) rfl (still_as rfl ot) ?_
      refine OD.wk (Wk.as_ (n := 102) (l' := [(4, _)]) (S' := [⟨b52, 25, 7, [_, _, _, _, _, _, _]⟩, ⟨b7, 40, 5, [_, _, _, _, _]⟩, ⟨b6, 40, 5, [_, _, _, _, _]⟩, ⟨b5, 40, 5, [_, _, _, _, _]⟩]) rfl rfl ⟨lk, trivial⟩) ?_
      refine OD.nil ?_
      refine CD.ret ?_
      refine ⟨.inr rfl, _, [], List.nil_sublist _, ret_one Tryd.results7 (res_tmp (Nat.le_of_ble_eq_true rfl) lk), ?_⟩
      first | exact ⟨rfl, rfl⟩ | (refine ⟨vb ?_, rfl⟩; simp)
     ·exact absurd hg95 (by rw [hkl]; decide)
    ·exact absurd hg90 (by simp)
   ·exact absurd hg82 (by simp)
  ·exact absurd hg78 (by simp)

set_option maxHeartbeats 4000000 in
set_option maxRecDepth 100000 in
theorem none4_vp {m : Int} (hm : (3, marksC) ∈ G) (hw : (0, wordsC) ∈ G) (ht : (2, typesC) ∈ G) (hG : (1, [Value.int .i64 m]) ∈ G) (n : Int) (n1 : -9223372036854775808 ≤ n) (n2 : n ≤ 9223372036854775807) (which : Int) (which1 : -9223372036854775808 ≤ which) (which2 : which ≤ 9223372036854775807) (hk : pickedF which 7 = 4) : VP Tryd.prog G 7 [.v (.int .i64 n), .v (.int .i64 which)] (.v (.bool true)) := by
 refine VC.body Tryd.func7 rfl Tryd.ntmps7 (Nat.le_of_ble_eq_true rfl) fun X0 w0 S00 => ?_
 have hxb := pickedF_bd n (show (1 : Int) ≤ 100 by decide)
 have hbv := Bounds_at hm hw ht hG [idO, bareOp 11] (fine_cons fine_id (fine_cons (fine_bare 11) fine_nil))
 rw [none4 hxb.1] at hbv
 unfold bdD bytesL at hbv
 have hbw := Bounds_at hm hw ht hG [idO, litO (pickedF n 100), bareOp 6] (fine_cons fine_id (fine_cons (fine_lit (by omega) (by omega)) (fine_cons (fine_bare 6) fine_nil)))
 rw [one0 hxb.1] at hbw
 unfold bdD bytesL at hbw
 have hkl := key_len (pickedF n 100)
 have hpn := (picked_vp G n 100 n1 n2 (by decide))
 have hnv := number_vp (G := G) (pickedF n 100)
 unfold cV at hnv
 have hpk := (picked_vp G which 7 which1 which2 (by decide))
 rw [hk] at hpk
 generalize (pickedF n 100) = x at *
 refine CD.seq ?_
 refine CD.region ?_
 refine OD.still (wants_plain rfl) rfl (still_as rfl opd_const) ?_
 refine OD.wk (Wk.as_ (n := 102) (l' := [(0, _), (1, _)]) (S' := []) rfl rfl ⟨lk, lk, trivial⟩) ?_
 refine OD.nil ?_
 refine CD.seq ?_
 refine CD.region ?_
 refine OD.still (wants_plain rfl) rfl (still_mv rfl ot) ?_
 refine OD.callP (wants_plain rfl) rfl rfl rfl Tryd.call15 (hpn) ⟨ot, opd_const, trivial⟩ ?_
 refine OD.callP (wants_plain rfl) rfl rfl rfl Tryd.call19 (hnv) ⟨ot, trivial⟩ ?_
 refine OD.still (wants_plain rfl) rfl (still_bld (pl := [(0, _), (1, _)]) (ds := [_, _, _, _, _]) rfl Tryd.zeroValue40 Tryd.runUnderlying40 places40_Exc ⟨rfl, opd_const, rfl, ot, trivial⟩ rfl rfl) ?_
 refine OD.alloc (ds := [_, _, _, _, _]) (wants_plain rfl) rfl rfl Tryd.zeroValue40 rfl (fun b5 => ?_)
 refine OD.store (k := 0) (cs' := [_, _, _, _, _]) (wants_plain rfl) rfl rfl ot rfl rfl ot rfl rfl Tryd.sizeOf40 rfl rfl rfl ?_
 refine OD.wk (Wk.as_ (n := 102) (l' := [(1, _), (5, _)]) (S' := [⟨b5, 40, 5, [_, _, _, _, _]⟩]) rfl rfl ⟨lk, lk, trivial⟩) ?_
 refine OD.nil ?_
 refine CD.seq ?_
 refine CD.region ?_
 refine OD.still (wants_plain rfl) rfl (still_bld (pl := [(0, _), (2, _)]) (ds := [_, _, _, _, _]) rfl Tryd.zeroValue40 Tryd.runUnderlying40 places40_Exc ⟨rfl, opd_const, rfl, opd_const, trivial⟩ rfl rfl) ?_
 refine OD.alloc (ds := [_, _, _, _, _]) (wants_plain rfl) rfl rfl Tryd.zeroValue40 rfl (fun b6 => ?_)
 refine OD.store (k := 0) (cs' := [_, _, _, _, _]) (wants_plain rfl) rfl rfl ot rfl rfl ot rfl rfl Tryd.sizeOf40 rfl rfl rfl ?_
 refine OD.wk (Wk.as_ (n := 102) (l' := [(1, _), (5, _), (6, _)]) (S' := [⟨b6, 40, 5, [_, _, _, _, _]⟩, ⟨b5, 40, 5, [_, _, _, _, _]⟩]) rfl rfl ⟨lk, lk, lk, trivial⟩) ?_
 refine OD.nil ?_
 refine CD.seq ?_
 refine CD.region ?_
 refine OD.still (wants_plain rfl) rfl (still_bld (pl := [(0, _), (2, _)]) (ds := [_, _, _, _, _]) rfl Tryd.zeroValue40 Tryd.runUnderlying40 places40_Exc ⟨rfl, opd_const, rfl, opd_const, trivial⟩ rfl rfl) ?_
 refine OD.alloc (ds := [_, _, _, _, _]) (wants_plain rfl) rfl rfl Tryd.zeroValue40 rfl (fun b7 => ?_)
 refine OD.store (k := 0) (cs' := [_, _, _, _, _]) (wants_plain rfl) rfl rfl ot rfl rfl ot rfl rfl Tryd.sizeOf40 rfl rfl rfl ?_
 refine OD.wk (Wk.as_ (n := 102) (l' := [(1, _), (5, _), (6, _), (7, _)]) (S' := [⟨b7, 40, 5, [_, _, _, _, _]⟩, ⟨b6, 40, 5, [_, _, _, _, _]⟩, ⟨b5, 40, 5, [_, _, _, _, _]⟩]) rfl rfl ⟨lk, lk, lk, lk, trivial⟩) ?_
 refine OD.nil ?_
 refine CD.seq ?_
 refine CD.region ?_
 refine OD.still (wants_plain rfl) rfl (still_r1 (mk := Op.load 40) rfl ot (by first | exact ld_blks (k := 0) (ds := [_, _, _, _, _]) rfl rfl Tryd.isAgg40 Tryd.sizeOf40 rfl rfl | exact ld_is (ds := [_, _, _, _, _]) Tryd.isAgg40 Tryd.sizeOf40 rfl rfl)) ?_
 refine OD.still (wants_plain rfl) rfl (still_r1 (mk := Op.load 40) rfl ot (by first | exact ld_blks (k := 2) (ds := [_, _, _, _, _]) rfl rfl Tryd.isAgg40 Tryd.sizeOf40 rfl rfl | exact ld_is (ds := [_, _, _, _, _]) Tryd.isAgg40 Tryd.sizeOf40 rfl rfl)) ?_
 refine OD.still (wants_plain rfl) rfl (still_bld (pl := [(0, _)]) (ds := [_, _, _, _, _]) rfl Tryd.zeroValue40 Tryd.runUnderlying40 places40_Exc ⟨rfl, opd_const, trivial⟩ rfl rfl) ?_
 refine OD.bldS (pl := numD 0 [_, _, _]) (zvs := [.int .i64 0, .int .i64 0, .int .i64 0, .string ⟨#[]⟩, .string ⟨#[]⟩, .int .i64 0, .int .i64 0, .int .i64 0, .string ⟨#[]⟩, .string ⟨#[]⟩, .int .i64 0, .int .i64 0, .int .i64 0, .string ⟨#[]⟩, .string ⟨#[]⟩]) (ds := [_, _, _, _, _, _, _, _, _, _, _, _, _, _, _]) (wants_plain rfl) rfl rfl Tryd.zeroValue40 Tryd.runUnderlying25 Tryd.sizeOf40 rfl rfl (by kernel_rfl) ⟨rfl, ot, rfl, ot, rfl, ot, trivial⟩ (by exact rfl) (fill_full (by exact rfl) (by exact rfl) (by exact rfl)) (fun b24 => ?_)
 refine OD.perm (perm_q11 (S1 := [⟨b24, 40, 3 * 5, List.flatMap cO ([colN, litO x, bareOp 6])⟩]) (A := [_, _, _])) ?_
 refine OD.giveL (t := 24) (Sq := [⟨b24, 40, 3 * 5, List.flatMap cO ([colN, litO x, bareOp 6])⟩]) lk (ownL_row (g := cO) (sz := 5) (e := 40) (ls := [colN, litO x, bareOp 6]) (Nat.le_refl _) (show 3 ≤ maxLen by decide)) (fm_len cO_len _) (perm_r11 (A := [_, _, _])) ?_
 refine OD.still (wants_plain rfl) rfl (still_r1 (mk := Op.load 40) rfl ot (by first | exact ld_blks (k := 1) (ds := [_, _, _, _, _]) rfl rfl Tryd.isAgg40 Tryd.sizeOf40 rfl rfl | exact ld_is (ds := [_, _, _, _, _]) Tryd.isAgg40 Tryd.sizeOf40 rfl rfl)) ?_
 refine OD.still (wants_plain rfl) rfl (still_bld (pl := [(0, _)]) (ds := [_, _, _, _, _]) rfl Tryd.zeroValue40 Tryd.runUnderlying40 places40_Exc ⟨rfl, opd_const, trivial⟩ rfl rfl) ?_
 refine OD.still (wants_plain rfl) rfl (still_bld (pl := [(0, _)]) (ds := [_, _, _, _, _]) rfl Tryd.zeroValue40 Tryd.runUnderlying40 places40_Exc ⟨rfl, opd_const, trivial⟩ rfl rfl) ?_
 refine OD.bldS (pl := numD 0 [_, _, _]) (zvs := [.int .i64 0, .int .i64 0, .int .i64 0, .string ⟨#[]⟩, .string ⟨#[]⟩, .int .i64 0, .int .i64 0, .int .i64 0, .string ⟨#[]⟩, .string ⟨#[]⟩, .int .i64 0, .int .i64 0, .int .i64 0, .string ⟨#[]⟩, .string ⟨#[]⟩]) (ds := [_, _, _, _, _, _, _, _, _, _, _, _, _, _, _]) (wants_plain rfl) rfl rfl Tryd.zeroValue40 Tryd.runUnderlying25 Tryd.sizeOf40 rfl rfl (by kernel_rfl) ⟨rfl, ot, rfl, ot, rfl, ot, trivial⟩ (by exact rfl) (fill_full (by exact rfl) (by exact rfl) (by exact rfl)) (fun b28 => ?_)
 refine OD.perm (perm_q11 (S1 := [⟨b28, 40, 3 * 5, List.flatMap cO ([idO, nulO, bareOp 6])⟩]) (A := [_, _, _])) ?_
 refine OD.giveL (t := 28) (Sq := [⟨b28, 40, 3 * 5, List.flatMap cO ([idO, nulO, bareOp 6])⟩]) lk (ownL_row (g := cO) (sz := 5) (e := 40) (ls := [idO, nulO, bareOp 6]) (Nat.le_refl _) (show 3 ≤ maxLen by decide)) (fm_len cO_len _) (perm_r11 (A := [_, _, _])) ?_
 refine OD.still (wants_plain rfl) rfl (still_r1 (mk := Op.load 40) rfl ot (by first | exact ld_blks (k := 1) (ds := [_, _, _, _, _]) rfl rfl Tryd.isAgg40 Tryd.sizeOf40 rfl rfl | exact ld_is (ds := [_, _, _, _, _]) Tryd.isAgg40 Tryd.sizeOf40 rfl rfl)) ?_
 refine OD.still (wants_plain rfl) rfl (still_r1 (mk := Op.load 40) rfl ot (by first | exact ld_blks (k := 0) (ds := [_, _, _, _, _]) rfl rfl Tryd.isAgg40 Tryd.sizeOf40 rfl rfl | exact ld_is (ds := [_, _, _, _, _]) Tryd.isAgg40 Tryd.sizeOf40 rfl rfl)) ?_
 refine OD.still (wants_plain rfl) rfl (still_bld (pl := [(0, _)]) (ds := [_, _, _, _, _]) rfl Tryd.zeroValue40 Tryd.runUnderlying40 places40_Exc ⟨rfl, opd_const, trivial⟩ rfl rfl) ?_
 refine OD.bldS (pl := numD 0 [_, _, _]) (zvs := [.int .i64 0, .int .i64 0, .int .i64 0, .string ⟨#[]⟩, .string ⟨#[]⟩, .int .i64 0, .int .i64 0, .int .i64 0, .string ⟨#[]⟩, .string ⟨#[]⟩, .int .i64 0, .int .i64 0, .int .i64 0, .string ⟨#[]⟩, .string ⟨#[]⟩]) (ds := [_, _, _, _, _, _, _, _, _, _, _, _, _, _, _]) (wants_plain rfl) rfl rfl Tryd.zeroValue40 Tryd.runUnderlying25 Tryd.sizeOf40 rfl rfl (by kernel_rfl) ⟨rfl, ot, rfl, ot, rfl, ot, trivial⟩ (by exact rfl) (fill_full (by exact rfl) (by exact rfl) (by exact rfl)) (fun b32 => ?_)
 refine OD.perm (perm_q11 (S1 := [⟨b32, 40, 3 * 5, List.flatMap cO ([idO, colN, bareOp 7])⟩]) (A := [_, _, _])) ?_
 refine OD.giveL (t := 32) (Sq := [⟨b32, 40, 3 * 5, List.flatMap cO ([idO, colN, bareOp 7])⟩]) lk (ownL_row (g := cO) (sz := 5) (e := 40) (ls := [idO, colN, bareOp 7]) (Nat.le_refl _) (show 3 ≤ maxLen by decide)) (fm_len cO_len _) (perm_r11 (A := [_, _, _])) ?_
 refine OD.still (wants_plain rfl) rfl (still_r1 (mk := Op.load 40) rfl ot (by first | exact ld_blks (k := 2) (ds := [_, _, _, _, _]) rfl rfl Tryd.isAgg40 Tryd.sizeOf40 rfl rfl | exact ld_is (ds := [_, _, _, _, _]) Tryd.isAgg40 Tryd.sizeOf40 rfl rfl)) ?_
 refine OD.still (wants_plain rfl) rfl (still_r1 (mk := Op.load 40) rfl ot (by first | exact ld_blks (k := 2) (ds := [_, _, _, _, _]) rfl rfl Tryd.isAgg40 Tryd.sizeOf40 rfl rfl | exact ld_is (ds := [_, _, _, _, _]) Tryd.isAgg40 Tryd.sizeOf40 rfl rfl)) ?_
 refine OD.still (wants_plain rfl) rfl (still_bld (pl := [(0, _)]) (ds := [_, _, _, _, _]) rfl Tryd.zeroValue40 Tryd.runUnderlying40 places40_Exc ⟨rfl, opd_const, trivial⟩ rfl rfl) ?_
 refine OD.bldS (pl := numD 0 [_, _, _]) (zvs := [.int .i64 0, .int .i64 0, .int .i64 0, .string ⟨#[]⟩, .string ⟨#[]⟩, .int .i64 0, .int .i64 0, .int .i64 0, .string ⟨#[]⟩, .string ⟨#[]⟩, .int .i64 0, .int .i64 0, .int .i64 0, .string ⟨#[]⟩, .string ⟨#[]⟩]) (ds := [_, _, _, _, _, _, _, _, _, _, _, _, _, _, _]) (wants_plain rfl) rfl rfl Tryd.zeroValue40 Tryd.runUnderlying25 Tryd.sizeOf40 rfl rfl (by kernel_rfl) ⟨rfl, ot, rfl, ot, rfl, ot, trivial⟩ (by exact rfl) (fill_full (by exact rfl) (by exact rfl) (by exact rfl)) (fun b36 => ?_)
 refine OD.perm (perm_q11 (S1 := [⟨b36, 40, 3 * 5, List.flatMap cO ([litO x, litO x, bareOp 7])⟩]) (A := [_, _, _])) ?_
 refine OD.giveL (t := 36) (Sq := [⟨b36, 40, 3 * 5, List.flatMap cO ([litO x, litO x, bareOp 7])⟩]) lk (ownL_row (g := cO) (sz := 5) (e := 40) (ls := [litO x, litO x, bareOp 7]) (Nat.le_refl _) (show 3 ≤ maxLen by decide)) (fm_len cO_len _) (perm_r11 (A := [_, _, _])) ?_
 refine OD.still (wants_plain rfl) rfl (still_r1 (mk := Op.load 40) rfl ot (by first | exact ld_blks (k := 1) (ds := [_, _, _, _, _]) rfl rfl Tryd.isAgg40 Tryd.sizeOf40 rfl rfl | exact ld_is (ds := [_, _, _, _, _]) Tryd.isAgg40 Tryd.sizeOf40 rfl rfl)) ?_
 refine OD.still (wants_plain rfl) rfl (still_bld (pl := [(0, _)]) (ds := [_, _, _, _, _]) rfl Tryd.zeroValue40 Tryd.runUnderlying40 places40_Exc ⟨rfl, opd_const, trivial⟩ rfl rfl) ?_
 refine OD.bldS (pl := numD 0 [_, _]) (zvs := [.int .i64 0, .int .i64 0, .int .i64 0, .string ⟨#[]⟩, .string ⟨#[]⟩, .int .i64 0, .int .i64 0, .int .i64 0, .string ⟨#[]⟩, .string ⟨#[]⟩]) (ds := [_, _, _, _, _, _, _, _, _, _]) (wants_plain rfl) rfl rfl Tryd.zeroValue40 Tryd.runUnderlying25 Tryd.sizeOf40 rfl rfl (by kernel_rfl) ⟨rfl, ot, rfl, ot, trivial⟩ (by exact rfl) (fill_full (by exact rfl) (by exact rfl) (by exact rfl)) (fun b39 => ?_)
 refine OD.perm (perm_q11 (S1 := [⟨b39, 40, 2 * 5, List.flatMap cO ([idO, bareOp 11])⟩]) (A := [_, _, _])) ?_
 refine OD.giveL (t := 39) (Sq := [⟨b39, 40, 2 * 5, List.flatMap cO ([idO, bareOp 11])⟩]) lk (ownL_row (g := cO) (sz := 5) (e := 40) (ls := [idO, bareOp 11]) (Nat.le_refl _) (show 2 ≤ maxLen by decide)) (fm_len cO_len _) (perm_r11 (A := [_, _, _])) ?_
 refine OD.still (wants_plain rfl) rfl (still_r1 (mk := Op.load 40) rfl ot (by first | exact ld_blks (k := 1) (ds := [_, _, _, _, _]) rfl rfl Tryd.isAgg40 Tryd.sizeOf40 rfl rfl | exact ld_is (ds := [_, _, _, _, _]) Tryd.isAgg40 Tryd.sizeOf40 rfl rfl)) ?_
 refine OD.still (wants_plain rfl) rfl (still_r1 (mk := Op.load 40) rfl ot (by first | exact ld_blks (k := 2) (ds := [_, _, _, _, _]) rfl rfl Tryd.isAgg40 Tryd.sizeOf40 rfl rfl | exact ld_is (ds := [_, _, _, _, _]) Tryd.isAgg40 Tryd.sizeOf40 rfl rfl)) ?_
 refine OD.still (wants_plain rfl) rfl (still_bld (pl := [(0, _)]) (ds := [_, _, _, _, _]) rfl Tryd.zeroValue40 Tryd.runUnderlying40 places40_Exc ⟨rfl, opd_const, trivial⟩ rfl rfl) ?_
 refine OD.still (wants_plain rfl) rfl (still_r1 (mk := Op.load 40) rfl ot (by first | exact ld_blks (k := 2) (ds := [_, _, _, _, _]) rfl rfl Tryd.isAgg40 Tryd.sizeOf40 rfl rfl | exact ld_is (ds := [_, _, _, _, _]) Tryd.isAgg40 Tryd.sizeOf40 rfl rfl)) ?_
 refine OD.still (wants_plain rfl) rfl (still_bld (pl := [(0, _)]) (ds := [_, _, _, _, _]) rfl Tryd.zeroValue40 Tryd.runUnderlying40 places40_Exc ⟨rfl, opd_const, trivial⟩ rfl rfl) ?_
 refine OD.bldS (pl := numD 0 [_, _, _, _, _]) (zvs := [.int .i64 0, .int .i64 0, .int .i64 0, .string ⟨#[]⟩, .string ⟨#[]⟩, .int .i64 0, .int .i64 0, .int .i64 0, .string ⟨#[]⟩, .string ⟨#[]⟩, .int .i64 0, .int .i64 0, .int .i64 0, .string ⟨#[]⟩, .string ⟨#[]⟩, .int .i64 0, .int .i64 0, .int .i64 0, .string ⟨#[]⟩, .string ⟨#[]⟩, .int .i64 0, .int .i64 0, .int .i64 0, .string ⟨#[]⟩, .string ⟨#[]⟩]) (ds := [_, _, _, _, _, _, _, _, _, _, _, _, _, _, _, _, _, _, _, _, _, _, _, _, _]) (wants_plain rfl) rfl rfl Tryd.zeroValue40 Tryd.runUnderlying25 Tryd.sizeOf40 rfl rfl (by kernel_rfl) ⟨rfl, ot, rfl, ot, rfl, ot, rfl, ot, rfl, ot, trivial⟩ (by exact rfl) (fill_full (by exact rfl) (by exact rfl) (by exact rfl)) (fun b45 => ?_)
 refine OD.perm (perm_q11 (S1 := [⟨b45, 40, 5 * 5, List.flatMap cO ([idO, litO x, bareOp 8, litO x, bareOp 7])⟩]) (A := [_, _, _])) ?_
 refine OD.giveL (t := 45) (Sq := [⟨b45, 40, 5 * 5, List.flatMap cO ([idO, litO x, bareOp 8, litO x, bareOp 7])⟩]) lk (ownL_row (g := cO) (sz := 5) (e := 40) (ls := [idO, litO x, bareOp 8, litO x, bareOp 7]) (Nat.le_refl _) (show 5 ≤ maxLen by decide)) (fm_len cO_len _) (perm_r11 (A := [_, _, _])) ?_
 refine OD.still (wants_plain rfl) rfl (still_r1 (mk := Op.load 40) rfl ot (by first | exact ld_blks (k := 1) (ds := [_, _, _, _, _]) rfl rfl Tryd.isAgg40 Tryd.sizeOf40 rfl rfl | exact ld_is (ds := [_, _, _, _, _]) Tryd.isAgg40 Tryd.sizeOf40 rfl rfl)) ?_
 refine OD.still (wants_plain rfl) rfl (still_r1 (mk := Op.load 40) rfl ot (by first | exact ld_blks (k := 2) (ds := [_, _, _, _, _]) rfl rfl Tryd.isAgg40 Tryd.sizeOf40 rfl rfl | exact ld_is (ds := [_, _, _, _, _]) Tryd.isAgg40 Tryd.sizeOf40 rfl rfl)) ?_
 refine OD.still (wants_plain rfl) rfl (still_bld (pl := [(0, _)]) (ds := [_, _, _, _, _]) rfl Tryd.zeroValue40 Tryd.runUnderlying40 places40_Exc ⟨rfl, opd_const, trivial⟩ rfl rfl) ?_
 refine OD.still (wants_plain rfl) rfl (still_bld (pl := [(0, _)]) (ds := [_, _, _, _, _]) rfl Tryd.zeroValue40 Tryd.runUnderlying40 places40_Exc ⟨rfl, opd_const, trivial⟩ rfl rfl) ?_
 refine OD.still (wants_plain rfl) rfl (still_bld (pl := [(0, _)]) (ds := [_, _, _, _, _]) rfl Tryd.zeroValue40 Tryd.runUnderlying40 places40_Exc ⟨rfl, opd_const, trivial⟩ rfl rfl) ?_
 refine OD.bldS (pl := numD 0 [_, _, _, _, _]) (zvs := [.int .i64 0, .int .i64 0, .int .i64 0, .string ⟨#[]⟩, .string ⟨#[]⟩, .int .i64 0, .int .i64 0, .int .i64 0, .string ⟨#[]⟩, .string ⟨#[]⟩, .int .i64 0, .int .i64 0, .int .i64 0, .string ⟨#[]⟩, .string ⟨#[]⟩, .int .i64 0, .int .i64 0, .int .i64 0, .string ⟨#[]⟩, .string ⟨#[]⟩, .int .i64 0, .int .i64 0, .int .i64 0, .string ⟨#[]⟩, .string ⟨#[]⟩]) (ds := [_, _, _, _, _, _, _, _, _, _, _, _, _, _, _, _, _, _, _, _, _, _, _, _, _]) (wants_plain rfl) rfl rfl Tryd.zeroValue40 Tryd.runUnderlying25 Tryd.sizeOf40 rfl rfl (by kernel_rfl) ⟨rfl, ot, rfl, ot, rfl, ot, rfl, ot, rfl, ot, trivial⟩ (by exact rfl) (fill_full (by exact rfl) (by exact rfl) (by exact rfl)) (fun b51 => ?_)
 refine OD.perm (perm_q11 (S1 := [⟨b51, 40, 5 * 5, List.flatMap cO ([idO, litO x, bareOp 7, bareOp 5, bareOp 5])⟩]) (A := [_, _, _])) ?_
 refine OD.giveL (t := 51) (Sq := [⟨b51, 40, 5 * 5, List.flatMap cO ([idO, litO x, bareOp 7, bareOp 5, bareOp 5])⟩]) lk (ownL_row (g := cO) (sz := 5) (e := 40) (ls := [idO, litO x, bareOp 7, bareOp 5, bareOp 5]) (Nat.le_refl _) (show 5 ≤ maxLen by decide)) (fm_len cO_len _) (perm_r11 (A := [_, _, _])) ?_
 refine OD.bldS (pl := numD 0 [_, _, _, _, _, _, _]) (zvs := [.slice none 0 0, .slice none 0 0, .slice none 0 0, .slice none 0 0, .slice none 0 0, .slice none 0 0, .slice none 0 0]) (ds := [_, _, _, _, _, _, _]) (wants_plain rfl) rfl rfl Tryd.zeroValue25 Tryd.runUnderlying46 Tryd.sizeOf25 rfl rfl (by kernel_rfl) ⟨rfl, ot, rfl, ot, rfl, ot, rfl, ot, rfl, ot, rfl, ot, rfl, ot, trivial⟩ (by exact rfl) (fill_full (by exact rfl) (by exact rfl) (by exact rfl)) (fun b52 => ?_)
 refine OD.still (wants_plain rfl) rfl (still_as rfl ot) ?_
 refine OD.wk (Wk.as_ (n := 102) (l' := [(1, _), (5, _), (6, _), (8, _)]) (S' := [⟨b52, 25, 7, [_, _, _, _, _, _, _]⟩, ⟨b7, 40, 5, [_, _, _, _, _]⟩, ⟨b6, 40, 5, [_, _, _, _, _]⟩, ⟨b5, 40, 5, [_, _, _, _, _]⟩]) rfl rfl ⟨lk, lk, lk, lk, trivial⟩) ?_
 refine OD.nil ?_
 refine CD.seq ?_
 refine CD.region ?_
 refine OD.callP (wants_plain rfl) rfl rfl rfl Tryd.call10 (colsOf_vp) trivial ?_
 refine OD.still (wants_plain rfl) rfl (still_mv rfl ot) ?_
 refine OD.still (wants_plain rfl) rfl (still_mv rfl ot) ?_
 refine OD.still (wants_plain rfl) rfl (still_mv rfl ot) ?_
 refine OD.still (wants_plain rfl) rfl (still_r1 (mk := fun y => .call { callee := .builtin .len, args := #[y], argTypes := #[46] }) rfl ot (by first | exact len_list rfl Tryd.runUnderlying46 | exact len_row rfl Tryd.runUnderlying46)) ?_
 refine OD.callP (wants_plain rfl) rfl rfl rfl Tryd.call15 (hpk) ⟨ot, ot, trivial⟩ ?_
 refine OD.still (wants_plain rfl) rfl (still_r2 (mk := Op.indexAddr 46) rfl ot ot (by first | exact ix_list Tryd.runUnderlying46 Tryd.sizeOf25 (j := 4) rfl (by decide) | exact ix_row Tryd.runUnderlying46 Tryd.sizeOf25 (j := 4) rfl (by decide))) ?_
 refine OD.still (wants_plain rfl) rfl (still_r1 (mk := Op.load 25) rfl ot (by first | exact ld_blk (k := 0) rfl rfl Tryd.isAgg25 rfl | exact ld_blk (k := 1) rfl rfl Tryd.isAgg25 rfl | exact ld_blk (k := 2) rfl rfl Tryd.isAgg25 rfl | exact ld_blk (k := 3) rfl rfl Tryd.isAgg25 rfl | exact ld_i Tryd.isAgg25 rfl)) ?_
 refine OD.callP (wants_plain rfl) rfl rfl rfl Tryd.call16 (hbv) ⟨ot, ot, trivial⟩ ?_
 refine OD.still (wants_plain rfl) rfl (still_mv rfl ot) ?_
 refine OD.still (wants_plain rfl) rfl (still_extract rfl ot rfl) ?_
 refine OD.still (wants_plain rfl) rfl (still_extract rfl ot rfl) ?_
 refine OD.still (wants_plain rfl) rfl (still_extract rfl ot rfl) ?_
 refine OD.still (wants_plain rfl) rfl (still_as rfl ot) ?_
 refine OD.still (wants_plain rfl) rfl (still_as rfl ot) ?_
 refine OD.still (wants_plain rfl) rfl (still_as rfl ot) ?_
 refine OD.wk (Wk.as_ (n := 102) (l' := [(5, _), (6, _), (9, _), (10, _), (11, _)]) (S' := [⟨b52, 25, 7, [_, _, _, _, _, _, _]⟩, ⟨b7, 40, 5, [_, _, _, _, _]⟩, ⟨b6, 40, 5, [_, _, _, _, _]⟩, ⟨b5, 40, 5, [_, _, _, _, _]⟩]) rfl rfl ⟨lk, lk, lk, lk, lk, trivial⟩) ?_
 refine OD.nil ?_
 refine CD.seq ?_
 refine CD.draw (bks _) (by kernel_rfl) (fun _ h => h) ?_
 refine AD0.take (i := 1) rfl (by kernel_rfl) (by kernel_rfl) (by kernel_rfl) (by repeat (first | exact NP.body | apply NP.then | apply NP.cut | apply NP.inBlock | apply NP.round)) (wants_plain rfl) rfl (still_r1 (mk := Op.load 40) rfl ot (by first | exact ld_blks (k := 2) (ds := [_, _, _, _, _]) rfl rfl Tryd.isAgg40 Tryd.sizeOf40 rfl rfl | exact ld_is (ds := [_, _, _, _, _]) Tryd.isAgg40 Tryd.sizeOf40 rfl rfl)) (by first | exact trivial | exact safe_blk (k0 := 0) rfl rfl | exact safe_blk (k0 := 1) rfl rfl | exact safe_blk (k0 := 2) rfl rfl | exact safe_blk (k0 := 3) rfl rfl) ?_
 refine AD0.take (i := 2) rfl (by kernel_rfl) (by kernel_rfl) (by kernel_rfl) (by repeat (first | exact NP.body | apply NP.then | apply NP.cut | apply NP.inBlock | apply NP.round)) (wants_plain rfl) rfl (still_r1 (mk := Op.load 40) rfl ot (by first | exact ld_blks (k := 3) (ds := [_, _, _, _, _]) rfl rfl Tryd.isAgg40 Tryd.sizeOf40 rfl rfl | exact ld_is (ds := [_, _, _, _, _]) Tryd.isAgg40 Tryd.sizeOf40 rfl rfl)) (by first | exact trivial | exact safe_blk (k0 := 0) rfl rfl | exact safe_blk (k0 := 1) rfl rfl | exact safe_blk (k0 := 2) rfl rfl | exact safe_blk (k0 := 3) rfl rfl) ?_
 refine AD0.take (i := 3) rfl (by kernel_rfl) (by kernel_rfl) (by kernel_rfl) (by repeat (first | exact NP.body | apply NP.then | apply NP.cut | apply NP.inBlock | apply NP.round)) (wants_plain rfl) rfl (still_bld (pl := [(0, _)]) (ds := [_, _, _, _, _]) rfl Tryd.zeroValue40 Tryd.runUnderlying40 places40_Exc ⟨rfl, opd_const, trivial⟩ rfl rfl) (by exact trivial) ?_
 refine AD0.later rfl ?_
 refine AD.two (i := 0) (j := 4) (by kernel_rfl) ?_ ?_
 ·skip
  refine AStep.callP rfl (wants_plain rfl) rfl rfl rfl Tryd.call10 (colsOf_vp) trivial ?_
  refine AD.one (i := 4) (by kernel_rfl) ?_
  refine AStep.bldS (pl := numD 0 [_, _, _]) (zvs := [.int .i64 0, .int .i64 0, .int .i64 0, .string ⟨#[]⟩, .string ⟨#[]⟩, .int .i64 0, .int .i64 0, .int .i64 0, .string ⟨#[]⟩, .string ⟨#[]⟩, .int .i64 0, .int .i64 0, .int .i64 0, .string ⟨#[]⟩, .string ⟨#[]⟩]) (ds := [_, _, _, _, _, _, _, _, _, _, _, _, _, _, _]) rfl (wants_plain rfl) rfl rfl Tryd.zeroValue40 Tryd.runUnderlying25 Tryd.sizeOf40 rfl rfl (by kernel_rfl) ⟨rfl, ot, rfl, ot, rfl, ot, trivial⟩ (by exact rfl) (fill_full (by exact rfl) (by exact rfl) (by exact rfl)) (fun b71 => ?_)
  refine AD.give (k := 0) (t := 71) (sz := 5) (m := 3) rfl lk rfl rfl rfl (Nat.le_refl _) (by decide) ?_
  refine AD.one (i := 5) (by kernel_rfl) ?_
  refine AStep.callP rfl (wants_plain rfl) rfl rfl rfl Tryd.call16 (hbw) ⟨ot, ot, trivial⟩ ?_
  refine AD.take (i := 6) rfl (by kernel_rfl) (by kernel_rfl) (by kernel_rfl) (by repeat (first | exact NP.body | apply NP.then | apply NP.cut | apply NP.inBlock | apply NP.round)) (wants_plain rfl) rfl (still_mv rfl ot) (by exact trivial) (by intro h; cases h) ?_
  refine AD.take (i := 7) rfl (by kernel_rfl) (by kernel_rfl) (by kernel_rfl) (by repeat (first | exact NP.body | apply NP.then | apply NP.cut | apply NP.inBlock | apply NP.round)) (wants_plain rfl) rfl (still_extract rfl ot rfl) (by exact trivial) (by intro h; cases h) ?_
  refine AD.take (i := 8) rfl (by kernel_rfl) (by kernel_rfl) (by kernel_rfl) (by repeat (first | exact NP.body | apply NP.then | apply NP.cut | apply NP.inBlock | apply NP.round)) (wants_plain rfl) rfl (still_extract rfl ot rfl) (by exact trivial) (by intro h; cases h) ?_
  refine AD.take (i := 9) rfl (by kernel_rfl) (by kernel_rfl) (by kernel_rfl) (by repeat (first | exact NP.body | apply NP.then | apply NP.cut | apply NP.inBlock | apply NP.round)) (wants_plain rfl) rfl (still_extract rfl ot rfl) (by exact trivial) (by intro h; cases h) ?_
  refine AD.take (i := 10) rfl (by kernel_rfl) (by kernel_rfl) (by kernel_rfl) (by repeat (first | exact NP.body | apply NP.then | apply NP.cut | apply NP.inBlock | apply NP.round)) (wants_plain rfl) rfl (still_as rfl ot) (by exact trivial) (by intro h; cases h) ?_
  refine AD.take (i := 11) rfl (by kernel_rfl) (by kernel_rfl) (by kernel_rfl) (by repeat (first | exact NP.body | apply NP.then | apply NP.cut | apply NP.inBlock | apply NP.round)) (wants_plain rfl) rfl (still_as rfl ot) (by exact trivial) (by intro h; cases h) ?_
  refine AD.take (i := 12) rfl (by kernel_rfl) (by kernel_rfl) (by kernel_rfl) (by repeat (first | exact NP.body | apply NP.then | apply NP.cut | apply NP.inBlock | apply NP.round)) (wants_plain rfl) rfl (still_as rfl ot) (by exact trivial) (by intro h; cases h) ?_
  refine AD.wk (y := ⟨102, [(9, _), (10, _), (11, _), (12, _), (13, _), (14, _)], [⟨b52, 25, 7, [_, _, _, _, _, _, _]⟩, ⟨b7, 40, 5, [_, _, _, _, _]⟩, ⟨b6, 40, 5, [_, _, _, _, _]⟩, ⟨b5, 40, 5, [_, _, _, _, _]⟩]⟩) (Wk.as_ rfl rfl ⟨lk, lk, lk, lk, lk, lk, trivial⟩) rfl ?_
  refine AD.done (by kernel_rfl) ?_
  refine CD.seq ?_
  refine CD.region ?_
  refine OD.still (wants_plain rfl) rfl (still_mv rfl ot) ?_
  refine OD.still (wants_plain rfl) rfl (still_bin rfl ot opd_const bin_eql) ?_
  refine OD.still (wants_plain rfl) rfl (still_mv rfl ot) ?_
  refine OD.split (t := 78) lk (fun hg78 => ?_) (fun hg78 => ?_)
  ·have hg78' := hg78; (try simp only [V.cnd, ne_eq] at hg78')
   refine OD.still (wants_T rfl rfl rfl lk (by first | rfl | assumption)) rfl (still_mv rfl ot) ?_
   refine OD.still (wants_T rfl rfl rfl lk (by first | rfl | assumption)) rfl (still_bin rfl ot opd_const bin_eql) ?_
   refine OD.still (wants_plain rfl) rfl (still_pickT rfl ot (by first | rfl | assumption) ot) ?_
   refine OD.still (wants_plain rfl) rfl (still_mv rfl ot) ?_
   refine OD.split (t := 82) lk (fun hg82 => ?_) (fun hg82 => ?_)
   ·have hg82' := hg82; (try simp only [V.cnd, ne_eq] at hg82')
    refine OD.still (wants_T rfl rfl rfl lk (by first | rfl | assumption)) rfl (still_mv rfl ot) ?_
    refine OD.still (wants_T rfl rfl rfl lk (by first | rfl | assumption)) rfl (still_r1 (mk := fun y => .call { callee := .builtin .len, args := #[y], argTypes := #[47] }) rfl ot (by first | exact len_list rfl Tryd.runUnderlying47 | exact len_row rfl Tryd.runUnderlying47)) ?_
    refine OD.still (wants_T rfl rfl rfl lk (by first | rfl | assumption)) rfl (still_mv rfl ot) ?_
    refine OD.still (wants_T rfl rfl rfl lk (by first | rfl | assumption)) rfl (still_r1 (mk := fun y => .call { callee := .builtin .len, args := #[y], argTypes := #[47] }) rfl ot (by first | exact len_list rfl Tryd.runUnderlying47 | exact len_row rfl Tryd.runUnderlying47)) ?_
    refine OD.still (wants_T rfl rfl rfl lk (by first | rfl | assumption)) rfl (still_bin rfl ot ot (bin_add (wrap_i64 (by decide) (by decide)))) ?_
    refine OD.still (wants_T rfl rfl rfl lk (by first | rfl | assumption)) rfl (still_bin rfl ot opd_const bin_eql) ?_
    refine OD.still (wants_plain rfl) rfl (still_pickT rfl ot (by first | rfl | assumption) ot) ?_
    refine OD.still (wants_plain rfl) rfl (still_mv rfl ot) ?_
    refine OD.split (t := 90) lk (fun hg90 => ?_) (fun hg90 => ?_)
    ·have hg90' := hg90; (try simp only [V.cnd, ne_eq] at hg90')
     refine OD.still (wants_T rfl rfl rfl lk (by first | rfl | assumption)) rfl (still_mv rfl ot) ?_
     refine OD.still (wants_T rfl rfl rfl lk (by first | rfl | assumption)) rfl (still_r1 (mk := fun y => .call { callee := .builtin .len, args := #[y], argTypes := #[47] }) rfl ot (by first | exact len_list rfl Tryd.runUnderlying47 | exact len_row rfl Tryd.runUnderlying47)) ?_
     refine OD.still (wants_T rfl rfl rfl lk (by first | rfl | assumption)) rfl (still_bin rfl ot opd_const bin_gtr) ?_
     refine OD.still (wants_plain rfl) rfl (still_pickT rfl ot (by first | rfl | assumption) ot) ?_
     refine OD.still (wants_plain rfl) rfl (still_mv rfl ot) ?_
     refine OD.split (t := 95) lk (fun hg95 => ?_) (fun hg95 => ?_)
     ·have hg95' := hg95; (try simp only [V.cnd, ne_eq] at hg95')
      refine OD.still (wants_T rfl rfl rfl lk (by first | rfl | assumption)) rfl (still_mv rfl ot) ?_
      first | refine OD.still (wants_T rfl rfl rfl lk (by first | rfl | assumption)) rfl (still_ofBytes rfl ot Tryd.underlying47 Tryd.underlying5 Tryd.underlying9) ?_ | refine OD.still (wants_T rfl rfl rfl lk (by first | rfl | assumption)) rfl (still_ofBytesF rfl ot Tryd.underlying47 Tryd.underlying5 Tryd.underlying9) ?_
      refine OD.still (wants_T rfl rfl rfl lk (by first | rfl | assumption)) rfl (still_mv rfl ot) ?_
      first | refine OD.still (wants_T rfl rfl rfl lk (by first | rfl | assumption)) rfl (still_ofBytes rfl ot Tryd.underlying47 Tryd.underlying5 Tryd.underlying9) ?_ | refine OD.still (wants_T rfl rfl rfl lk (by first | rfl | assumption)) rfl (still_ofBytesF rfl ot Tryd.underlying47 Tryd.underlying5 Tryd.underlying9) ?_
      refine OD.still (wants_T rfl rfl rfl lk (by first | rfl | assumption)) rfl (still_bin rfl ot ot bin_seql) ?_
      refine OD.still (wants_plain rfl) rfl (still_pickT rfl ot (by first | rfl | assumption) ot) ?_
      refine OD.still (wants_plain rfl) rfl (still_as rfl ot) ?_
      refine OD.wk (Wk.as_ (n := 102) (l' := [(4, _)]) (S' := [⟨b52, 25, 7, [_, _, _, _, _, _, _]⟩, ⟨b7, 40, 5, [_, _, _, _, _]⟩, ⟨b6, 40, 5, [_, _, _, _, _]⟩, ⟨b5, 40, 5, [_, _, _, _, _]⟩]) rfl rfl ⟨lk, trivial⟩) ?_
      refine OD.nil ?_
      refine CD.ret ?_
      refine ⟨.inr rfl, _, [], List.nil_sublist _, ret_one Tryd.results7 (res_tmp (Nat.le_of_ble_eq_true rfl) lk), ?_⟩
      first | exact ⟨rfl, rfl⟩ | (refine ⟨vb ?_, rfl⟩; simp)
     ·exact absurd hg95 (by rw [hkl]; decide)
    ·exact absurd hg90 (by simp)
   ·exact absurd hg82 (by simp)
  ·exact absurd hg78 (by simp)
 ·skip
  refine AStep.bldS (pl := numD 0 [_, _, _]) (zvs := [.int .i64 0, .int .i64 0, .int .i64 0, .string ⟨#[]⟩, .string ⟨#[]⟩, .int .i64 0, .int .i64 0, .int .i64 0, .string ⟨#[]⟩, .string ⟨#[]⟩, .int .i64 0, .int .i64 0, .int .i64 0, .string ⟨#[]⟩, .string ⟨#[]⟩]) (ds := [_, _, _, _, _, _, _, _, _, _, _, _, _, _, _]) rfl (wants_plain rfl) rfl rfl Tryd.zeroValue40 Tryd.runUnderlying25 Tryd.sizeOf40 rfl rfl (by kernel_rfl) ⟨rfl, ot, rfl, ot, rfl, ot, trivial⟩ (by exact rfl) (fill_full (by exact rfl) (by exact rfl) (by exact rfl)) (fun b71 => ?_)
  refine AD.give (k := 0) (t := 71) (sz := 5) (m := 3) rfl lk rfl rfl rfl (Nat.le_refl _) (by decide) ?_
  refine AD.one (i := 0) (by kernel_rfl) ?_
  refine AStep.callP rfl (wants_plain rfl) rfl rfl rfl Tryd.call10 (colsOf_vp) trivial ?_
  refine AD.one (i := 5) (by kernel_rfl) ?_
  refine AStep.callP rfl (wants_plain rfl) rfl rfl rfl Tryd.call16 (hbw) ⟨ot, ot, trivial⟩ ?_
  refine AD.take (i := 6) rfl (by kernel_rfl) (by kernel_rfl) (by kernel_rfl) (by repeat (first | exact NP.body | apply NP.then | apply NP.cut | apply NP.inBlock | apply NP.round)) (wants_plain rfl) rfl (still_mv rfl ot) (by exact trivial) (by intro h; cases h) ?_
  refine AD.take (i := 7) rfl (by kernel_rfl) (by kernel_rfl) (by kernel_rfl) (by repeat (first | exact NP.body | apply NP.then | apply NP.cut | apply NP.inBlock | apply NP.round)) (wants_plain rfl) rfl (still_extract rfl ot rfl) (by exact trivial) (by intro h; cases h) ?_
  refine AD.take (i := 8) rfl (by kernel_rfl) (by kernel_rfl) (by kernel_rfl) (by repeat (first | exact NP.body | apply NP.then | apply NP.cut | apply NP.inBlock | apply NP.round)) (wants_plain rfl) rfl (still_extract rfl ot rfl) (by exact trivial) (by intro h; cases h) ?_
  refine AD.take (i := 9) rfl (by kernel_rfl) (by kernel_rfl) (by kernel_rfl) (by repeat (first | exact NP.body | apply NP.then | apply NP.cut | apply NP.inBlock | apply NP.round)) (wants_plain rfl) rfl (still_extract rfl ot rfl) (by exact trivial) (by intro h; cases h) ?_
  refine AD.take (i := 10) rfl (by kernel_rfl) (by kernel_rfl) (by kernel_rfl) (by repeat (first | exact NP.body | apply NP.then | apply NP.cut | apply NP.inBlock | apply NP.round)) (wants_plain rfl) rfl (still_as rfl ot) (by exact trivial) (by intro h; cases h) ?_
  refine AD.take (i := 11) rfl (by kernel_rfl) (by kernel_rfl) (by kernel_rfl) (by repeat (first | exact NP.body | apply NP.then | apply NP.cut | apply NP.inBlock | apply NP.round)) (wants_plain rfl) rfl (still_as rfl ot) (by exact trivial) (by intro h; cases h) ?_
  refine AD.take (i := 12) rfl (by kernel_rfl) (by kernel_rfl) (by kernel_rfl) (by repeat (first | exact NP.body | apply NP.then | apply NP.cut | apply NP.inBlock | apply NP.round)) (wants_plain rfl) rfl (still_as rfl ot) (by exact trivial) (by intro h; cases h) ?_
  refine AD.wk (y := ⟨102, [(9, _), (10, _), (11, _), (12, _), (13, _), (14, _)], [⟨b52, 25, 7, [_, _, _, _, _, _, _]⟩, ⟨b7, 40, 5, [_, _, _, _, _]⟩, ⟨b6, 40, 5, [_, _, _, _, _]⟩, ⟨b5, 40, 5, [_, _, _, _, _]⟩]⟩) (Wk.as_ rfl rfl ⟨lk, lk, lk, lk, lk, lk, trivial⟩) rfl ?_
  refine AD.done (by kernel_rfl) ?_
  refine CD.seq ?_
  refine CD.region ?_
  refine OD.still (wants_plain rfl) rfl (still_mv rfl ot) ?_
  refine OD.still (wants_plain rfl) rfl (still_bin rfl ot opd_const bin_eql) ?_
  refine OD.still (wants_plain rfl) rfl (still_mv rfl ot) ?_
  refine OD.split (t := 78) lk (fun hg78 => ?_) (fun hg78 => ?_)
  ·have hg78' := hg78; (try simp only [V.cnd, ne_eq] at hg78')
   refine OD.still (wants_T rfl rfl rfl lk (by first | rfl | assumption)) rfl (still_mv rfl ot) ?_
   refine OD.still (wants_T rfl rfl rfl lk (by first | rfl | assumption)) rfl (still_bin rfl ot opd_const bin_eql) ?_
   refine OD.still (wants_plain rfl) rfl (still_pickT rfl ot (by first | rfl | assumption) ot) ?_
   refine OD.still (wants_plain rfl) rfl (still_mv rfl ot) ?_
   refine OD.split (t := 82) lk (fun hg82 => ?_) (fun hg82 => ?_)
   ·have hg82' := hg82; (try simp only [V.cnd, ne_eq] at hg82')
    refine OD.still (wants_T rfl rfl rfl lk (by first | rfl | assumption)) rfl (still_mv rfl ot) ?_
    refine OD.still (wants_T rfl rfl rfl lk (by first | rfl | assumption)) rfl (still_r1 (mk := fun y => .call { callee := .builtin .len, args := #[y], argTypes := #[47] }) rfl ot (by first | exact len_list rfl Tryd.runUnderlying47 | exact len_row rfl Tryd.runUnderlying47)) ?_
    refine OD.still (wants_T rfl rfl rfl lk (by first | rfl | assumption)) rfl (still_mv rfl ot) ?_
    refine OD.still (wants_T rfl rfl rfl lk (by first | rfl | assumption)) rfl (still_r1 (mk := fun y => .call { callee := .builtin .len, args := #[y], argTypes := #[47] }) rfl ot (by first | exact len_list rfl Tryd.runUnderlying47 | exact len_row rfl Tryd.runUnderlying47)) ?_
    refine OD.still (wants_T rfl rfl rfl lk (by first | rfl | assumption)) rfl (still_bin rfl ot ot (bin_add (wrap_i64 (by decide) (by decide)))) ?_
    refine OD.still (wants_T rfl rfl rfl lk (by first | rfl | assumption)) rfl (still_bin rfl ot opd_const bin_eql) ?_
    refine OD.still (wants_plain rfl) rfl (still_pickT rfl ot (by first | rfl | assumption) ot) ?_
    refine OD.still (wants_plain rfl) rfl (still_mv rfl ot) ?_
    refine OD.split (t := 90) lk (fun hg90 => ?_) (fun hg90 => ?_)
    ·have hg90' := hg90; (try simp only [V.cnd, ne_eq] at hg90')
     refine OD.still (wants_T rfl rfl rfl lk (by first | rfl | assumption)) rfl (still_mv rfl ot) ?_
     refine OD.still (wants_T rfl rfl rfl lk (by first | rfl | assumption)) rfl (still_r1 (mk := fun y => .call { callee := .builtin .len, args := #[y], argTypes := #[47] }) rfl ot (by first | exact len_list rfl Tryd.runUnderlying47 | exact len_row rfl Tryd.runUnderlying47)) ?_
     refine OD.still (wants_T rfl rfl rfl lk (by first | rfl | assumption)) rfl (still_bin rfl ot opd_const bin_gtr) ?_
     refine OD.still (wants_plain rfl) rfl (still_pickT rfl ot (by first | rfl | assumption) ot) ?_
     refine OD.still (wants_plain rfl) rfl (still_mv rfl ot) ?_
     refine OD.split (t := 95) lk (fun hg95 => ?_) (fun hg95 => ?_)
     ·have hg95' := hg95; (try simp only [V.cnd, ne_eq] at hg95')
      refine OD.still (wants_T rfl rfl rfl lk (by first | rfl | assumption)) rfl (still_mv rfl ot) ?_
      first | refine OD.still (wants_T rfl rfl rfl lk (by first | rfl | assumption)) rfl (still_ofBytes rfl ot Tryd.underlying47 Tryd.underlying5 Tryd.underlying9) ?_ | refine OD.still (wants_T rfl rfl rfl lk (by first | rfl | assumption)) rfl (still_ofBytesF rfl ot Tryd.underlying47 Tryd.underlying5 Tryd.underlying9) ?_
      refine OD.still (wants_T rfl rfl rfl lk (by first | rfl | assumption)) rfl (still_mv rfl ot) ?_
      first | refine OD.still (wants_T rfl rfl rfl lk (by first | rfl | assumption)) rfl (still_ofBytes rfl ot Tryd.underlying47 Tryd.underlying5 Tryd.underlying9) ?_ | refine OD.still (wants_T rfl rfl rfl lk (by first | rfl | assumption)) rfl (still_ofBytesF rfl ot Tryd.underlying47 Tryd.underlying5 Tryd.underlying9) ?_
      refine OD.still (wants_T rfl rfl rfl lk (by first | rfl | assumption)) rfl (still_bin rfl ot ot bin_seql) ?_
      refine OD.still (wants_plain rfl) rfl (still_pickT rfl ot (by first | rfl | assumption) ot) ?_
      refine OD.still (wants_plain rfl) rfl (still_as rfl ot) ?_
      refine OD.wk (Wk.as_ (n := 102) (l' := [(4, _)]) (S' := [⟨b52, 25, 7, [_, _, _, _, _, _, _]⟩, ⟨b7, 40, 5, [_, _, _, _, _]⟩, ⟨b6, 40, 5, [_, _, _, _, _]⟩, ⟨b5, 40, 5, [_, _, _, _, _]⟩]) rfl rfl ⟨lk, trivial⟩) ?_
      refine OD.nil ?_
      refine CD.ret ?_
      refine ⟨.inr rfl, _, [], List.nil_sublist _, ret_one Tryd.results7 (res_tmp (Nat.le_of_ble_eq_true rfl) lk), ?_⟩
      first | exact ⟨rfl, rfl⟩ | (refine ⟨vb ?_, rfl⟩; simp)
     ·exact absurd hg95 (by rw [hkl]; decide)
    ·exact absurd hg90 (by simp)
   ·exact absurd hg82 (by simp)
  ·exact absurd hg78 (by simp)

set_option maxHeartbeats 4000000 in
set_option maxRecDepth 100000 in
theorem none5_vp {m : Int} (hm : (3, marksC) ∈ G) (hw : (0, wordsC) ∈ G) (ht : (2, typesC) ∈ G) (hG : (1, [Value.int .i64 m]) ∈ G) (n : Int) (n1 : -9223372036854775808 ≤ n) (n2 : n ≤ 9223372036854775807) (which : Int) (which1 : -9223372036854775808 ≤ which) (which2 : which ≤ 9223372036854775807) (hk : pickedF which 7 = 5) : VP Tryd.prog G 7 [.v (.int .i64 n), .v (.int .i64 which)] (.v (.bool true)) := by
 refine VC.body Tryd.func7 rfl Tryd.ntmps7 (Nat.le_of_ble_eq_true rfl) fun X0 w0 S00 => ?_
 have hxb := pickedF_bd n (show (1 : Int) ≤ 100 by decide)
 have hbv := Bounds_at hm hw ht hG [idO, litO (pickedF n 100), bareOp 8, litO (pickedF n 100), bareOp 7] (fine_cons fine_id (fine_cons (fine_lit (by omega) (by omega)) (fine_cons (fine_bare 8) (fine_cons (fine_lit (by omega) (by omega)) (fine_cons (fine_bare 7) fine_nil)))))
 rw [none5 hxb.1] at hbv
 unfold bdD bytesL at hbv
 have hbw := Bounds_at hm hw ht hG [idO, litO (pickedF n 100), bareOp 6] (fine_cons fine_id (fine_cons (fine_lit (by omega) (by omega)) (fine_cons (fine_bare 6) fine_nil)))
 rw [one0 hxb.1] at hbw
 unfold bdD bytesL at hbw
 have hkl := key_len (pickedF n 100)
 have hpn := (picked_vp G n 100 n1 n2 (by decide))
 have hnv := number_vp (G := G) (pickedF n 100)
 unfold cV at hnv
 have hpk := (picked_vp G which 7 which1 which2 (by decide))
 rw [hk] at hpk
 generalize (pickedF n 100) = x at *
 refine CD.seq ?_
 refine CD.region ?_
 refine OD.still (wants_plain rfl) rfl (still_as rfl opd_const) ?_
 refine OD.wk (Wk.as_ (n := 102) (l' := [(0, _), (1, _)]) (S' := []) rfl rfl ⟨lk, lk, trivial⟩) ?_
 refine OD.nil ?_
 refine CD.seq ?_
 refine CD.region ?_
 refine OD.still (wants_plain rfl) rfl (still_mv rfl ot) ?_
 refine OD.callP (wants_plain rfl) rfl rfl rfl Tryd.call15 (hpn) ⟨ot, opd_const, trivial⟩ ?_
 refine OD.callP (wants_plain rfl) rfl rfl rfl Tryd.call19 (hnv) ⟨ot, trivial⟩ ?_
 refine OD.still (wants_plain rfl) rfl (still_bld (pl := [(0, _), (1, _)]) (ds := [_, _, _, _, _]) rfl Tryd.zeroValue40 Tryd.runUnderlying40 places40_Exc ⟨rfl, opd_const, rfl, ot, trivial⟩ rfl rfl) ?_
 refine OD.alloc (ds := [_, _, _, _, _]) (wants_plain rfl) rfl rfl Tryd.zeroValue40 rfl (fun b5 => ?_)
 refine OD.store (k := 0) (cs' := [_, _, _, _, _]) (wants_plain rfl) rfl rfl ot rfl rfl ot rfl rfl Tryd.sizeOf40 rfl rfl rfl ?_
 refine OD.wk (Wk.as_ (n := 102) (l' := [(1, _), (5, _)]) (S' := [⟨b5, 40, 5, [_, _, _, _, _]⟩]) rfl rfl ⟨lk, lk, trivial⟩) ?_
 refine OD.nil ?_
 refine CD.seq ?_
 refine CD.region ?_
 refine OD.still (wants_plain rfl) rfl (still_bld (pl := [(0, _), (2, _)]) (ds := [_, _, _, _, _]) rfl Tryd.zeroValue40 Tryd.runUnderlying40 places40_Exc ⟨rfl, opd_const, rfl, opd_const, trivial⟩ rfl rfl) ?_
 refine OD.alloc (ds := [_, _, _, _, _]) (wants_plain rfl) rfl rfl Tryd.zeroValue40 rfl (fun b6 => ?_)
 refine OD.store (k := 0) (cs' := [_, _, _, _, _]) (wants_plain rfl) rfl rfl ot rfl rfl ot rfl rfl Tryd.sizeOf40 rfl rfl rfl ?_
 refine OD.wk (Wk.as_ (n := 102) (l' := [(1, _), (5, _), (6, _)]) (S' := [⟨b6, 40, 5, [_, _, _, _, _]⟩, ⟨b5, 40, 5, [_, _, _, _, _]⟩]) rfl rfl ⟨lk, lk, lk, trivial⟩) ?_
 refine OD.nil ?_
 refine CD.seq ?_
 refine CD.region ?_
 refine OD.still (wants_plain rfl) rfl (still_bld (pl := [(0, _), (2, _)]) (ds := [_, _, _, _, _]) rfl Tryd.zeroValue40 Tryd.runUnderlying40 places40_Exc ⟨rfl, opd_const, rfl, opd_const, trivial⟩ rfl rfl) ?_
 refine OD.alloc (ds := [_, _, _, _, _]) (wants_plain rfl) rfl rfl Tryd.zeroValue40 rfl (fun b7 => ?_)
 refine OD.store (k := 0) (cs' := [_, _, _, _, _]) (wants_plain rfl) rfl rfl ot rfl rfl ot rfl rfl Tryd.sizeOf40 rfl rfl rfl ?_
 refine OD.wk (Wk.as_ (n := 102) (l' := [(1, _), (5, _), (6, _), (7, _)]) (S' := [⟨b7, 40, 5, [_, _, _, _, _]⟩, ⟨b6, 40, 5, [_, _, _, _, _]⟩, ⟨b5, 40, 5, [_, _, _, _, _]⟩]) rfl rfl ⟨lk, lk, lk, lk, trivial⟩) ?_
 refine OD.nil ?_
 refine CD.seq ?_
 refine CD.region ?_
 refine OD.still (wants_plain rfl) rfl (still_r1 (mk := Op.load 40) rfl ot (by first | exact ld_blks (k := 0) (ds := [_, _, _, _, _]) rfl rfl Tryd.isAgg40 Tryd.sizeOf40 rfl rfl | exact ld_is (ds := [_, _, _, _, _]) Tryd.isAgg40 Tryd.sizeOf40 rfl rfl)) ?_
 refine OD.still (wants_plain rfl) rfl (still_r1 (mk := Op.load 40) rfl ot (by first | exact ld_blks (k := 2) (ds := [_, _, _, _, _]) rfl rfl Tryd.isAgg40 Tryd.sizeOf40 rfl rfl | exact ld_is (ds := [_, _, _, _, _]) Tryd.isAgg40 Tryd.sizeOf40 rfl rfl)) ?_
 refine OD.still (wants_plain rfl) rfl (still_bld (pl := [(0, _)]) (ds := [_, _, _, _, _]) rfl Tryd.zeroValue40 Tryd.runUnderlying40 places40_Exc ⟨rfl, opd_const, trivial⟩ rfl rfl) ?_
 refine OD.bldS (pl := numD 0 [_, _, _]) (zvs := [.int .i64 0, .int .i64 0, .int .i64 0, .string ⟨#[]⟩, .string ⟨#[]⟩, .int .i64 0, .int .i64 0, .int .i64 0, .string ⟨#[]⟩, .string ⟨#[]⟩, .int .i64 0, .int .i64 0, .int .i64 0, .string ⟨#[]⟩, .string ⟨#[]⟩]) (ds := [_, _, _, _, _, _, _, _, _, _, _, _, _, _, _]) (wants_plain rfl) rfl rfl Tryd.zeroValue40 Tryd.runUnderlying25 Tryd.sizeOf40 rfl rfl (by kernel_rfl) ⟨rfl, ot, rfl, ot, rfl, ot, trivial⟩ (by exact rfl) (fill_full (by exact rfl) (by exact rfl) (by exact rfl)) (fun b24 => ?_)
 refine OD.perm (perm_q11 (S1 := [⟨b24, 40, 3 * 5, List.flatMap cO ([colN, litO x, bareOp 6])⟩]) (A := [_, _, _])) ?_
 refine OD.giveL (t := 24) (Sq := [⟨b24, 40, 3 * 5, List.flatMap cO ([colN, litO x, bareOp 6])⟩]) lk (ownL_row (g := cO) (sz := 5) (e := 40) (ls := [colN, litO x, bareOp 6]) (Nat.le_refl _) (show 3 ≤ maxLen by decide)) (fm_len cO_len _) (perm_r11 (A := [_, _, _])) ?_
 refine OD.still (wants_plain rfl) rfl (still_r1 (mk := Op.load 40) rfl ot (by first | exact ld_blks (k := 1) (ds := [_, _, _, _, _]) rfl rfl Tryd.isAgg40 Tryd.sizeOf40 rfl rfl | exact ld_is (ds := [_, _, _, _, _]) Tryd.isAgg40 Tryd.sizeOf40 rfl rfl)) ?_
 refine OD.still (wants_plain rfl) rfl (still_bld (pl := [(0, _)]) (ds := [_, _, _, _, _]) rfl Tryd.zeroValue40 Tryd.runUnderlying40 places40_Exc ⟨rfl, opd_const, trivial⟩ rfl rfl) ?_
 refine OD.still (wants_plain rfl) rfl (still_bld (pl := [(0, _)]) (ds := [_, _, _, _, _]) rfl Tryd.zeroValue40 Tryd.runUnderlying40 places40_Exc ⟨rfl, opd_const, trivial⟩ rfl rfl) ?_
 refine OD.bldS (pl := numD 0 [_, _, _]) (zvs := [.int .i64 0, .int .i64 0, .int .i64 0, .string ⟨#[]⟩, .string ⟨#[]⟩, .int .i64 0, .int .i64 0, .int .i64 0, .string ⟨#[]⟩, .string ⟨#[]⟩, .int .i64 0, .int .i64 0, .int .i64 0, .string ⟨#[]⟩, .string ⟨#[]⟩]) (ds := [_, _, _, _, _, _, _, _, _, _, _, _, _, _, _]) (wants_plain rfl) rfl rfl Tryd.zeroValue40 Tryd.runUnderlying25 Tryd.sizeOf40 rfl rfl (by kernel_rfl) ⟨rfl, ot, rfl, ot, rfl, ot, trivial⟩ (by exact rfl) (fill_full (by exact rfl) (by exact rfl) (by exact rfl)) (fun b28 => ?_)
 refine OD.perm (perm_q11 (S1 := [⟨b28, 40, 3 * 5, List.flatMap cO ([idO, nulO, bareOp 6])⟩]) (A := [_, _, _])) ?_
 refine OD.giveL (t := 28) (Sq := [⟨b28, 40, 3 * 5, List.flatMap cO ([idO, nulO, bareOp 6])⟩]) lk (ownL_row (g := cO) (sz := 5) (e := 40) (ls := [idO, nulO, bareOp 6]) (Nat.le_refl _) (show 3 ≤ maxLen by decide)) (fm_len cO_len _) (perm_r11 (A := [_, _, _])) ?_
 refine OD.still (wants_plain rfl) rfl (still_r1 (mk := Op.load 40) rfl ot (by first | exact ld_blks (k := 1) (ds := [_, _, _, _, _]) rfl rfl Tryd.isAgg40 Tryd.sizeOf40 rfl rfl | exact ld_is (ds := [_, _, _, _, _]) Tryd.isAgg40 Tryd.sizeOf40 rfl rfl)) ?_
 refine OD.still (wants_plain rfl) rfl (still_r1 (mk := Op.load 40) rfl ot (by first | exact ld_blks (k := 0) (ds := [_, _, _, _, _]) rfl rfl Tryd.isAgg40 Tryd.sizeOf40 rfl rfl | exact ld_is (ds := [_, _, _, _, _]) Tryd.isAgg40 Tryd.sizeOf40 rfl rfl)) ?_
 refine OD.still (wants_plain rfl) rfl (still_bld (pl := [(0, _)]) (ds := [_, _, _, _, _]) rfl Tryd.zeroValue40 Tryd.runUnderlying40 places40_Exc ⟨rfl, opd_const, trivial⟩ rfl rfl) ?_
 refine OD.bldS (pl := numD 0 [_, _, _]) (zvs := [.int .i64 0, .int .i64 0, .int .i64 0, .string ⟨#[]⟩, .string ⟨#[]⟩, .int .i64 0, .int .i64 0, .int .i64 0, .string ⟨#[]⟩, .string ⟨#[]⟩, .int .i64 0, .int .i64 0, .int .i64 0, .string ⟨#[]⟩, .string ⟨#[]⟩]) (ds := [_, _, _, _, _, _, _, _, _, _, _, _, _, _, _]) (wants_plain rfl) rfl rfl Tryd.zeroValue40 Tryd.runUnderlying25 Tryd.sizeOf40 rfl rfl (by kernel_rfl) ⟨rfl, ot, rfl, ot, rfl, ot, trivial⟩ (by exact rfl) (fill_full (by exact rfl) (by exact rfl) (by exact rfl)) (fun b32 => ?_)
 refine OD.perm (perm_q11 (S1 := [⟨b32, 40, 3 * 5, List.flatMap cO ([idO, colN, bareOp 7])⟩]) (A := [_, _, _])) ?_
 refine OD.giveL (t := 32) (Sq := [⟨b32, 40, 3 * 5, List.flatMap cO ([idO, colN, bareOp 7])⟩]) lk (ownL_row (g := cO) (sz := 5) (e := 40) (ls := [idO, colN, bareOp 7]) (Nat.le_refl _) (show 3 ≤ maxLen by decide)) (fm_len cO_len _) (perm_r11 (A := [_, _, _])) ?_
 refine OD.still (wants_plain rfl) rfl (still_r1 (mk := Op.load 40) rfl ot (by first | exact ld_blks (k := 2) (ds := [_, _, _, _, _]) rfl rfl Tryd.isAgg40 Tryd.sizeOf40 rfl rfl | exact ld_is (ds := [_, _, _, _, _]) Tryd.isAgg40 Tryd.sizeOf40 rfl rfl)) ?_
 refine OD.still (wants_plain rfl) rfl (still_r1 (mk := Op.load 40) rfl ot (by first | exact ld_blks (k := 2) (ds := [_, _, _, _, _]) rfl rfl Tryd.isAgg40 Tryd.sizeOf40 rfl rfl | exact ld_is (ds := [_, _, _, _, _]) Tryd.isAgg40 Tryd.sizeOf40 rfl rfl)) ?_
 refine OD.still (wants_plain rfl) rfl (still_bld (pl := [(0, _)]) (ds := [_, _, _, _, _]) rfl Tryd.zeroValue40 Tryd.runUnderlying40 places40_Exc ⟨rfl, opd_const, trivial⟩ rfl rfl) ?_
 refine OD.bldS (pl := numD 0 [_, _, _]) (zvs := [.int .i64 0, .int .i64 0, .int .i64 0, .string ⟨#[]⟩, .string ⟨#[]⟩, .int .i64 0, .int .i64 0, .int .i64 0, .string ⟨#[]⟩, .string ⟨#[]⟩, .int .i64 0, .int .i64 0, .int .i64 0, .string ⟨#[]⟩, .string ⟨#[]⟩]) (ds := [_, _, _, _, _, _, _, _, _, _, _, _, _, _, _]) (wants_plain rfl) rfl rfl Tryd.zeroValue40 Tryd.runUnderlying25 Tryd.sizeOf40 rfl rfl (by kernel_rfl) ⟨rfl, ot, rfl, ot, rfl, ot, trivial⟩ (by exact rfl) (fill_full (by exact rfl) (by exact rfl) (by exact rfl)) (fun b36 => ?_)
 refine OD.perm (perm_q11 (S1 := [⟨b36, 40, 3 * 5, List.flatMap cO ([litO x, litO x, bareOp 7])⟩]) (A := [_, _, _])) ?_
 refine OD.giveL (t := 36) (Sq := [⟨b36, 40, 3 * 5, List.flatMap cO ([litO x, litO x, bareOp 7])⟩]) lk (ownL_row (g := cO) (sz := 5) (e := 40) (ls := [litO x, litO x, bareOp 7]) (Nat.le_refl _) (show 3 ≤ maxLen by decide)) (fm_len cO_len _) (perm_r11 (A := [_, _, _])) ?_
 refine OD.still (wants_plain rfl) rfl (still_r1 (mk := Op.load 40) rfl ot (by first | exact ld_blks (k := 1) (ds := [_, _, _, _, _]) rfl rfl Tryd.isAgg40 Tryd.sizeOf40 rfl rfl | exact ld_is (ds := [_, _, _, _, _]) Tryd.isAgg40 Tryd.sizeOf40 rfl rfl)) ?_
 refine OD.still (wants_plain rfl) rfl (still_bld (pl := [(0, _)]) (ds := [_, _, _, _, _]) rfl Tryd.zeroValue40 Tryd.runUnderlying40 places40_Exc ⟨rfl, opd_const, trivial⟩ rfl rfl) ?_
 refine OD.bldS (pl := numD 0 [_, _]) (zvs := [.int .i64 0, .int .i64 0, .int .i64 0, .string ⟨#[]⟩, .string ⟨#[]⟩, .int .i64 0, .int .i64 0, .int .i64 0, .string ⟨#[]⟩, .string ⟨#[]⟩]) (ds := [_, _, _, _, _, _, _, _, _, _]) (wants_plain rfl) rfl rfl Tryd.zeroValue40 Tryd.runUnderlying25 Tryd.sizeOf40 rfl rfl (by kernel_rfl) ⟨rfl, ot, rfl, ot, trivial⟩ (by exact rfl) (fill_full (by exact rfl) (by exact rfl) (by exact rfl)) (fun b39 => ?_)
 refine OD.perm (perm_q11 (S1 := [⟨b39, 40, 2 * 5, List.flatMap cO ([idO, bareOp 11])⟩]) (A := [_, _, _])) ?_
 refine OD.giveL (t := 39) (Sq := [⟨b39, 40, 2 * 5, List.flatMap cO ([idO, bareOp 11])⟩]) lk (ownL_row (g := cO) (sz := 5) (e := 40) (ls := [idO, bareOp 11]) (Nat.le_refl _) (show 2 ≤ maxLen by decide)) (fm_len cO_len _) (perm_r11 (A := [_, _, _])) ?_
 refine OD.still (wants_plain rfl) rfl (still_r1 (mk := Op.load 40) rfl ot (by first | exact ld_blks (k := 1) (ds := [_, _, _, _, _]) rfl rfl Tryd.isAgg40 Tryd.sizeOf40 rfl rfl | exact ld_is (ds := [_, _, _, _, _]) Tryd.isAgg40 Tryd.sizeOf40 rfl rfl)) ?_
 refine OD.still (wants_plain rfl) rfl (still_r1 (mk := Op.load 40) rfl ot (by first | exact ld_blks (k := 2) (ds := [_, _, _, _, _]) rfl rfl Tryd.isAgg40 Tryd.sizeOf40 rfl rfl | exact ld_is (ds := [_, _, _, _, _]) Tryd.isAgg40 Tryd.sizeOf40 rfl rfl)) ?_
 refine OD.still (wants_plain rfl) rfl (still_bld (pl := [(0, _)]) (ds := [_, _, _, _, _]) rfl Tryd.zeroValue40 Tryd.runUnderlying40 places40_Exc ⟨rfl, opd_const, trivial⟩ rfl rfl) ?_
 refine OD.still (wants_plain rfl) rfl (still_r1 (mk := Op.load 40) rfl ot (by first | exact ld_blks (k := 2) (ds := [_, _, _, _, _]) rfl rfl Tryd.isAgg40 Tryd.sizeOf40 rfl rfl | exact ld_is (ds := [_, _, _, _, _]) Tryd.isAgg40 Tryd.sizeOf40 rfl rfl)) ?_
 refine OD.still (wants_plain rfl) rfl (still_bld (pl := [(0, _)]) (ds := [_, _, _, _, _]) rfl Tryd.zeroValue40 Tryd.runUnderlying40 places40_Exc ⟨rfl, opd_const, trivial⟩ rfl rfl) ?_
 refine OD.bldS (pl := numD 0 [_, _, _, _, _]) (zvs := [.int .i64 0, .int .i64 0, .int .i64 0, .string ⟨#[]⟩, .string ⟨#[]⟩, .int .i64 0, .int .i64 0, .int .i64 0, .string ⟨#[]⟩, .string ⟨#[]⟩, .int .i64 0, .int .i64 0, .int .i64 0, .string ⟨#[]⟩, .string ⟨#[]⟩, .int .i64 0, .int .i64 0, .int .i64 0, .string ⟨#[]⟩, .string ⟨#[]⟩, .int .i64 0, .int .i64 0, .int .i64 0, .string ⟨#[]⟩, .string ⟨#[]⟩]) (ds := [_, _, _, _, _, _, _, _, _, _, _, _, _, _, _, _, _, _, _, _, _, _, _, _, _]) (wants_plain rfl) rfl rfl Tryd.zeroValue40 Tryd.runUnderlying25 Tryd.sizeOf40 rfl rfl (by kernel_rfl) ⟨rfl, ot, rfl, ot, rfl, ot, rfl, ot, rfl, ot, trivial⟩ (by exact rfl) (fill_full (by exact rfl) (by exact rfl) (by exact rfl)) (fun b45 => ?_)
 refine OD.perm (perm_q11 (S1 := [⟨b45, 40, 5 * 5, List.flatMap cO ([idO, litO x, bareOp 8, litO x, bareOp 7])⟩]) (A := [_, _, _])) ?_
 refine OD.giveL (t := 45) (Sq := [⟨b45, 40, 5 * 5, List.flatMap cO ([idO, litO x, bareOp 8, litO x, bareOp 7])⟩]) lk (ownL_row (g := cO) (sz := 5) (e := 40) (ls := [idO, litO x, bareOp 8, litO x, bareOp 7]) (Nat.le_refl _) (show 5 ≤ maxLen by decide)) (fm_len cO_len _) (perm_r11 (A := [_, _, _])) ?_
 refine OD.still (wants_plain rfl) rfl (still_r1 (mk := Op.load 40) rfl ot (by first | exact ld_blks (k := 1) (ds := [_, _, _, _, _]) rfl rfl Tryd.isAgg40 Tryd.sizeOf40 rfl rfl | exact ld_is (ds := [_, _, _, _, _]) Tryd.isAgg40 Tryd.sizeOf40 rfl rfl)) ?_
 refine OD.still (wants_plain rfl) rfl (still_r1 (mk := Op.load 40) rfl ot (by first | exact ld_blks (k := 2) (ds := [_, _, _, _, _]) rfl rfl Tryd.isAgg40 Tryd.sizeOf40 rfl rfl | exact ld_is (ds := [_, _, _, _, _]) Tryd.isAgg40 Tryd.sizeOf40 rfl rfl)) ?_
 refine OD.still (wants_plain rfl) rfl (still_bld (pl := [(0, _)]) (ds := [_, _, _, _, _]) rfl Tryd.zeroValue40 Tryd.runUnderlying40 places40_Exc ⟨rfl, opd_const, trivial⟩ rfl rfl) ?_
 refine OD.still (wants_plain rfl) rfl (still_bld (pl := [(0, _)]) (ds := [_, _, _, _, _]) rfl Tryd.zeroValue40 Tryd.runUnderlying40 places40_Exc ⟨rfl, opd_const, trivial⟩ rfl rfl) ?_
 refine OD.still (wants_plain rfl) rfl (still_bld (pl := [(0, _)]) (ds := [_, _, _, _, _]) rfl Tryd.zeroValue40 Tryd.runUnderlying40 places40_Exc ⟨rfl, opd_const, trivial⟩ rfl rfl) ?_
 refine OD.bldS (pl := numD 0 [_, _, _, _, _]) (zvs := [.int .i64 0, .int .i64 0, .int .i64 0, .string ⟨#[]⟩, .string ⟨#[]⟩, .int .i64 0, .int .i64 0, .int .i64 0, .string ⟨#[]⟩, .string ⟨#[]⟩, .int .i64 0, .int .i64 0, .int .i64 0, .string ⟨#[]⟩, .string ⟨#[]⟩, .int .i64 0, .int .i64 0, .int .i64 0, .string ⟨#[]⟩, .string ⟨#[]⟩, .int .i64 0, .int .i64 0, .int .i64 0, .string ⟨#[]⟩, .string ⟨#[]⟩]) (ds := [_, _, _, _, _, _, _, _, _, _, _, _, _, _, _, _, _, _, _, _, _, _, _, _, _]) (wants_plain rfl) rfl rfl Tryd.zeroValue40 Tryd.runUnderlying25 Tryd.sizeOf40 rfl rfl (by kernel_rfl) ⟨rfl, ot, rfl, ot, rfl, ot, rfl, ot, rfl, ot, trivial⟩ (by exact rfl) (fill_full (by exact rfl) (by exact rfl) (by exact rfl)) (fun b51 => ?_)
 refine OD.perm (perm_q11 (S1 := [⟨b51, 40, 5 * 5, List.flatMap cO ([idO, litO x, bareOp 7, bareOp 5, bareOp 5])⟩]) (A := [_, _, _])) ?_
 refine OD.giveL (t := 51) (Sq := [⟨b51, 40, 5 * 5, List.flatMap cO ([idO, litO x, bareOp 7, bareOp 5, bareOp 5])⟩]) lk (ownL_row (g := cO) (sz := 5) (e := 40) (ls := [idO, litO x, bareOp 7, bareOp 5, bareOp 5]) (Nat.le_refl _) (show 5 ≤ maxLen by decide)) (fm_len cO_len _) (perm_r11 (A := [_, _, _])) ?_
 refine OD.bldS (pl := numD 0 [_, _, _, _, _, _, _]) (zvs := [.slice none 0 0, .slice none 0 0, .slice none 0 0, .slice none 0 0, .slice none 0 0, .slice none 0 0, .slice none 0 0]) (ds := [_, _, _, _, _, _, _]) (wants_plain rfl) rfl rfl Tryd.zeroValue25 Tryd.runUnderlying46 Tryd.sizeOf25 rfl rfl (by kernel_rfl) ⟨rfl, ot, rfl, ot, rfl, ot, rfl, ot, rfl, ot, rfl, ot, rfl, ot, trivial⟩ (by exact rfl) (fill_full (by exact rfl) (by exact rfl) (by exact rfl)) (fun b52 => ?_)
 refine OD.still (wants_plain rfl) rfl (still_as rfl ot) ?_
 refine OD.wk (Wk.as_ (n := 102) (l' := [(1, _), (5, _), (6, _), (8, _)]) (S' := [⟨b52, 25, 7, [_, _, _, _, _, _, _]⟩, ⟨b7, 40, 5, [_, _, _, _, _]⟩, ⟨b6, 40, 5, [_, _, _, _, _]⟩, ⟨b5, 40, 5, [_, _, _, _, _]⟩]) rfl rfl ⟨lk, lk, lk, lk, trivial⟩) ?_
 refine OD.nil ?_
 refine CD.seq ?_
 refine CD.region ?_
 refine OD.callP (wants_plain rfl) rfl rfl rfl Tryd.call10 (colsOf_vp) trivial ?_
 refine OD.still (wants_plain rfl) rfl (still_mv rfl ot) ?_
 refine OD.still (wants_plain rfl) rfl (still_mv rfl ot) ?_
 refine OD.still (wants_plain rfl) rfl (still_mv rfl ot) ?_
 refine OD.still (wants_plain rfl) rfl (still_r1 (mk := fun y => .call { callee := .builtin .len, args := #[y], argTypes := #[46] }) rfl ot (by first | exact len_list rfl Tryd.runUnderlying46 | exact len_row rfl Tryd.runUnderlying46)) ?_
 refine OD.callP (wants_plain rfl) rfl rfl rfl Tryd.call15 (hpk) ⟨ot, ot, trivial⟩ ?_
 refine OD.still (wants_plain rfl) rfl (still_r2 (mk := Op.indexAddr 46) rfl ot ot (by first | exact ix_list Tryd.runUnderlying46 Tryd.sizeOf25 (j := 5) rfl (by decide) | exact ix_row Tryd.runUnderlying46 Tryd.sizeOf25 (j := 5) rfl (by decide))) ?_
 refine OD.still (wants_plain rfl) rfl (still_r1 (mk := Op.load 25) rfl ot (by first | exact ld_blk (k := 0) rfl rfl Tryd.isAgg25 rfl | exact ld_blk (k := 1) rfl rfl Tryd.isAgg25 rfl | exact ld_blk (k := 2) rfl rfl Tryd.isAgg25 rfl | exact ld_blk (k := 3) rfl rfl Tryd.isAgg25 rfl | exact ld_i Tryd.isAgg25 rfl)) ?_
 refine OD.callP (wants_plain rfl) rfl rfl rfl Tryd.call16 (hbv) ⟨ot, ot, trivial⟩ ?_
 refine OD.still (wants_plain rfl) rfl (still_mv rfl ot) ?_
 refine OD.still (wants_plain rfl) rfl (still_extract rfl ot rfl) ?_
 refine OD.still (wants_plain rfl) rfl (still_extract rfl ot rfl) ?_
 refine OD.still (wants_plain rfl) rfl (still_extract rfl ot rfl) ?_
 refine OD.still (wants_plain rfl) rfl (still_as rfl ot) ?_
 refine OD.still (wants_plain rfl) rfl (still_as rfl ot) ?_
 refine OD.still (wants_plain rfl) rfl (still_as rfl ot) ?_
 refine OD.wk (Wk.as_ (n := 102) (l' := [(5, _), (6, _), (9, _), (10, _), (11, _)]) (S' := [⟨b52, 25, 7, [_, _, _, _, _, _, _]⟩, ⟨b7, 40, 5, [_, _, _, _, _]⟩, ⟨b6, 40, 5, [_, _, _, _, _]⟩, ⟨b5, 40, 5, [_, _, _, _, _]⟩]) rfl rfl ⟨lk, lk, lk, lk, lk, trivial⟩) ?_
 refine OD.nil ?_
 refine CD.seq ?_
 refine CD.draw (bks _) (by kernel_rfl) (fun _ h => h) ?_
 refine AD0.take (i := 1) rfl (by kernel_rfl) (by kernel_rfl) (by kernel_rfl) (by repeat (first | exact NP.body | apply NP.then | apply NP.cut | apply NP.inBlock | apply NP.round)) (wants_plain rfl) rfl (still_r1 (mk := Op.load 40) rfl ot (by first | exact ld_blks (k := 2) (ds := [_, _, _, _, _]) rfl rfl Tryd.isAgg40 Tryd.sizeOf40 rfl rfl | exact ld_is (ds := [_, _, _, _, _]) Tryd.isAgg40 Tryd.sizeOf40 rfl rfl)) (by first | exact trivial | exact safe_blk (k0 := 0) rfl rfl | exact safe_blk (k0 := 1) rfl rfl | exact safe_blk (k0 := 2) rfl rfl | exact safe_blk (k0 := 3) rfl rfl) ?_
 refine AD0.take (i := 2) rfl (by kernel_rfl) (by kernel_rfl) (by kernel_rfl) (by repeat (first | exact NP.body | apply NP.then | apply NP.cut | apply NP.inBlock | apply NP.round)) (wants_plain rfl) rfl (still_r1 (mk := Op.load 40) rfl ot (by first | exact ld_blks (k := 3) (ds := [_, _, _, _, _]) rfl rfl Tryd.isAgg40 Tryd.sizeOf40 rfl rfl | exact ld_is (ds := [_, _, _, _, _]) Tryd.isAgg40 Tryd.sizeOf40 rfl rfl)) (by first | exact trivial | exact safe_blk (k0 := 0) rfl rfl | exact safe_blk (k0 := 1) rfl rfl | exact safe_blk (k0 := 2) rfl rfl | exact safe_blk (k0 := 3) rfl rfl) ?_
 refine AD0.take (i := 3) rfl (by kernel_rfl) (by kernel_rfl) (by kernel_rfl) (by repeat (first | exact NP.body | apply NP.then | apply NP.cut | apply NP.inBlock | apply NP.round)) (wants_plain rfl) rfl (still_bld (pl := [(0, _)]) (ds := [_, _, _, _, _]) rfl Tryd.zeroValue40 Tryd.runUnderlying40 places40_Exc ⟨rfl, opd_const, trivial⟩ rfl rfl) (by exact trivial) ?_
 refine AD0.later rfl ?_
 refine AD.two (i := 0) (j := 4) (by kernel_rfl) ?_ ?_
 ·skip
  refine AStep.callP rfl (wants_plain rfl) rfl rfl rfl Tryd.call10 (colsOf_vp) trivial ?_
  refine AD.one (i := 4) (by kernel_rfl) ?_
  refine AStep.bldS (pl := numD 0 [_, _, _]) (zvs := [.int .i64 0, .int .i64 0, .int .i64 0, .string ⟨#[]⟩, .string ⟨#[]⟩, .int .i64 0, .int .i64 0, .int .i64 0, .string ⟨#[]⟩, .string ⟨#[]⟩, .int .i64 0, .int .i64 0, .int .i64 0, .string ⟨#[]⟩, .string ⟨#[]⟩]) (ds := [_, _, _, _, _, _, _, _, _, _, _, _, _, _, _]) rfl (wants_plain rfl) rfl rfl Tryd.zeroValue40 Tryd.runUnderlying25 Tryd.sizeOf40 rfl rfl (by kernel_rfl) ⟨rfl, ot, rfl, ot, rfl, ot, trivial⟩ (by exact rfl) (fill_full (by exact rfl) (by exact rfl) (by exact rfl)) (fun b71 => ?_)
  refine AD.give (k := 0) (t := 71) (sz := 5) (m := 3) rfl lk rfl rfl rfl (Nat.le_refl _) (by decide) ?_
  refine AD.one (i := 5) (by kernel_rfl) ?_
  refine AStep.callP rfl (wants_plain rfl) rfl rfl rfl Tryd.call16 (hbw) ⟨ot, ot, trivial⟩ ?_
  refine AD.take (i := 6) rfl (by kernel_rfl) (by kernel_rfl) (by kernel_rfl) (by repeat (first | exact NP.body | apply NP.then | apply NP.cut | apply NP.inBlock | apply NP.round)) (wants_plain rfl) rfl (still_mv rfl ot) (by exact trivial) (by intro h; cases h) ?_
  refine AD.take (i := 7) rfl (by kernel_rfl) (by kernel_rfl) (by kernel_rfl) (by repeat (first | exact NP.body | apply NP.then | apply NP.cut | apply NP.inBlock | apply NP.round)) (wants_plain rfl) rfl (still_extract rfl ot rfl) (by exact trivial) (by intro h; cases h) ?_
  refine AD.take (i := 8) rfl (by kernel_rfl) (by kernel_rfl) (by kernel_rfl) (by repeat (first | exact NP.body | apply NP.then | apply NP.cut | apply NP.inBlock | apply NP.round)) (wants_plain rfl) rfl (still_extract rfl ot rfl) (by exact trivial) (by intro h; cases h) ?_
  refine AD.take (i := 9) rfl (by kernel_rfl) (by kernel_rfl) (by kernel_rfl) (by repeat (first | exact NP.body | apply NP.then | apply NP.cut | apply NP.inBlock | apply NP.round)) (wants_plain rfl) rfl (still_extract rfl ot rfl) (by exact trivial) (by intro h; cases h) ?_
  refine AD.take (i := 10) rfl (by kernel_rfl) (by kernel_rfl) (by kernel_rfl) (by repeat (first | exact NP.body | apply NP.then | apply NP.cut | apply NP.inBlock | apply NP.round)) (wants_plain rfl) rfl (still_as rfl ot) (by exact trivial) (by intro h; cases h) ?_
  refine AD.take (i := 11) rfl (by kernel_rfl) (by kernel_rfl) (by kernel_rfl) (by repeat (first | exact NP.body | apply NP.then | apply NP.cut | apply NP.inBlock | apply NP.round)) (wants_plain rfl) rfl (still_as rfl ot) (by exact trivial) (by intro h; cases h) ?_
  refine AD.take (i := 12) rfl (by kernel_rfl) (by kernel_rfl) (by kernel_rfl) (by repeat (first | exact NP.body | apply NP.then | apply NP.cut | apply NP.inBlock | apply NP.round)) (wants_plain rfl) rfl (still_as rfl ot) (by exact trivial) (by intro h; cases h) ?_
  refine AD.wk (y := ⟨102, [(9, _), (10, _), (11, _), (12, _), (13, _), (14, _)], [⟨b52, 25, 7, [_, _, _, _, _, _, _]⟩, ⟨b7, 40, 5, [_, _, _, _, _]⟩, ⟨b6, 40, 5, [_, _, _, _, _]⟩, ⟨b5, 40, 5, [_, _, _, _, _]⟩]⟩) (Wk.as_ rfl rfl ⟨lk, lk, lk, lk, lk, lk, trivial⟩) rfl ?_
  refine AD.done (by kernel_rfl) ?_
  refine CD.seq ?_
  refine CD.region ?_
  refine OD.still (wants_plain rfl) rfl (still_mv rfl ot) ?_
  refine OD.still (wants_plain rfl) rfl (still_bin rfl ot opd_const bin_eql) ?_
  refine OD.still (wants_plain rfl) rfl (still_mv rfl ot) ?_
  refine OD.split (t := 78) lk (fun hg78 => ?_) (fun hg78 => ?_)
  ·have hg78' := hg78; (try simp only [V.cnd, ne_eq] at hg78')
   refine OD.still (wants_T rfl rfl rfl lk (by first | rfl | assumption)) rfl (still_mv rfl ot) ?_
   refine OD.still (wants_T rfl rfl rfl lk (by first | rfl | assumption)) rfl (still_bin rfl ot opd_const bin_eql) ?_
   refine OD.still (wants_plain rfl) rfl (still_pickT rfl ot (by first | rfl | assumption) ot) ?_
   refine OD.still (wants_plain rfl) rfl (still_mv rfl ot) ?_
   refine OD.split (t := 82) lk (fun hg82 => ?_) (fun hg82 => ?_)
   ·have hg82' := hg82; (try simp only [V.cnd, ne_eq] at hg82')
    refine OD.still (wants_T rfl rfl rfl lk (by first | rfl | assumption)) rfl (still_mv rfl ot) ?_
    refine OD.still (wants_T rfl rfl rfl lk (by first | rfl | assumption)) rfl (still_r1 (mk := fun y => .call { callee := .builtin .len, args := #[y], argTypes := #[47] }) rfl ot (by first | exact len_list rfl Tryd.runUnderlying47 | exact len_row rfl Tryd.runUnderlying47)) ?_
    refine OD.still (wants_T rfl rfl rfl lk (by first | rfl | assumption)) rfl (still_mv rfl ot) ?_
    refine OD.still (wants_T rfl rfl rfl lk (by first | rfl | assumption)) rfl (still_r1 (mk := fun y => .call { callee := .builtin .len, args := #[y], argTypes := #[47] }) rfl ot (by first | exact len_list rfl Tryd.runUnderlying47 | exact len_row rfl Tryd.runUnderlying47)) ?_
    refine OD.still (wants_T rfl rfl rfl lk (by first | rfl | assumption)) rfl (still_bin rfl ot ot (bin_add (wrap_i64 (by decide) (by decide)))) ?_
    refine OD.still (wants_T rfl rfl rfl lk (by first | rfl | assumption)) rfl (still_bin rfl ot opd_const bin_eql) ?_
    refine OD.still (wants_plain rfl) rfl (still_pickT rfl ot (by first | rfl | assumption) ot) ?_
    refine OD.still (wants_plain rfl) rfl (still_mv rfl ot) ?_
    refine OD.split (t := 90) lk (fun hg90 => ?_) (fun hg90 => ?_)
    ·have hg90' := hg90; (try simp only [V.cnd, ne_eq] at hg90')
     refine OD.still (wants_T rfl rfl rfl lk (by first | rfl | assumption)) rfl (still_mv rfl ot) ?_
     refine OD.still (wants_T rfl rfl rfl lk (by first | rfl | assumption)) rfl (still_r1 (mk := fun y => .call { callee := .builtin .len, args := #[y], argTypes := #[47] }) rfl ot (by first | exact len_list rfl Tryd.runUnderlying47 | exact len_row rfl Tryd.runUnderlying47)) ?_
     refine OD.still (wants_T rfl rfl rfl lk (by first | rfl | assumption)) rfl (still_bin rfl ot opd_const bin_gtr) ?_
     refine OD.still (wants_plain rfl) rfl (still_pickT rfl ot (by first | rfl | assumption) ot) ?_
     refine OD.still (wants_plain rfl) rfl (still_mv rfl ot) ?_
     refine OD.split (t := 95) lk (fun hg95 => ?_) (fun hg95 => ?_)
     ·have hg95' := hg95; (try simp only [V.cnd, ne_eq] at hg95')
      refine OD.still (wants_T rfl rfl rfl lk (by first | rfl | assumption)) rfl (still_mv rfl ot) ?_
      first | refine OD.still (wants_T rfl rfl rfl lk (by first | rfl | assumption)) rfl (still_ofBytes rfl ot Tryd.underlying47 Tryd.underlying5 Tryd.underlying9) ?_ | refine OD.still (wants_T rfl rfl rfl lk (by first | rfl | assumption)) rfl (still_ofBytesF rfl ot Tryd.underlying47 Tryd.underlying5 Tryd.underlying9) ?_
      refine OD.still (wants_T rfl rfl rfl lk (by first | rfl | assumption)) rfl (still_mv rfl ot) ?_
      first | refine OD.still (wants_T rfl rfl rfl lk (by first | rfl | assumption)) rfl (still_ofBytes rfl ot Tryd.underlying47 Tryd.underlying5 Tryd.underlying9) ?_ | refine OD.still (wants_T rfl rfl rfl lk (by first | rfl | assumption)) rfl (still_ofBytesF rfl ot Tryd.underlying47 Tryd.underlying5 Tryd.underlying9) ?_
      refine OD.still (wants_T rfl rfl rfl lk (by first | rfl | assumption)) rfl (still_bin rfl ot ot bin_seql) ?_
      refine OD.still (wants_plain rfl) rfl (still_pickT rfl ot (by first | rfl | assumption) ot) ?_
      refine OD.still (wants_plain rfl) rfl (still_as rfl ot) ?_
      refine OD.wk (Wk.as_ (n := 102) (l' := [(4, _)]) (S' := [⟨b52, 25, 7, [_, _, _, _, _, _, _]⟩, ⟨b7, 40, 5, [_, _, _, _, _]⟩, ⟨b6, 40, 5, [_, _, _, _, _]⟩, ⟨b5, 40, 5, [_, _, _, _, _]⟩]) rfl rfl ⟨lk, trivial⟩) ?_
      refine OD.nil ?_
      refine CD.ret ?_
      refine ⟨.inr rfl, _, [], List.nil_sublist _, ret_one Tryd.results7 (res_tmp (Nat.le_of_ble_eq_true rfl) lk), ?_⟩
      first | exact ⟨rfl, rfl⟩ | (refine ⟨vb ?_, rfl⟩; simp)
     ·exact absurd hg95 (by rw [hkl]; decide)
    ·exact absurd hg90 (by simp)
   ·exact absurd hg82 (by simp)
  ·exact absurd hg78 (by simp)
 ·skip
  refine AStep.bldS (pl := numD 0 [_, _, _]) (zvs := [.int .i64 0, .int .i64 0, .int .i64 0, .string ⟨#[]⟩, .string ⟨#[]⟩, .int .i64 0, .int .i64 0, .int .i64 0, .string ⟨#[]⟩, .string ⟨#[]⟩, .int .i64 0, .int .i64 0, .int .i64 0, .string ⟨#[]⟩, .string ⟨#[]⟩]) (ds := [_, _, _, _, _, _, _, _, _, _, _, _, _, _, _]) rfl (wants_plain rfl) rfl rfl Tryd.zeroValue40 Tryd.runUnderlying25 Tryd.sizeOf40 rfl rfl (by kernel_rfl) ⟨rfl, ot, rfl, ot, rfl, ot, trivial⟩ (by exact rfl) (fill_full (by exact rfl) (by exact rfl) (by exact rfl)) (fun b71 => ?_)
  refine AD.give (k := 0) (t := 71) (sz := 5) (m := 3) rfl lk rfl rfl rfl (Nat.le_refl _) (by decide) ?_
  refine AD.one (i := 0) (by kernel_rfl) ?_
  refine AStep.callP rfl (wants_plain rfl) rfl rfl rfl Tryd.call10 (colsOf_vp) trivial ?_
  refine AD.one (i := 5) (by kernel_rfl) ?_
  refine AStep.callP rfl (wants_plain rfl) rfl rfl rfl Tryd.call16 (hbw) ⟨ot, ot, trivial⟩ ?_
  refine AD.take (i := 6) rfl (by kernel_rfl) (by kernel_rfl) (by kernel_rfl) (by repeat (first | exact NP.body | apply NP.then | apply NP.cut | apply NP.inBlock | apply NP.round)) (wants_plain rfl) rfl (still_mv rfl ot) (by exact trivial) (by intro h; cases h) ?_
  refine AD.take (i := 7) rfl (by kernel_rfl) (by kernel_rfl) (by kernel_rfl) (by repeat (first | exact NP.body | apply NP.then | apply NP.cut | apply NP.inBlock | apply NP.round)) (wants_plain rfl) rfl (still_extract rfl ot rfl) (by exact trivial) (by intro h; cases h) ?_
  refine AD.take (i := 8) rfl (by kernel_rfl) (by kernel_rfl) (by kernel_rfl) (by repeat (first | exact NP.body | apply NP.then | apply NP.cut | apply NP.inBlock | apply NP.round)) (wants_plain rfl) rfl (still_extract rfl ot rfl) (by exact trivial) (by intro h; cases h) ?_
  refine AD.take (i := 9) rfl (by kernel_rfl) (by kernel_rfl) (by kernel_rfl) (by repeat (first | exact NP.body | apply NP.then | apply NP.cut | apply NP.inBlock | apply NP.round)) (wants_plain rfl) rfl (still_extract rfl ot rfl) (by exact trivial) (by intro h; cases h) ?_
  refine AD.take (i := 10) rfl (by kernel_rfl) (by kernel_rfl) (by kernel_rfl) (by repeat (first | exact NP.body | apply NP.then | apply NP.cut | apply NP.inBlock | apply NP.round)) (wants_plain rfl) rfl (still_as rfl ot) (by exact trivial) (by intro h; cases h) ?_
  refine AD.take (i := 11) rfl (by kernel_rfl) (by kernel_rfl) (by kernel_rfl) (by repeat (first | exact NP.body | apply NP.then | apply NP.cut | apply NP.inBlock | apply NP.round)) (wants_plain rfl) rfl (still_as rfl ot) (by exact trivial) (by intro h; cases h) ?_
  refine AD.take (i := 12) rfl (by kernel_rfl) (by kernel_rfl) (by kernel_rfl) (by repeat (first | exact NP.body | apply NP.then | apply NP.cut | apply NP.inBlock | apply NP.round)) (wants_plain rfl) rfl (still_as rfl ot) (by exact trivial) (by intro h; cases h) ?_
  refine AD.wk (y := ⟨102, [(9, _), (10, _), (11, _), (12, _), (13, _), (14, _)], [⟨b52, 25, 7, [_, _, _, _, _, _, _]⟩, ⟨b7, 40, 5, [_, _, _, _, _]⟩, ⟨b6, 40, 5, [_, _, _, _, _]⟩, ⟨b5, 40, 5, [_, _, _, _, _]⟩]⟩) (Wk.as_ rfl rfl ⟨lk, lk, lk, lk, lk, lk, trivial⟩) rfl ?_
  refine AD.done (by kernel_rfl) ?_
  refine CD.seq ?_
  refine CD.region ?_
  refine OD.still (wants_plain rfl) rfl (still_mv rfl ot) ?_
  refine OD.still (wants_plain rfl) rfl (still_bin rfl ot opd_const bin_eql) ?_
  refine OD.still (wants_plain rfl) rfl (still_mv rfl ot) ?_
  refine OD.split (t := 78) lk (fun hg78 => ?_) (fun hg78 => ?_)
  ·have hg78' := hg78; (try simp only [V.cnd, ne_eq] at hg78')
   refine OD.still (wants_T rfl rfl rfl lk (by first | rfl | assumption)) rfl (still_mv rfl ot) ?_
   refine OD.still (wants_T rfl rfl rfl lk (by first | rfl | assumption)) rfl (still_bin rfl ot opd_const bin_eql) ?_
   refine OD.still (wants_plain rfl) rfl (still_pickT rfl ot (by first | rfl | assumption) ot) ?_
   refine OD.still (wants_plain rfl) rfl (still_mv rfl ot) ?_
   refine OD.split (t := 82) lk (fun hg82 => ?_) (fun hg82 => ?_)
   ·have hg82' := hg82; (try simp only [V.cnd, ne_eq] at hg82')
    refine OD.still (wants_T rfl rfl rfl lk (by first | rfl | assumption)) rfl (still_mv rfl ot) ?_
    refine OD.still (wants_T rfl rfl rfl lk (by first | rfl | assumption)) rfl (still_r1 (mk := fun y => .call { callee := .builtin .len, args := #[y], argTypes := #[47] }) rfl ot (by first | exact len_list rfl Tryd.runUnderlying47 | exact len_row rfl Tryd.runUnderlying47)) ?_
    refine OD.still (wants_T rfl rfl rfl lk (by first | rfl | assumption)) rfl (still_mv rfl ot) ?_
    refine OD.still (wants_T rfl rfl rfl lk (by first | rfl | assumption)) rfl (still_r1 (mk := fun y => .call { callee := .builtin .len, args := #[y], argTypes := #[47] }) rfl ot (by first | exact len_list rfl Tryd.runUnderlying47 | exact len_row rfl Tryd.runUnderlying47)) ?_
    refine OD.still (wants_T rfl rfl rfl lk (by first | rfl | assumption)) rfl (still_bin rfl ot ot (bin_add (wrap_i64 (by decide) (by decide)))) ?_
    refine OD.still (wants_T rfl rfl rfl lk (by first | rfl | assumption)) rfl (still_bin rfl ot opd_const bin_eql) ?_
    refine OD.still (wants_plain rfl) rfl (still_pickT rfl ot (by first | rfl | assumption) ot) ?_
    refine OD.still (wants_plain rfl) rfl (still_mv rfl ot) ?_
    refine OD.split (t := 90) lk (fun hg90 => ?_) (fun hg90 => ?_)
    ·have hg90' := hg90; (try simp only [V.cnd, ne_eq] at hg90')
     refine OD.still (wants_T rfl rfl rfl lk (by first | rfl | assumption)) rfl (still_mv rfl ot) ?_
     refine OD.still (wants_T rfl rfl rfl lk (by first | rfl | assumption)) rfl (still_r1 (mk := fun y => .call { callee := .builtin .len, args := #[y], argTypes := #[47] }) rfl ot (by first | exact len_list rfl Tryd.runUnderlying47 | exact len_row rfl Tryd.runUnderlying47)) ?_
     refine OD.still (wants_T rfl rfl rfl lk (by first | rfl | assumption)) rfl (still_bin rfl ot opd_const bin_gtr) ?_
     refine OD.still (wants_plain rfl) rfl (still_pickT rfl ot (by first | rfl | assumption) ot) ?_
     refine OD.still (wants_plain rfl) rfl (still_mv rfl ot) ?_
     refine OD.split (t := 95) lk (fun hg95 => ?_) (fun hg95 => ?_)
     ·have hg95' := hg95; (try simp only [V.cnd, ne_eq] at hg95')
      refine OD.still (wants_T rfl rfl rfl lk (by first | rfl | assumption)) rfl (still_mv rfl ot) ?_
      first | refine OD.still (wants_T rfl rfl rfl lk (by first | rfl | assumption)) rfl (still_ofBytes rfl ot Tryd.underlying47 Tryd.underlying5 Tryd.underlying9) ?_ | refine OD.still (wants_T rfl rfl rfl lk (by first | rfl | assumption)) rfl (still_ofBytesF rfl ot Tryd.underlying47 Tryd.underlying5 Tryd.underlying9) ?_
      refine OD.still (wants_T rfl rfl rfl lk (by first | rfl | assumption)) rfl (still_mv rfl ot) ?_
      first | refine OD.still (wants_T rfl rfl rfl lk (by first | rfl | assumption)) rfl (still_ofBytes rfl ot Tryd.underlying47 Tryd.underlying5 Tryd.underlying9) ?_ | refine OD.still (wants_T rfl rfl rfl lk (by first | rfl | assumption)) rfl (still_ofBytesF rfl ot Tryd.underlying47 Tryd.underlying5 Tryd.underlying9) ?_
      refine OD.still (wants_T rfl rfl rfl lk (by first | rfl | assumption)) rfl (still_bin rfl ot ot bin_seql) ?_
      refine OD.still (wants_plain rfl) rfl (still_pickT rfl ot (by first | rfl | assumption) ot) ?_
      refine OD.still (wants_plain rfl) rfl (still_as rfl ot) ?_
      refine OD.wk (Wk.as_ (n := 102) (l' := [(4, _)]) (S' := [⟨b52, 25, 7, [_, _, _, _, _, _, _]⟩, ⟨b7, 40, 5, [_, _, _, _, _]⟩, ⟨b6, 40, 5, [_, _, _, _, _]⟩, ⟨b5, 40, 5, [_, _, _, _, _]⟩]) rfl rfl ⟨lk, trivial⟩) ?_
      refine OD.nil ?_
      refine CD.ret ?_
      refine ⟨.inr rfl, _, [], List.nil_sublist _, ret_one Tryd.results7 (res_tmp (Nat.le_of_ble_eq_true rfl) lk), ?_⟩
      first | exact ⟨rfl, rfl⟩ | (refine ⟨vb ?_, rfl⟩; simp)
     ·exact absurd hg95 (by rw [hkl]; decide)
    ·exact absurd hg90 (by simp)
   ·exact absurd hg82 (by simp)
  ·exact absurd hg78 (by simp)

set_option maxHeartbeats 4000000 in
set_option maxRecDepth 100000 in
theorem none6_vp {m : Int} (hm : (3, marksC) ∈ G) (hw : (0, wordsC) ∈ G) (ht : (2, typesC) ∈ G) (hG : (1, [Value.int .i64 m]) ∈ G) (n : Int) (n1 : -9223372036854775808 ≤ n) (n2 : n ≤ 9223372036854775807) (which : Int) (which1 : -9223372036854775808 ≤ which) (which2 : which ≤ 9223372036854775807) (hk : pickedF which 7 = 6) : VP Tryd.prog G 7 [.v (.int .i64 n), .v (.int .i64 which)] (.v (.bool true)) := by
 refine VC.body Tryd.func7 rfl Tryd.ntmps7 (Nat.le_of_ble_eq_true rfl) fun X0 w0 S00 => ?_
 have hxb := pickedF_bd n (show (1 : Int) ≤ 100 by decide)
 have hbv := Bounds_at hm hw ht hG [idO, litO (pickedF n 100), bareOp 7, bareOp 5, bareOp 5] (fine_cons fine_id (fine_cons (fine_lit (by omega) (by omega)) (fine_cons (fine_bare 7) (fine_cons (fine_bare 5) (fine_cons (fine_bare 5) fine_nil)))))
 rw [none6 hxb.1] at hbv
 unfold bdD bytesL at hbv
 have hbw := Bounds_at hm hw ht hG [idO, litO (pickedF n 100), bareOp 6] (fine_cons fine_id (fine_cons (fine_lit (by omega) (by omega)) (fine_cons (fine_bare 6) fine_nil)))
 rw [one0 hxb.1] at hbw
 unfold bdD bytesL at hbw
 have hkl := key_len (pickedF n 100)
 have hpn := (picked_vp G n 100 n1 n2 (by decide))
 have hnv := number_vp (G := G) (pickedF n 100)
 unfold cV at hnv
 have hpk := (picked_vp G which 7 which1 which2 (by decide))
 rw [hk] at hpk
 generalize (pickedF n 100) = x at *
 refine CD.seq ?_
 refine CD.region ?_
 refine OD.still (wants_plain rfl) rfl (still_as rfl opd_const) ?_
 refine OD.wk (Wk.as_ (n := 102) (l' := [(0, _), (1, _)]) (S' := []) rfl rfl ⟨lk, lk, trivial⟩) ?_
 refine OD.nil ?_
 refine CD.seq ?_
 refine CD.region ?_
 refine OD.still (wants_plain rfl) rfl (still_mv rfl ot) ?_
 refine OD.callP (wants_plain rfl) rfl rfl rfl Tryd.call15 (hpn) ⟨ot, opd_const, trivial⟩ ?_
 refine OD.callP (wants_plain rfl) rfl rfl rfl Tryd.call19 (hnv) ⟨ot, trivial⟩ ?_
 refine OD.still (wants_plain rfl) rfl (still_bld (pl := [(0, _), (1, _)]) (ds := [_, _, _, _, _]) rfl Tryd.zeroValue40 Tryd.runUnderlying40 places40_Exc ⟨rfl, opd_const, rfl, ot, trivial⟩ rfl rfl) ?_
 refine OD.alloc (ds := [_, _, _, _, _]) (wants_plain rfl) rfl rfl Tryd.zeroValue40 rfl (fun b5 => ?_)
 refine OD.store (k := 0) (cs' := [_, _, _, _, _]) (wants_plain rfl) rfl rfl ot rfl rfl ot rfl rfl Tryd.sizeOf40 rfl rfl rfl ?_
 refine OD.wk (Wk.as_ (n := 102) (l' := [(1, _), (5, _)]) (S' := [⟨b5, 40, 5, [_, _, _, _, _]⟩]) rfl rfl ⟨lk, lk, trivial⟩) ?_
 refine OD.nil ?_
 refine CD.seq ?_
 refine CD.region ?_
 refine OD.still (wants_plain rfl) rfl (still_bld (pl := [(0, _), (2, _)]) (ds := [_, _, _, _, _]) rfl Tryd.zeroValue40 Tryd.runUnderlying40 places40_Exc ⟨rfl, opd_const, rfl, opd_const, trivial⟩ rfl rfl) ?_
 refine OD.alloc (ds := [_, _, _, _, _]) (wants_plain rfl) rfl rfl Tryd.zeroValue40 rfl (fun b6 => ?_)
 refine OD.store (k := 0) (cs' := [_, _, _, _, _]) (wants_plain rfl) rfl rfl ot rfl rfl ot rfl rfl Tryd.sizeOf40 rfl rfl rfl ?_
 refine OD.wk (Wk.as_ (n := 102) (l' := [(1, _), (5, _), (6, _)]) (S' := [⟨b6, 40, 5, [_, _, _, _, _]⟩, ⟨b5, 40, 5, [_, _, _, _, _]⟩]) rfl rfl ⟨lk, lk, lk, trivial⟩) ?_
 refine OD.nil ?_
 refine CD.seq ?_
 refine CD.region ?_
 refine OD.still (wants_plain rfl) rfl (still_bld (pl := [(0, _), (2, _)]) (ds := [_, _, _, _, _]) rfl Tryd.zeroValue40 Tryd.runUnderlying40 places40_Exc ⟨rfl, opd_const, rfl, opd_const, trivial⟩ rfl rfl) ?_
 refine OD.alloc (ds := [_, _, _, _, _]) (wants_plain rfl) rfl rfl Tryd.zeroValue40 rfl (fun b7 => ?_)
 refine OD.store (k := 0) (cs' := [_, _, _, _, _]) (wants_plain rfl) rfl rfl ot rfl rfl ot rfl rfl Tryd.sizeOf40 rfl rfl rfl ?_
 refine OD.wk (Wk.as_ (n := 102) (l' := [(1, _), (5, _), (6, _), (7, _)]) (S' := [⟨b7, 40, 5, [_, _, _, _, _]⟩, ⟨b6, 40, 5, [_, _, _, _, _]⟩, ⟨b5, 40, 5, [_, _, _, _, _]⟩]) rfl rfl ⟨lk, lk, lk, lk, trivial⟩) ?_
 refine OD.nil ?_
 refine CD.seq ?_
 refine CD.region ?_
 refine OD.still (wants_plain rfl) rfl (still_r1 (mk := Op.load 40) rfl ot (by first | exact ld_blks (k := 0) (ds := [_, _, _, _, _]) rfl rfl Tryd.isAgg40 Tryd.sizeOf40 rfl rfl | exact ld_is (ds := [_, _, _, _, _]) Tryd.isAgg40 Tryd.sizeOf40 rfl rfl)) ?_
 refine OD.still (wants_plain rfl) rfl (still_r1 (mk := Op.load 40) rfl ot (by first | exact ld_blks (k := 2) (ds := [_, _, _, _, _]) rfl rfl Tryd.isAgg40 Tryd.sizeOf40 rfl rfl | exact ld_is (ds := [_, _, _, _, _]) Tryd.isAgg40 Tryd.sizeOf40 rfl rfl)) ?_
 refine OD.still (wants_plain rfl) rfl (still_bld (pl := [(0, _)]) (ds := [_, _, _, _, _]) rfl Tryd.zeroValue40 Tryd.runUnderlying40 places40_Exc ⟨rfl, opd_const, trivial⟩ rfl rfl) ?_
 refine OD.bldS (pl := numD 0 [_, _, _]) (zvs := [.int .i64 0, .int .i64 0, .int .i64 0, .string ⟨#[]⟩, .string ⟨#[]⟩, .int .i64 0, .int .i64 0, .int .i64 0, .string ⟨#[]⟩, .string ⟨#[]⟩, .int .i64 0, .int .i64 0, .int .i64 0, .string ⟨#[]⟩, .string ⟨#[]⟩]) (ds := [_, _, _, _, _, _, _, _, _, _, _, _, _, _, _]) (wants_plain rfl) rfl rfl Tryd.zeroValue40 Tryd.runUnderlying25 Tryd.sizeOf40 rfl rfl (by kernel_rfl) ⟨rfl, ot, rfl, ot, rfl, ot, trivial⟩ (by exact rfl) (fill_full (by exact rfl) (by exact rfl) (by exact rfl)) (fun b24 => ?_)
 refine OD.perm (perm_q11 (S1 := [⟨b24, 40, 3 * 5, List.flatMap cO ([colN, litO x, bareOp 6])⟩]) (A := [_, _, _])) ?_
 refine OD.giveL (t := 24) (Sq := [⟨b24, 40, 3 * 5, List.flatMap cO ([colN, litO x, bareOp 6])⟩]) lk (ownL_row (g := cO) (sz := 5) (e := 40) (ls := [colN, litO x, bareOp 6]) (Nat.le_refl _) (show 3 ≤ maxLen by decide)) (fm_len cO_len _) (perm_r11 (A := [_, _, _])) ?_
 refine OD.still (wants_plain rfl) rfl (still_r1 (mk := Op.load 40) rfl ot (by first | exact ld_blks (k := 1) (ds := [_, _, _, _, _]) rfl rfl Tryd.isAgg40 Tryd.sizeOf40 rfl rfl | exact ld_is (ds := [_, _, _, _, _]) Tryd.isAgg40 Tryd.sizeOf40 rfl rfl)) ?_
 refine OD.still (wants_plain rfl) rfl (still_bld (pl := [(0, _)]) (ds := [_, _, _, _, _]) rfl Tryd.zeroValue40 Tryd.runUnderlying40 places40_Exc ⟨rfl, opd_const, trivial⟩ rfl rfl) ?_
 refine OD.still (wants_plain rfl) rfl (still_bld (pl := [(0, _)]) (ds := [_, _, _, _, _]) rfl Tryd.zeroValue40 Tryd.runUnderlying40 places40_Exc ⟨rfl, opd_const, trivial⟩ rfl rfl) ?_
 refine OD.bldS (pl := numD 0 [_, _, _]) (zvs := [.int .i64 0, .int .i64 0, .int .i64 0, .string ⟨#[]⟩, .string ⟨#[]⟩, .int .i64 0, .int .i64 0, .int .i64 0, .string ⟨#[]⟩, .string ⟨#[]⟩, .int .i64 0, .int .i64 0, .int .i64 0, .string ⟨#[]⟩, .string ⟨#[]⟩]) (ds := [_, _, _, _, _, _, _, _, _, _, _, _, _, _, _]) (wants_plain rfl) rfl rfl Tryd.zeroValue40 Tryd.runUnderlying25 Tryd.sizeOf40 rfl rfl (by kernel_rfl) ⟨rfl, ot, rfl, ot, rfl, ot, trivial⟩ (by exact rfl) (fill_full (by exact rfl) (by exact rfl) (by exact rfl)) (fun b28 => ?_)
 refine OD.perm (perm_q11 (S1 := [⟨b28, 40, 3 * 5, List.flatMap cO ([idO, nulO, bareOp 6])⟩]) (A := [_, _, _])) ?_
 refine OD.giveL (t := 28) (Sq := [⟨b28, 40, 3 * 5, List.flatMap cO ([idO, nulO, bareOp 6])⟩]) lk (ownL_row (g := cO) (sz := 5) (e := 40) (ls := [idO, nulO, bareOp 6]) (Nat.le_refl _) (show 3 ≤ maxLen by decide)) (fm_len cO_len _) (perm_r11 (A := [_, _, _])) ?_
 refine OD.still (wants_plain rfl) rfl (still_r1 (mk := Op.load 40) rfl ot (by first | exact ld_blks (k := 1) (ds := [_, _, _, _, _]) rfl rfl Tryd.isAgg40 Tryd.sizeOf40 rfl rfl | exact ld_is (ds := [_, _, _, _, _]) Tryd.isAgg40 Tryd.sizeOf40 rfl rfl)) ?_
 refine OD.still (wants_plain rfl) rfl (still_r1 (mk := Op.load 40) rfl ot (by first | exact ld_blks (k := 0) (ds := [_, _, _, _, _]) rfl rfl Tryd.isAgg40 Tryd.sizeOf40 rfl rfl | exact ld_is (ds := [_, _, _, _, _]) Tryd.isAgg40 Tryd.sizeOf40 rfl rfl)) ?_
 refine OD.still (wants_plain rfl) rfl (still_bld (pl := [(0, _)]) (ds := [_, _, _, _, _]) rfl Tryd.zeroValue40 Tryd.runUnderlying40 places40_Exc ⟨rfl, opd_const, trivial⟩ rfl rfl) ?_
 refine OD.bldS (pl := numD 0 [_, _, _]) (zvs := [.int .i64 0, .int .i64 0, .int .i64 0, .string ⟨#[]⟩, .string ⟨#[]⟩, .int .i64 0, .int .i64 0, .int .i64 0, .string ⟨#[]⟩, .string ⟨#[]⟩, .int .i64 0, .int .i64 0, .int .i64 0, .string ⟨#[]⟩, .string ⟨#[]⟩]) (ds := [_, _, _, _, _, _, _, _, _, _, _, _, _, _, _]) (wants_plain rfl) rfl rfl Tryd.zeroValue40 Tryd.runUnderlying25 Tryd.sizeOf40 rfl rfl (by kernel_rfl) ⟨rfl, ot, rfl, ot, rfl, ot, trivial⟩ (by exact rfl) (fill_full (by exact rfl) (by exact rfl) (by exact rfl)) (fun b32 => ?_)
 refine OD.perm (perm_q11 (S1 := [⟨b32, 40, 3 * 5, List.flatMap cO ([idO, colN, bareOp 7])⟩]) (A := [_, _, _])) ?_
 refine OD.giveL (t := 32) (Sq := [⟨b32, 40, 3 * 5, List.flatMap cO ([idO, colN, bareOp 7])⟩]) lk (ownL_row (g := cO) (sz := 5) (e := 40) (ls := [idO, colN, bareOp 7]) (Nat.le_refl _) (show 3 ≤ maxLen by decide)) (fm_len cO_len _) (perm_r11 (A := [_, _, _])) ?_
 refine OD.still (wants_plain rfl) rfl (still_r1 (mk := Op.load 40) rfl ot (by first | exact ld_blks (k := 2) (ds := [_, _, _, _, _]) rfl rfl Tryd.isAgg40 Tryd.sizeOf40 rfl rfl | exact ld_is (ds := [_, _, _, _, _]) Tryd.isAgg40 Tryd.sizeOf40 rfl rfl)) ?_
 refine OD.still (wants_plain rfl) rfl (still_r1 (mk := Op.load 40) rfl ot (by first | exact ld_blks (k := 2) (ds := [_, _, _, _, _]) rfl rfl Tryd.isAgg40 Tryd.sizeOf40 rfl rfl | exact ld_is (ds := [_, _, _, _, _]) Tryd.isAgg40 Tryd.sizeOf40 rfl rfl)) ?_
 refine OD.still (wants_plain rfl) rfl (still_bld (pl := [(0, _)]) (ds := [_, _, _, _, _]) rfl Tryd.zeroValue40 Tryd.runUnderlying40 places40_Exc ⟨rfl, opd_const, trivial⟩ rfl rfl) ?_
 refine OD.bldS (pl := numD 0 [_, _, _]) (zvs := [.int .i64 0, .int .i64 0, .int .i64 0, .string ⟨#[]⟩, .string ⟨#[]⟩, .int .i64 0, .int .i64 0, .int .i64 0, .string ⟨#[]⟩, .string ⟨#[]⟩, .int .i64 0, .int .i64 0, .int .i64 0, .string ⟨#[]⟩, .string ⟨#[]⟩]) (ds := [_, _, _, _, _, _, _, _, _, _, _, _, _, _, _]) (wants_plain rfl) rfl rfl Tryd.zeroValue40 Tryd.runUnderlying25 Tryd.sizeOf40 rfl rfl (by kernel_rfl) ⟨rfl, ot, rfl, ot, rfl, ot, trivial⟩ (by exact rfl) (fill_full (by exact rfl) (by exact rfl) (by exact rfl)) (fun b36 => ?_)
 refine OD.perm (perm_q11 (S1 := [⟨b36, 40, 3 * 5, List.flatMap cO ([litO x, litO x, bareOp 7])⟩]) (A := [_, _, _])) ?_
 refine OD.giveL (t := 36) (Sq := [⟨b36, 40, 3 * 5, List.flatMap cO ([litO x, litO x, bareOp 7])⟩]) lk (ownL_row (g := cO) (sz := 5) (e := 40) (ls := [litO x, litO x, bareOp 7]) (Nat.le_refl _) (show 3 ≤ maxLen by decide)) (fm_len cO_len _) (perm_r11 (A := [_, _, _])) ?_
 refine OD.still (wants_plain rfl) rfl (still_r1 (mk := Op.load 40) rfl ot (by first | exact ld_blks (k := 1) (ds := [_, _, _, _, _]) rfl rfl Tryd.isAgg40 Tryd.sizeOf40 rfl rfl | exact ld_is (ds := [_, _, _, _, _]) Tryd.isAgg40 Tryd.sizeOf40 rfl rfl)) ?_
 refine OD.still (wants_plain rfl) rfl (still_bld (pl := [(0, _)]) (ds := [_, _, _, _, _]) rfl Tryd.zeroValue40 Tryd.runUnderlying40 places40_Exc ⟨rfl, opd_const, trivial⟩ rfl rfl) ?_
 refine OD.bldS (pl := numD 0 [_, _]) (zvs := [.int .i64 0, .int .i64 0, .int .i64 0, .string ⟨#[]⟩, .string ⟨#[]⟩, .int .i64 0, .int .i64 0, .int .i64 0, .string ⟨#[]⟩, .string ⟨#[]⟩]) (ds := [_, _, _, _, _, _, _, _, _, _]) (wants_plain rfl) rfl rfl Tryd.zeroValue40 Tryd.runUnderlying25 Tryd.sizeOf40 rfl rfl (by kernel_rfl) ⟨rfl, ot, rfl, ot, trivial⟩ (by exact rfl) (fill_full (by exact rfl) (by exact rfl) (by exact rfl)) (fun b39 => ?_)
 refine OD.perm (perm_q11 (S1 := [⟨b39, 40, 2 * 5, List.flatMap cO ([idO, bareOp 11])⟩]) (A := [_, _, _])) ?_
 refine OD.giveL (t := 39) (Sq := [⟨b39, 40, 2 * 5, List.flatMap cO ([idO, bareOp 11])⟩]) lk (ownL_row (g := cO) (sz := 5) (e := 40) (ls := [idO, bareOp 11]) (Nat.le_refl _) (show 2 ≤ maxLen by decide)) (fm_len cO_len _) (perm_r11 (A := [_, _, _])) ?_
 refine OD.still (wants_plain rfl) rfl (still_r1 (mk := Op.load 40) rfl ot (by first | exact ld_blks (k := 1) (ds := [_, _, _, _, _]) rfl rfl Tryd.isAgg40 Tryd.sizeOf40 rfl rfl | exact ld_is (ds := [_, _, _, _, _]) Tryd.isAgg40 Tryd.sizeOf40 rfl rfl)) ?_
 refine OD.still (wants_plain rfl) rfl (still_r1 (mk := Op.load 40) rfl ot (by first | exact ld_blks (k := 2) (ds := [_, _, _, _, _]) rfl rfl Tryd.isAgg40 Tryd.sizeOf40 rfl rfl | exact ld_is (ds := [_, _, _, _, _]) Tryd.isAgg40 Tryd.sizeOf40 rfl rfl)) ?_
 refine OD.still (wants_plain rfl) rfl (still_bld (pl := [(0, _)]) (ds := [_, _, _, _, _]) rfl Tryd.zeroValue40 Tryd.runUnderlying40 places40_Exc ⟨rfl, opd_const, trivial⟩ rfl rfl) ?_
 refine OD.still (wants_plain rfl) rfl (still_r1 (mk := Op.load 40) rfl ot (by first | exact ld_blks (k := 2) (ds := [_, _, _, _, _]) rfl rfl Tryd.isAgg40 Tryd.sizeOf40 rfl rfl | exact ld_is (ds := [_, _, _, _, _]) Tryd.isAgg40 Tryd.sizeOf40 rfl rfl)) ?_
 refine OD.still (wants_plain rfl) rfl (still_bld (pl := [(0, _)]) (ds := [_, _, _, _, _]) rfl Tryd.zeroValue40 Tryd.runUnderlying40 places40_Exc ⟨rfl, opd_const, trivial⟩ rfl rfl) ?_
 refine OD.bldS (pl := numD 0 [_, _, _, _, _]) (zvs := [.int .i64 0, .int .i64 0, .int .i64 0, .string ⟨#[]⟩, .string ⟨#[]⟩, .int .i64 0, .int .i64 0, .int .i64 0, .string ⟨#[]⟩, .string ⟨#[]⟩, .int .i64 0, .int .i64 0, .int .i64 0, .string ⟨#[]⟩, .string ⟨#[]⟩, .int .i64 0, .int .i64 0, .int .i64 0, .string ⟨#[]⟩, .string ⟨#[]⟩, .int .i64 0, .int .i64 0, .int .i64 0, .string ⟨#[]⟩, .string ⟨#[]⟩]) (ds := [_, _, _, _, _, _, _, _, _, _, _, _, _, _, _, _, _, _, _, _, _, _, _, _, _]) (wants_plain rfl) rfl rfl Tryd.zeroValue40 Tryd.runUnderlying25 Tryd.sizeOf40 rfl rfl (by kernel_rfl) ⟨rfl, ot, rfl, ot, rfl, ot, rfl, ot, rfl, ot, trivial⟩ (by exact rfl) (fill_full (by exact rfl) (by exact rfl) (by exact rfl)) (fun b45 => ?_)
 refine OD.perm (perm_q11 (S1 := [⟨b45, 40, 5 * 5, List.flatMap cO ([idO, litO x, bareOp 8, litO x, bareOp 7])⟩]) (A := [_, _, _])) ?_
 refine OD.giveL (t := 45) (Sq := [⟨b45, 40, 5 * 5, List.flatMap cO ([idO, litO x, bareOp 8, litO x, bareOp 7])⟩]) lk (ownL_row (g := cO) (sz := 5) (e := 40) (ls := [idO, litO x, bareOp 8, litO x, bareOp 7]) (Nat.le_refl _) (show 5 ≤ maxLen by decide)) (fm_len cO_len _) (perm_r11 (A := [_, _, _])) ?_
 refine OD.still (wants_plain rfl) rfl (still_r1 (mk := Op.load 40) rfl ot (by first | exact ld_blks (k := 1) (ds := [_, _, _, _, _]) rfl rfl Tryd.isAgg40 Tryd.sizeOf40 rfl rfl | exact ld_is (ds := [_, _, _, _, _]) Tryd.isAgg40 Tryd.sizeOf40 rfl rfl)) ?_
 refine OD.still (wants_plain rfl) rfl (still_r1 (mk := Op.load 40) rfl ot (by first | exact ld_blks (k := 2) (ds := [_, _, _, _, _]) rfl rfl Tryd.isAgg40 Tryd.sizeOf40 rfl rfl | exact ld_is (ds := [_, _, _, _, _]) Tryd.isAgg40 Tryd.sizeOf40 rfl rfl)) ?_
 refine OD.still (wants_plain rfl) rfl (still_bld (pl := [(0, _)]) (ds := [_, _, _, _, _]) rfl Tryd.zeroValue40 Tryd.runUnderlying40 places40_Exc ⟨rfl, opd_const, trivial⟩ rfl rfl) ?_
 refine OD.still (wants_plain rfl) rfl (still_bld (pl := [(0, _)]) (ds := [_, _, _, _, _]) rfl Tryd.zeroValue40 Tryd.runUnderlying40 places40_Exc ⟨rfl, opd_const, trivial⟩ rfl rfl) ?_
 refine OD.still (wants_plain rfl) rfl (still_bld (pl := [(0, _)]) (ds := [_, _, _, _, _]) rfl Tryd.zeroValue40 Tryd.runUnderlying40 places40_Exc ⟨rfl, opd_const, trivial⟩ rfl rfl) ?_
 refine OD.bldS (pl := numD 0 [_, _, _, _, _]) (zvs := [.int .i64 0, .int .i64 0, .int .i64 0, .string ⟨#[]⟩, .string ⟨#[]⟩, .int .i64 0, .int .i64 0, .int .i64 0, .string ⟨#[]⟩, .string ⟨#[]⟩, .int .i64 0, .int .i64 0, .int .i64 0, .string ⟨#[]⟩, .string ⟨#[]⟩, .int .i64 0, .int .i64 0, .int .i64 0, .string ⟨#[]⟩, .string ⟨#[]⟩, .int .i64 0, .int .i64 0, .int .i64 0, .string ⟨#[]⟩, .string ⟨#[]⟩]) (ds := [_, _, _, _, _, _, _, _, _, _, _, _, _, _, _, _, _, _, _, _, _, _, _, _, _]) (wants_plain rfl) rfl rfl Tryd.zeroValue40 Tryd.runUnderlying25 Tryd.sizeOf40 rfl rfl (by kernel_rfl) ⟨rfl, ot, rfl, ot, rfl, ot, rfl, ot, rfl, ot, trivial⟩ (by exact rfl) (fill_full (by exact rfl) (by exact rfl) (by exact rfl)) (fun b51 => ?_)
 refine OD.perm (perm_q11 (S1 := [⟨b51, 40, 5 * 5, List.flatMap cO ([idO, litO x, bareOp 7, bareOp 5, bareOp 5])⟩]) (A := [_, _, _])) ?_
 refine OD.giveL (t := 51) (Sq := [⟨b51, 40, 5 * 5, List.flatMap cO ([idO, litO x, bareOp 7, bareOp 5, bareOp 5])⟩]) lk (ownL_row (g := cO) (sz := 5) (e := 40) (ls := [idO, litO x, bareOp 7, bareOp 5, bareOp 5]) (Nat.le_refl _) (show 5 ≤ maxLen by decide)) (fm_len cO_len _) (perm_r11 (A := [_, _, _])) ?_
 refine OD.bldS (pl := numD 0 [_, _, _, _, _, _, _]) (zvs := [.slice none 0 0, .slice none 0 0, .slice none 0 0, .slice none 0 0, .slice none 0 0, .slice none 0 0, .slice none 0 0]) (ds := [_, _, _, _, _, _, _]) (wants_plain rfl) rfl rfl Tryd.zeroValue25 Tryd.runUnderlying46 Tryd.sizeOf25 rfl rfl (by kernel_rfl) ⟨rfl, ot, rfl, ot, rfl, ot, rfl, ot, rfl, ot, rfl, ot, rfl, ot, trivial⟩ (by exact rfl) (fill_full (by exact rfl) (by exact rfl) (by exact rfl)) (fun b52 => ?_)
 refine OD.still (wants_plain rfl) rfl (still_as rfl ot) ?_
 refine OD.wk (Wk.as_ (n := 102) (l' := [(1, _), (5, _), (6, _), (8, _)]) (S' := [⟨b52, 25, 7, [_, _, _, _, _, _, _]⟩, ⟨b7, 40, 5, [_, _, _, _, _]⟩, ⟨b6, 40, 5, [_, _, _, _, _]⟩, ⟨b5, 40, 5, [_, _, _, _, _]⟩]) rfl rfl ⟨lk, lk, lk, lk, trivial⟩) ?_
 refine OD.nil ?_
 refine CD.seq ?_
 refine CD.region ?_
 refine OD.callP (wants_plain rfl) rfl rfl rfl Tryd.call10 (colsOf_vp) trivial ?_
 refine OD.still (wants_plain rfl) rfl (still_mv rfl ot) ?_
 refine OD.still (wants_plain rfl) rfl (still_mv rfl ot) ?_
 refine OD.still (wants_plain rfl) rfl (still_mv rfl ot) ?_
 refine OD.still (wants_plain rfl) rfl (still_r1 (mk := fun y => .call { callee := .builtin .len, args := #[y], argTypes := #[46] }) rfl ot (by first | exact len_list rfl Tryd.runUnderlying46 | exact len_row rfl Tryd.runUnderlying46)) ?_
 refine OD.callP (wants_plain rfl) rfl rfl rfl Tryd.call15 (hpk) ⟨ot, ot, trivial⟩ ?_
 refine OD.still (wants_plain rfl) rfl (still_r2 (mk := Op.indexAddr 46) rfl ot ot (by first | exact ix_list Tryd.runUnderlying46 Tryd.sizeOf25 (j := 6) rfl (by decide) | exact ix_row Tryd.runUnderlying46 Tryd.sizeOf25 (j := 6) rfl (by decide))) ?_
 refine OD.still (wants_plain rfl) rfl (still_r1 (mk := Op.load 25) rfl ot (by first | exact ld_blk (k := 0) rfl rfl Tryd.isAgg25 rfl | exact ld_blk (k := 1) rfl rfl Tryd.isAgg25 rfl | exact ld_blk (k := 2) rfl rfl Tryd.isAgg25 rfl | exact ld_blk (k := 3) rfl rfl Tryd.isAgg25 rfl | exact ld_i Tryd.isAgg25 rfl)) ?_
 refine OD.callP (wants_plain rfl) rfl rfl rfl Tryd.call16 (hbv) ⟨ot, ot, trivial⟩ ?_
 refine OD.still (wants_plain rfl) rfl (still_mv rfl ot) ?_
 refine OD.still (wants_plain rfl) rfl (still_extract rfl ot rfl) ?_
 refine OD.still (wants_plain rfl) rfl (still_extract rfl ot rfl) ?_
 refine OD.still (wants_plain rfl) rfl (still_extract rfl ot rfl) ?_
 refine OD.still (wants_plain rfl) rfl (still_as rfl ot) ?_
 refine OD.still (wants_plain rfl) rfl (still_as rfl ot) ?_
 refine OD.still (wants_plain rfl) rfl (still_as rfl ot) ?_
 refine OD.wk (Wk.as_ (n := 102) (l' := [(5, _), (6, _), (9, _), (10, _), (11, _)]) (S' := [⟨b52, 25, 7, [_, _, _, _, _, _, _]⟩, ⟨b7, 40, 5, [_, _, _, _, _]⟩, ⟨b6, 40, 5, [_, _, _, _, _]⟩, ⟨b5, 40, 5, [_, _, _, _, _]⟩]) rfl rfl ⟨lk, lk, lk, lk, lk, trivial⟩) ?_
 refine OD.nil ?_
 refine CD.seq ?_
 refine CD.draw (bks _) (by kernel_rfl) (fun _ h => h) ?_
 refine AD0.take (i := 1) rfl (by kernel_rfl) (by kernel_rfl) (by kernel_rfl) (by repeat (first | exact NP.body | apply NP.then | apply NP.cut | apply NP.inBlock | apply NP.round)) (wants_plain rfl) rfl (still_r1 (mk := Op.load 40) rfl ot (by first | exact ld_blks (k := 2) (ds := [_, _, _, _, _]) rfl rfl Tryd.isAgg40 Tryd.sizeOf40 rfl rfl | exact ld_is (ds := [_, _, _, _, _]) Tryd.isAgg40 Tryd.sizeOf40 rfl rfl)) (by first | exact trivial | exact safe_blk (k0 := 0) rfl rfl | exact safe_blk (k0 := 1) rfl rfl | exact safe_blk (k0 := 2) rfl rfl | exact safe_blk (k0 := 3) rfl rfl) ?_
 refine AD0.take (i := 2) rfl (by kernel_rfl) (by kernel_rfl) (by kernel_rfl) (by repeat (first | exact NP.body | apply NP.then | apply NP.cut | apply NP.inBlock | apply NP.round)) (wants_plain rfl) rfl (still_r1 (mk := Op.load 40) rfl ot (by first | exact ld_blks (k := 3) (ds := [_, _, _, _, _]) rfl rfl Tryd.isAgg40 Tryd.sizeOf40 rfl rfl | exact ld_is (ds := [_, _, _, _, _]) Tryd.isAgg40 Tryd.sizeOf40 rfl rfl)) (by first | exact trivial | exact safe_blk (k0 := 0) rfl rfl | exact safe_blk (k0 := 1) rfl rfl | exact safe_blk (k0 := 2) rfl rfl | exact safe_blk (k0 := 3) rfl rfl) ?_
 refine AD0.take (i := 3) rfl (by kernel_rfl) (by kernel_rfl) (by kernel_rfl) (by repeat (first | exact NP.body | apply NP.then | apply NP.cut | apply NP.inBlock | apply NP.round)) (wants_plain rfl) rfl (still_bld (pl := [(0, _)]) (ds := [_, _, _, _, _]) rfl Tryd.zeroValue40 Tryd.runUnderlying40 places40_Exc ⟨rfl, opd_const, trivial⟩ rfl rfl) (by exact trivial) ?_
 refine AD0.later rfl ?_
 refine AD.two (i := 0) (j := 4) (by kernel_rfl) ?_ ?_
 ·skip
  refine AStep.callP rfl (wants_plain rfl) rfl rfl rfl Tryd.call10 (colsOf_vp) trivial ?_
  refine AD.one (i := 4) (by kernel_rfl) ?_
  refine AStep.bldS (pl := numD 0 [_, _, _]) (zvs := [.int .i64 0, .int .i64 0, .int .i64 0, .string ⟨#[]⟩, .string ⟨#[]⟩, .int .i64 0, .int .i64 0, .int .i64 0, .string ⟨#[]⟩, .string ⟨#[]⟩, .int .i64 0, .int .i64 0, .int .i64 0, .string ⟨#[]⟩, .string ⟨#[]⟩]) (ds := [_, _, _, _, _, _, _, _, _, _, _, _, _, _, _]) rfl (wants_plain rfl) rfl rfl Tryd.zeroValue40 Tryd.runUnderlying25 Tryd.sizeOf40 rfl rfl (by kernel_rfl) ⟨rfl, ot, rfl, ot, rfl, ot, trivial⟩ (by exact rfl) (fill_full (by exact rfl) (by exact rfl) (by exact rfl)) (fun b71 => ?_)
  refine AD.give (k := 0) (t := 71) (sz := 5) (m := 3) rfl lk rfl rfl rfl (Nat.le_refl _) (by decide) ?_
  refine AD.one (i := 5) (by kernel_rfl) ?_
  refine AStep.callP rfl (wants_plain rfl) rfl rfl rfl Tryd.call16 (hbw) ⟨ot, ot, trivial⟩ ?_
  refine AD.take (i := 6) rfl (by kernel_rfl) (by kernel_rfl) (by kernel_rfl) (by repeat (first | exact NP.body | apply NP.then | apply NP.cut | apply NP.inBlock | apply NP.round)) (wants_plain rfl) rfl (still_mv rfl ot) (by exact trivial) (by intro h; cases h) ?_
  refine AD.take (i := 7) rfl (by kernel_rfl) (by kernel_rfl) (by kernel_rfl) (by repeat (first | exact NP.body | apply NP.then | apply NP.cut | apply NP.inBlock | apply NP.round)) (wants_plain rfl) rfl (still_extract rfl ot rfl) (by exact trivial) (by intro h; cases h) ?_
  refine AD.take (i := 8) rfl (by kernel_rfl) (by kernel_rfl) (by kernel_rfl) (by repeat (first | exact NP.body | apply NP.then | apply NP.cut | apply NP.inBlock | apply NP.round)) (wants_plain rfl) rfl (still_extract rfl ot rfl) (by exact trivial) (by intro h; cases h) ?_
  refine AD.take (i := 9) rfl (by kernel_rfl) (by kernel_rfl) (by kernel_rfl) (by repeat (first | exact NP.body | apply NP.then | apply NP.cut | apply NP.inBlock | apply NP.round)) (wants_plain rfl) rfl (still_extract rfl ot rfl) (by exact trivial) (by intro h; cases h) ?_
  refine AD.take (i := 10) rfl (by kernel_rfl) (by kernel_rfl) (by kernel_rfl) (by repeat (first | exact NP.body | apply NP.then | apply NP.cut | apply NP.inBlock | apply NP.round)) (wants_plain rfl) rfl (still_as rfl ot) (by exact trivial) (by intro h; cases h) ?_
  refine AD.take (i := 11) rfl (by kernel_rfl) (by kernel_rfl) (by kernel_rfl) (by repeat (first | exact NP.body | apply NP.then | apply NP.cut | apply NP.inBlock | apply NP.round)) (wants_plain rfl) rfl (still_as rfl ot) (by exact trivial) (by intro h; cases h) ?_
  refine AD.take (i := 12) rfl (by kernel_rfl) (by kernel_rfl) (by kernel_rfl) (by repeat (first | exact NP.body | apply NP.then | apply NP.cut | apply NP.inBlock | apply NP.round)) (wants_plain rfl) rfl (still_as rfl ot) (by exact trivial) (by intro h; cases h) ?_
  refine AD.wk (y := ⟨102, [(9, _), (10, _), (11, _), (12, _), (13, _), (14, _)], [⟨b52, 25, 7, [_, _, _, _, _, _, _]⟩, ⟨b7, 40, 5, [_, _, _, _, _]⟩, ⟨b6, 40, 5, [_, _, _, _, _]⟩, ⟨b5, 40, 5, [_, _, _, _, _]⟩]⟩) (Wk.as_ rfl rfl ⟨lk, lk, lk, lk, lk, lk, trivial⟩) rfl ?_
  refine AD.done (by kernel_rfl) ?_
  refine CD.seq ?_
  refine CD.region ?_
  refine OD.still (wants_plain rfl) rfl (still_mv rfl ot) ?_
  refine OD.still (wants_plain rfl) rfl (still_bin rfl ot opd_const bin_eql) ?_
  refine OD.still (wants_plain rfl) rfl (still_mv rfl ot) ?_
  refine OD.split (t := 78) lk (fun hg78 => ?_) (fun hg78 => ?_)
  ·have hg78' := hg78; (try simp only [V.cnd, ne_eq] at hg78')
   refine OD.still (wants_T rfl rfl rfl lk (by first | rfl | assumption)) rfl (still_mv rfl ot) ?_
   refine OD.still (wants_T rfl rfl rfl lk (by first | rfl | assumption)) rfl (still_bin rfl ot opd_const bin_eql) ?_
   refine OD.still (wants_plain rfl) rfl (still_pickT rfl ot (by first | rfl | assumption) ot) ?_
   refine OD.still (wants_plain rfl) rfl (still_mv rfl ot) ?_
   refine OD.split (t := 82) lk (fun hg82 => ?_) (fun hg82 => ?_)
   ·have hg82' := hg82; (try simp only [V.cnd, ne_eq] at hg82')
    refine OD.still (wants_T rfl rfl rfl lk (by first | rfl | assumption)) rfl (still_mv rfl ot) ?_
    refine OD.still (wants_T rfl rfl rfl lk (by first | rfl | assumption)) rfl (still_r1 (mk := fun y => .call { callee := .builtin .len, args := #[y], argTypes := #[47] }) rfl ot (by first | exact len_list rfl Tryd.runUnderlying47 | exact len_row rfl Tryd.runUnderlying47)) ?_
    refine OD.still (wants_T rfl rfl rfl lk (by first | rfl | assumption)) rfl (still_mv rfl ot) ?_
    refine OD.still (wants_T rfl rfl rfl lk (by first | rfl | assumption)) rfl (still_r1 (mk := fun y => .call { callee := .builtin .len, args := #[y], argTypes := #[47] }) rfl ot (by first | exact len_list rfl Tryd.runUnderlying47 | exact len_row rfl Tryd.runUnderlying47)) ?_
    refine OD.still (wants_T rfl rfl rfl lk (by first | rfl | assumption)) rfl (still_bin rfl ot ot (bin_add (wrap_i64 (by decide) (by decide)))) ?_
    refine OD.still (wants_T rfl rfl rfl lk (by first | rfl | assumption)) rfl (still_bin rfl ot opd_const bin_eql) ?_
    refine OD.still (wants_plain rfl) rfl (still_pickT rfl ot (by first | rfl | assumption) ot) ?_
    refine OD.still (wants_plain rfl) rfl (still_mv rfl ot) ?_
    refine OD.split (t := 90) lk (fun hg90 => ?_) (fun hg90 => ?_)
    ·have hg90' := hg90; (try simp only [V.cnd, ne_eq] at hg90')
     refine OD.still (wants_T rfl rfl rfl lk (by first | rfl | assumption)) rfl (still_mv rfl ot) ?_
     refine OD.still (wants_T rfl rfl rfl lk (by first | rfl | assumption)) rfl (still_r1 (mk := fun y => .call { callee := .builtin .len, args := #[y], argTypes := #[47] }) rfl ot (by first | exact len_list rfl Tryd.runUnderlying47 | exact len_row rfl Tryd.runUnderlying47)) ?_
     refine OD.still (wants_T rfl rfl rfl lk (by first | rfl | assumption)) rfl (still_bin rfl ot opd_const bin_gtr) ?_
     refine OD.still (wants_plain rfl) rfl (still_pickT rfl ot (by first | rfl | assumption) ot) ?_
     refine OD.still (wants_plain rfl) rfl (still_mv rfl ot) ?_
     refine OD.split (t := 95) lk (fun hg95 => ?_) (fun hg95 => ?_)
     ·have hg95' := hg95; (try simp only [V.cnd, ne_eq] at hg95')
      refine OD.still (wants_T rfl rfl rfl lk (by first | rfl | assumption)) rfl (still_mv rfl ot) ?_
      first | refine OD.still (wants_T rfl rfl rfl lk (by first | rfl | assumption)) rfl (still_ofBytes rfl ot Tryd.underlying47 Tryd.underlying5 Tryd.underlying9) ?_ | refine OD.still (wants_T rfl rfl rfl lk (by first | rfl | assumption)) rfl (still_ofBytesF rfl ot Tryd.underlying47 Tryd.underlying5 Tryd.underlying9) ?_
      refine OD.still (wants_T rfl rfl rfl lk (by first | rfl | assumption)) rfl (still_mv rfl ot) ?_
      first | refine OD.still (wants_T rfl rfl rfl lk (by first | rfl | assumption)) rfl (still_ofBytes rfl ot Tryd.underlying47 Tryd.underlying5 Tryd.underlying9) ?_ | refine OD.still (wants_T rfl rfl rfl lk (by first | rfl | assumption)) rfl (still_ofBytesF rfl ot Tryd.underlying47 Tryd.underlying5 Tryd.underlying9) ?_
      refine OD.still (wants_T rfl rfl rfl lk (by first | rfl | assumption)) rfl (still_bin rfl ot ot bin_seql) ?_
      refine OD.still (wants_plain rfl) rfl (still_pickT rfl ot (by first | rfl | assumption) ot) ?_
      refine OD.still (wants_plain rfl) rfl (still_as rfl ot) ?_
      refine OD.wk (Wk.as_ (n := 102) (l' := [(4, _)]) (S' := [⟨b52, 25, 7, [_, _, _, _, _, _, _]⟩, ⟨b7, 40, 5, [_, _, _, _, _]⟩, ⟨b6, 40, 5, [_, _, _, _, _]⟩, ⟨b5, 40, 5, [_, _, _, _, _]⟩]) rfl rfl ⟨lk, trivial⟩) ?_
      refine OD.nil ?_
      refine CD.ret ?_
      refine ⟨.inr rfl, _, [], List.nil_sublist _, ret_one Tryd.results7 (res_tmp (Nat.le_of_ble_eq_true rfl) lk), ?_⟩
      first | exact ⟨rfl, rfl⟩ | (refine ⟨vb ?_, rfl⟩; simp)
     ·exact absurd hg95 (by rw [hkl]; decide)
    ·exact absurd hg90 (by simp)
   ·exact absurd hg82 (by simp)
  ·exact absurd hg78 (by simp)
 ·skip
  refine AStep.bldS (pl := numD 0 [_, _, _]) (zvs := [.int .i64 0, .int .i64 0, .int .i64 0, .string ⟨#[]⟩, .string ⟨#[]⟩, .int .i64 0, .int .i64 0, .int .i64 0, .string ⟨#[]⟩, .string ⟨#[]⟩, .int .i64 0, .int .i64 0, .int .i64 0, .string ⟨#[]⟩, .string ⟨#[]⟩]) (ds := [_, _, _, _, _, _, _, _, _, _, _, _, _, _, _]) rfl (wants_plain rfl) rfl rfl Tryd.zeroValue40 Tryd.runUnderlying25 Tryd.sizeOf40 rfl rfl (by kernel_rfl) ⟨rfl, ot, rfl, ot, rfl, ot, trivial⟩ (by exact rfl) (fill_full (by exact rfl) (by exact rfl) (by exact rfl)) (fun b71 => ?_)
  refine AD.give (k := 0) (t := 71) (sz := 5) (m := 3) rfl lk rfl rfl rfl (Nat.le_refl _) (by decide) ?_
  refine AD.one (i := 0) (by kernel_rfl) ?_
  refine AStep.callP rfl (wants_plain rfl) rfl rfl rfl Tryd.call10 (colsOf_vp) trivial ?_
  refine AD.one (i := 5) (by kernel_rfl) ?_
  refine AStep.callP rfl (wants_plain rfl) rfl rfl rfl Tryd.call16 (hbw) ⟨ot, ot, trivial⟩ ?_
  refine AD.take (i := 6) rfl (by kernel_rfl) (by kernel_rfl) (by kernel_rfl) (by repeat (first | exact NP.body | apply NP.then | apply NP.cut | apply NP.inBlock | apply NP.round)) (wants_plain rfl) rfl (still_mv rfl ot) (by exact trivial) (by intro h; cases h) ?_
  refine AD.take (i := 7) rfl (by kernel_rfl) (by kernel_rfl) (by kernel_rfl) (by repeat (first | exact NP.body | apply NP.then | apply NP.cut | apply NP.inBlock | apply NP.round)) (wants_plain rfl) rfl (still_extract rfl ot rfl) (by exact trivial) (by intro h; cases h) ?_
  refine AD.take (i := 8) rfl (by kernel_rfl) (by kernel_rfl) (by kernel_rfl) (by repeat (first | exact NP.body | apply NP.then | apply NP.cut | apply NP.inBlock | apply NP.round)) (wants_plain rfl) rfl (still_extract rfl ot rfl) (by exact trivial) (by intro h; cases h) ?_
  refine AD.take (i := 9) rfl (by kernel_rfl) (by kernel_rfl) (by kernel_rfl) (by repeat (first | exact NP.body | apply NP.then | apply NP.cut | apply NP.inBlock | apply NP.round)) (wants_plain rfl) rfl (still_extract rfl ot rfl) (by exact trivial) (by intro h; cases h) ?_
  refine AD.take (i := 10) rfl (by kernel_rfl) (by kernel_rfl) (by kernel_rfl) (by repeat (first | exact NP.body | apply NP.then | apply NP.cut | apply NP.inBlock | apply NP.round)) (wants_plain rfl) rfl (still_as rfl ot) (by exact trivial) (by intro h; cases h) ?_
  refine AD.take (i := 11) rfl (by kernel_rfl) (by kernel_rfl) (by kernel_rfl) (by repeat (first | exact NP.body | apply NP.then | apply NP.cut | apply NP.inBlock | apply NP.round)) (wants_plain rfl) rfl (still_as rfl ot) (by exact trivial) (by intro h; cases h) ?_
  refine AD.take (i := 12) rfl (by kernel_rfl) (by kernel_rfl) (by kernel_rfl) (by repeat (first | exact NP.body | apply NP.then | apply NP.cut | apply NP.inBlock | apply NP.round)) (wants_plain rfl) rfl (still_as rfl ot) (by exact trivial) (by intro h; cases h) ?_
  refine AD.wk (y := ⟨102, [(9, _), (10, _), (11, _), (12, _), (13, _), (14, _)], [⟨b52, 25, 7, [_, _, _, _, _, _, _]⟩, ⟨b7, 40, 5, [_, _, _, _, _]⟩, ⟨b6, 40, 5, [_, _, _, _, _]⟩, ⟨b5, 40, 5, [_, _, _, _, _]⟩]⟩) (Wk.as_ rfl rfl ⟨lk, lk, lk, lk, lk, lk, trivial⟩) rfl ?_
  refine AD.done (by kernel_rfl) ?_
  refine CD.seq ?_
  refine CD.region ?_
  refine OD.still (wants_plain rfl) rfl (still_mv rfl ot) ?_
  refine OD.still (wants_plain rfl) rfl (still_bin rfl ot opd_const bin_eql) ?_
  refine OD.still (wants_plain rfl) rfl (still_mv rfl ot) ?_
  refine OD.split (t := 78) lk (fun hg78 => ?_) (fun hg78 => ?_)
  ·have hg78' := hg78; (try simp only [V.cnd, ne_eq] at hg78')
   refine OD.still (wants_T rfl rfl rfl lk (by first | rfl | assumption)) rfl (still_mv rfl ot) ?_
   refine OD.still (wants_T rfl rfl rfl lk (by first | rfl | assumption)) rfl (still_bin rfl ot opd_const bin_eql) ?_
   refine OD.still (wants_plain rfl) rfl (still_pickT rfl ot (by first | rfl | assumption) ot) ?_
   refine OD.still (wants_plain rfl) rfl (still_mv rfl ot) ?_
   refine OD.split (t := 82) lk (fun hg82 => ?_) (fun hg82 => ?_)
   ·have hg82' := hg82; (try simp only [V.cnd, ne_eq] at hg82')
    refine OD.still (wants_T rfl rfl rfl lk (by first | rfl | assumption)) rfl (still_mv rfl ot) ?_
    refine OD.still (wants_T rfl rfl rfl lk (by first | rfl | assumption)) rfl (still_r1 (mk := fun y => .call { callee := .builtin .len, args := #[y], argTypes := #[47] }) rfl ot (by first | exact len_list rfl Tryd.runUnderlying47 | exact len_row rfl Tryd.runUnderlying47)) ?_
    refine OD.still (wants_T rfl rfl rfl lk (by first | rfl | assumption)) rfl (still_mv rfl ot) ?_
    refine OD.still (wants_T rfl rfl rfl lk (by first | rfl | assumption)) rfl (still_r1 (mk := fun y => .call { callee := .builtin .len, args := #[y], argTypes := #[47] }) rfl ot (by first | exact len_list rfl Tryd.runUnderlying47 | exact len_row rfl Tryd.runUnderlying47)) ?_
    refine OD.still (wants_T rfl rfl rfl lk (by first | rfl | assumption)) rfl (still_bin rfl ot ot (bin_add (wrap_i64 (by decide) (by decide)))) ?_
    refine OD.still (wants_T rfl rfl rfl lk (by first | rfl | assumption)) rfl (still_bin rfl ot opd_const bin_eql) ?_
    refine OD.still (wants_plain rfl) rfl (still_pickT rfl ot (by first | rfl | assumption) ot) ?_
    refine OD.still (wants_plain rfl) rfl (still_mv rfl ot) ?_
    refine OD.split (t := 90) lk (fun hg90 => ?_) (fun hg90 => ?_)
    ·have hg90' := hg90; (try simp only [V.cnd, ne_eq] at hg90')
     refine OD.still (wants_T rfl rfl rfl lk (by first | rfl | assumption)) rfl (still_mv rfl ot) ?_
     refine OD.still (wants_T rfl rfl rfl lk (by first | rfl | assumption)) rfl (still_r1 (mk := fun y => .call { callee := .builtin .len, args := #[y], argTypes := #[47] }) rfl ot (by first | exact len_list rfl Tryd.runUnderlying47 | exact len_row rfl Tryd.runUnderlying47)) ?_
     refine OD.still (wants_T rfl rfl rfl lk (by first | rfl | assumption)) rfl (still_bin rfl ot opd_const bin_gtr) ?_
     refine OD.still (wants_plain rfl) rfl (still_pickT rfl ot (by first | rfl | assumption) ot) ?_
     refine OD.still (wants_plain rfl) rfl (still_mv rfl ot) ?_
     refine OD.split (t := 95) lk (fun hg95 => ?_) (fun hg95 => ?_)
     ·have hg95' := hg95; (try simp only [V.cnd, ne_eq] at hg95')
      refine OD.still (wants_T rfl rfl rfl lk (by first | rfl | assumption)) rfl (still_mv rfl ot) ?_
      first | refine OD.still (wants_T rfl rfl rfl lk (by first | rfl | assumption)) rfl (still_ofBytes rfl ot Tryd.underlying47 Tryd.underlying5 Tryd.underlying9) ?_ | refine OD.still (wants_T rfl rfl rfl lk (by first | rfl | assumption)) rfl (still_ofBytesF rfl ot Tryd.underlying47 Tryd.underlying5 Tryd.underlying9) ?_
      refine OD.still (wants_T rfl rfl rfl lk (by first | rfl | assumption)) rfl (still_mv rfl ot) ?_
      first | refine OD.still (wants_T rfl rfl rfl lk (by first | rfl | assumption)) rfl (still_ofBytes rfl ot Tryd.underlying47 Tryd.underlying5 Tryd.underlying9) ?_ | refine OD.still (wants_T rfl rfl rfl lk (by first | rfl | assumption)) rfl (still_ofBytesF rfl ot Tryd.underlying47 Tryd.underlying5 Tryd.underlying9) ?_
      refine OD.still (wants_T rfl rfl rfl lk (by first | rfl | assumption)) rfl (still_bin rfl ot ot bin_seql) ?_
      refine OD.still (wants_plain rfl) rfl (still_pickT rfl ot (by first | rfl | assumption) ot) ?_
      refine OD.still (wants_plain rfl) rfl (still_as rfl ot) ?_
      refine OD.wk (Wk.as_ (n := 102) (l' := [(4, _)]) (S' := [⟨b52, 25, 7, [_, _, _, _, _, _, _]⟩, ⟨b7, 40, 5, [_, _, _, _, _]⟩, ⟨b6, 40, 5, [_, _, _, _, _]⟩, ⟨b5, 40, 5, [_, _, _, _, _]⟩]) rfl rfl ⟨lk, trivial⟩) ?_
      refine OD.nil ?_
      refine CD.ret ?_
      refine ⟨.inr rfl, _, [], List.nil_sublist _, ret_one Tryd.results7 (res_tmp (Nat.le_of_ble_eq_true rfl) lk), ?_⟩
      first | exact ⟨rfl, rfl⟩ | (refine ⟨vb ?_, rfl⟩; simp)
     ·exact absurd hg95 (by rw [hkl]; decide)
    ·exact absurd hg90 (by simp)
   ·exact absurd hg82 (by simp)
  ·exact absurd hg78 (by simp)

theorem noneb_vp {m : Int} (hm : (3, marksC) ∈ G) (hw : (0, wordsC) ∈ G) (ht : (2, typesC) ∈ G) (hG : (1, [Value.int .i64 m]) ∈ G) (n : Int) (n1 : -9223372036854775808 ≤ n) (n2 : n ≤ 9223372036854775807) (which : Int) (which1 : -9223372036854775808 ≤ which) (which2 : which ≤ 9223372036854775807) : VP Tryd.prog G 7 [.v (.int .i64 n), .v (.int .i64 which)] (.v (.bool true)) := by
 have hb := pickedF_bd which (show (1 : Int) ≤ 7 by decide)
 have h4 : pickedF which 7 = 0 ∨ pickedF which 7 = 1 ∨ pickedF which 7 = 2 ∨ pickedF which 7 = 3 ∨ pickedF which 7 = 4 ∨ pickedF which 7 = 5 ∨ pickedF which 7 = 6 := by omega
 rcases h4 with hj | hj | hj | hj | hj | hj | hj
 ·exact none0_vp hm hw ht hG n n1 n2 which which1 which2 hj
 ·exact none1_vp hm hw ht hG n n1 n2 which which1 which2 hj
 ·exact none2_vp hm hw ht hG n n1 n2 which which1 which2 hj
 ·exact none3_vp hm hw ht hG n n1 n2 which which1 which2 hj
 ·exact none4_vp hm hw ht hG n n1 n2 which which1 which2 hj
 ·exact none5_vp hm hw ht hG n n1 n2 which which1 which2 hj
 ·exact none6_vp hm hw ht hG n n1 n2 which which1 which2 hj

theorem walkBoundsNone (n : Int) (wn : (Lit.int .i64 n).wf = true) (which : Int) (wwhich : (Lit.int .i64 which).wf = true) (w : World) (h1 : MarksTab w) (h2 : WordsTab w) (h3 : TypesTab w) {m : Int} (hm : Tab.TabAt w 1 [Value.int .i64 m]) : Calls Tryd.prog 7 #[.int .i64 n, .int .i64 which] w fun e w' => e = .returned (.bool true) ∧ Below w.heap.size w w' :=
 (noneb_vp (G := TGM m) tm1 tm2 tm3 tm4 n (wf_bd wn).1 (wf_bd wn).2 which (wf_bd wwhich).1 (wf_bd wwhich).2).runL (tgmx h1 h2 h3 hm) (vs := [_, _]) (RepL.vs w _ [_, _])

end Go.Proofs.YtfooincnmobemaaDoor.Ex
