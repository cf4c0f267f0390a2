/-
  What the proof of TreeBad leans on, part 4 of 5: walks of the program's functions at the level of values, and plain facts of what they compute.
-/
import Derived.Test.YthnobhekodiciaaPTreeBad3
namespace Go.Proofs.Ythnobhekodiciaa.Tw
open Go.RowKit V Go.Proofs.Ythnobhekodiciaa.Tr Pk
set_option linter.unusedVariables false
set_option linter.unusedSimpArgs false

/-- What a split gives: the key that parts, the new page's place; the tree of one's own. -/
def RetS (L : List PgO) (b : Nat) (root : Int) (j : Nat) (p : PgL) (r : D) (S : List Blk) : Prop := r = .tup [.list 1 ((upK p).flatMap cB) (upK p).length, .v (.int .i64 (L.length : Nat))] ∧ ∃ L' ad cap Sx, OwnP L' ad cap Sx ∧ (∀ o ∈ L', okO o) ∧ L'.map PgO.p = (L.map PgO.p).set j (lowP p L.length) ++ [highP p] ∧ S = ⟨b, 26, 2, [.v (.slice ad (List.length L') cap), .v (.int .i64 root)]⟩ :: (Sx ++ L'.flatMap bO)
variable {G : List (Nat × List Value)}

theorem info44_Twe : (Try.prog.info? 44).map (fun i => (i.zero, i.size, i.bytes)) = some (some (.agg #[.bool false, .slice none 0 0, .slice none 0 0, .slice none 0 0, .int .i64 0]), 5, 88) := by kernel_rfl

theorem places44_Twe : ∀ w, ((#[{ name := "Leaf", type := 4, offset := 0, embedded := false, tag := "", pkgPath := "", byteOffset := 0 }, { name := "Keys", type := 42, offset := 1, embedded := false, tag := "", pkgPath := "", byteOffset := 8 }, { name := "Kids", type := 22, offset := 2, embedded := false, tag := "", pkgPath := "", byteOffset := 32 }, { name := "High", type := 31, offset := 3, embedded := false, tag := "", pkgPath := "", byteOffset := 56 }, { name := "Next", type := 3, offset := 4, embedded := false, tag := "", pkgPath := "", byteOffset := 80 }] : Array Field).mapM fun f => do pure (f.offset, ← sizeOf f.type) : Sem (Array (Nat × Nat))).run Try.prog w = .ok #[(0, 1), (1, 1), (2, 1), (3, 1), (4, 1)] w := fun w => by simp [Try.sizeOf22, Try.sizeOf3, Try.sizeOf31, Try.sizeOf4, Try.sizeOf42]

set_option maxHeartbeats 4000000 in
set_option maxRecDepth 100000 in
theorem split_vc (L : List PgO) (b : Nat) (root i : Int) (ad : Option Addr) (cap : Nat) (Sx : List Blk) (hi : 0 ≤ i ∧ i < L.length) (hn : L.length ≤ 10000) (hox : OwnP L ad cap Sx) (hok : ∀ o ∈ L, okO o) (h5 : (L[i.toNat]'(by omega)).p.keys.length = 5) (hkl : (L[i.toNat]'(by omega)).p.leaf = true → (L[i.toNat]'(by omega)).p.kids.length = 5) (hkn : (L[i.toNat]'(by omega)).p.leaf = false → (L[i.toNat]'(by omega)).p.kids.length = 6) (hks : ∀ k ∈ (L[i.toNat]'(by omega)).p.keys, k.length ≤ 100) (hh : (L[i.toNat]'(by omega)).p.high.length ≤ 100) :
 VC Try.prog G 30 [.v (.pointer (some ⟨b, 0, none⟩)), .v (.int .i64 i)] (⟨b, 26, 2, [.v (.slice ad L.length cap), .v (.int .i64 root)]⟩ :: (Sx ++ L.flatMap bO)) (RetS L b root i.toNat (L[i.toNat]'(by omega)).p) := by
 refine VC.body Try.func30 rfl Try.ntmps30 (Nat.le_of_ble_eq_true rfl) fun X0 w0 S00 => ?_
 have hmx : maxLen = 9223372036854775807 := rfl
 have hj : i.toNat < L.length := by omega
 obtain ⟨bx, rfl, hxl, hxc, rfl⟩ := hox.pos (by omega)
 have hoj := hok _ (List.getElem_mem hj)
 obtain ⟨o, ho⟩ : ∃ o, o = L[i.toNat] := ⟨_, rfl⟩
 rw [← ho] at hoj h5 hkl hkn hks hh ⊢
 rcases o with ⟨p, ak, ck, sk, ai, ci, si⟩
 obtain ⟨hk1, hi1⟩ : OwnKs p.keys ak ck sk ∧ OwnI p.kids ai ci si := hoj
 change p.keys.length = 5 at h5
 change p.leaf = true → p.kids.length = 5 at hkl
 change p.leaf = false → p.kids.length = 6 at hkn
 change ∀ k ∈ p.keys, k.length ≤ 100 at hks
 change p.high.length ≤ 100 at hh
 have hperm : (L.flatMap bO).Perm (sk ++ (si ++ ((L.eraseIdx i.toNat).flatMap bO))) := by have := perm_at bO hj; rw [← ho] at this; exact this.trans (by rw [show bO ⟨p, ak, ck, sk, ai, ci, si⟩ = sk ++ si from rfl, List.append_assoc])
 refine CD.perm (S' := ⟨b, 26, 2, [.v (.slice (some ⟨bx, 0, none⟩) L.length cap), .v (.int .i64 root)]⟩ :: ⟨bx, 44, cap * 5, List.flatMap gO L⟩ :: (sk ++ (si ++ ((L.eraseIdx i.toNat).flatMap bO)))) (List.Perm.cons _ (List.Perm.cons _ hperm)) ?_
 have hup : upK p = p.keys[2]'(by omega) := upK_at h5
 have hul : (p.keys[2]'(by omega)).length ≤ 100 := hks _ (List.getElem_mem _)
 refine sr_ ?_
 refine os_ mv_ ?_
 refine os_ mv_ ?_
 refine nm_ [0, 1] ?_
 refine sr_ ?_
 refine os_ mv_ ?_
 refine os_ nc_ ?_
 refine os_ (fa_ 0) ?_
 refine os_ (lb_ 0) ?_
 refine os_ mv_ ?_
 refine os_ (ix_ 5 (h := by first | exact .l (j := i.toNat) (Int.toNat_of_nonneg hi.1).symm hj | exact .r (j := i.toNat) (Int.toNat_of_nonneg hi.1).symm hj)) ?_
 refine OD.still (wants_plain rfl) rfl (still_r1 (mk := Op.load 44) rfl ot (ld_rows (k := 1) (ls := L) (i := i.toNat) gO_len rfl rfl rfl Try.isAgg44 Try.sizeOf44 hj)) ?_
 refine OD.alloc (ds := [_, _, _, _, _]) (wants_plain rfl) rfl rfl Try.zeroValue44 rfl (fun b6 => ?_)
 refine OD.store (k := 0) (cs' := [_, _, _, _, _]) (wants_plain rfl) rfl rfl ot rfl rfl ot rfl rfl Try.sizeOf44 rfl rfl rfl ?_
 refine OD.wk (Wk.as_ (n := 98) (l' := [(0, _), (1, _), (6, _)]) (S' := (⟨b6, 44, 5, [_, _, _, _, _]⟩ :: ⟨b, 26, 2, [_, _]⟩ :: _ :: (sk ++ (si ++ ((L.eraseIdx i.toNat).flatMap bO))))) rfl rfl ⟨lk, lk, lk, trivial⟩) ?_
 refine OD.nil ?_
 refine CD.seq ?_
 refine CD.wk (Wk.cover (A := ⟨b6, 44, 5, gO L[i.toNat]⟩) (R := ⟨b, 26, 2, [.v (.slice (some ⟨bx, 0, none⟩) L.length cap), .v (.int .i64 root)]⟩ :: ⟨bx, 44, cap * 5, List.flatMap gO L⟩ :: ((L.eraseIdx i.toNat).flatMap bO)) (Sd := sk ++ si) (cs' := cP p) (List.Perm.cons _ (List.Perm.cons _ (List.Perm.cons _ (by rw [← List.append_assoc]; exact List.perm_append_comm)))) (by show Views _ (gO L[i.toNat]) _; rw [← ho]; exact ⟨view_same, view_own hk1 (fm_len cK_len _) (fun B hB => List.mem_append_left _ hB), view_own hi1 (fm_len cI_len _) (fun B hB => List.mem_append_right _ hB), view_same, view_same, trivial⟩)) ?_
 refine CD.region ?_
 refine os_ (fa_ 0) ?_
 refine os_ (lb_ 0) ?_
 refine os_ (fa_ 3) ?_
 refine os_ (lb_ 0) ?_
 refine os_ (fa_ 4) ?_
 refine os_ (lb_ 0) ?_
 refine OD.still (wants_plain rfl) rfl (still_bld (pl := [(0, _), (3, _), (4, _)]) (ds := [_, _, _, _, _]) rfl Try.zeroValue44 Try.runUnderlying44 places44_Twe ⟨rfl, ot, rfl, ot, rfl, ot, trivial⟩ rfl rfl) ?_
 refine OD.alloc (ds := [_, _, _, _, _]) (wants_plain rfl) rfl rfl Try.zeroValue44 rfl (fun b7 => ?_)
 refine OD.store (k := 0) (cs' := [_, _, _, _, _]) (wants_plain rfl) rfl rfl ot rfl rfl ot rfl rfl Try.sizeOf44 rfl rfl rfl ?_
 refine OD.wk (Wk.as_ (n := 98) (l' := [(0, _), (1, _), (6, _), (7, _)]) (S' := (⟨b7, 44, 5, [_, _, _, _, _]⟩ :: ⟨b6, 44, 5, [_, _, _, _, _]⟩ :: ⟨b, 26, 2, [_, _]⟩ :: _ :: ((L.eraseIdx i.toNat).flatMap bO))) rfl rfl ⟨lk, lk, lk, lk, trivial⟩) ?_
 refine OD.nil ?_
 refine sr_ ?_
 refine os_ (fa_ 1) ?_
 refine os_ (lb_ 1) ?_
 refine OD.still (wants_plain rfl) rfl (still_r2 (mk := Op.indexAddr 42) rfl ot opd_const (by first | exact ix_list Try.runUnderlying42 Try.sizeOf31 (j := 2) rfl (by omega) | exact ix_row Try.runUnderlying42 Try.sizeOf31 (j := 2) rfl (by omega))) ?_
 refine os_ ld_ ?_
 refine os_ mv_ ?_
 refine OD.wk (Wk.as_ (n := 98) (l' := [(0, _), (1, _), (6, _), (7, _), (8, _)]) (S' := (⟨b7, 44, 5, [_, _, _, _, _]⟩ :: ⟨b6, 44, 5, [_, _, _, _, _]⟩ :: ⟨b, 26, 2, [_, _]⟩ :: _ :: ((L.eraseIdx i.toNat).flatMap bO))) rfl rfl ⟨lk, lk, lk, lk, lk, trivial⟩) ?_
 refine OD.nil ?_
 refine CD.cut (fun y__ => ∃ (b7 : Nat), ∃ (ak1 : Option Addr), ∃ (ck1 : Nat), ∃ (Sk1 : List Blk), ∃ (ai1 : Option Addr), ∃ (ci1 : Nat), ∃ (Si1 : List Blk), ∃ (ai2 : Option Addr), ∃ (ci2 : Nat), ∃ (Si2 : List Blk), (OwnKs (highP p).keys ak1 ck1 Sk1) ∧ (OwnI (highP p).kids ai1 ci1 Si1) ∧ (OwnI (lowP p L.length).kids ai2 ci2 Si2) ∧ y__ = (⟨98, [(0, .v (.pointer (some ⟨b, 0, none⟩))), (1, .v (.int .i64 i)), (6, .v (.pointer (some ⟨b6, 0, none⟩))), (7, .v (.pointer (some ⟨b7, 0, none⟩))), (8, .list 1 ((upK p).flatMap cB) (upK p).length)], (⟨b7, 44, 5, [.v (.bool p.leaf), .v (.slice ak1 (highP p).keys.length ck1), .v (.slice ai1 (highP p).kids.length ci1), .list 1 (p.high.flatMap cB) p.high.length, .v (.int .i64 p.next)]⟩ :: ⟨b6, 44, 5, [.v (.bool p.leaf), .list 1 (p.keys.flatMap cK) p.keys.length, .v (.slice ai2 (lowP p L.length).kids.length ci2), .list 1 (p.high.flatMap cB) p.high.length, .v (.int .i64 p.next)]⟩ :: ⟨b, 26, 2, [.v (.slice (some ⟨bx, 0, none⟩) L.length cap), .v (.int .i64 root)]⟩ :: ⟨bx, 44, cap * 5, List.flatMap gO L⟩ :: (Si2 ++ (Si1 ++ (Sk1 ++ ((L.eraseIdx i.toNat).flatMap bO)))))⟩ : St)) ?_ ?_
 ·skip
  refine sr_ ?_
  refine os_ (fa_ 0) ?_
  refine os_ (lb_ 1) ?_
  refine nm_ [0, 1, 6, 7, 8, 28] ?_
  refine CD.cond ot (fun hc0 => ?_) (fun hc0 => ?_)
  ·have hc0' := hc0
   (try simp only [V.cnd, ne_eq] at hc0')
   have hlf : p.leaf = true := hc0
   have hkl := hkl hlf
   refine CD.seq ?_
   refine CD.draw (bks (List.take 2 (List.drop 1 _))) (by kernel_rfl) (fun _ h => (List.Sublist.map _ ((List.take_sublist _ _).trans (List.drop_sublist _ _))).subset h) ?_
   refine a0_ 0 rfl (fa_ 1) ?_
   refine a0_ 4 rfl (fa_ 2) ?_
   refine AD0.later rfl ?_
   refine AD.two (i := 1) (j := 5) (by kernel_rfl) ?_ ?_
   ·skip
    refine at_ rfl (lb_ 1) ?_
    refine a1_ 2 rfl (still_rs (l := 2) rfl ot ⟨_, opd_const⟩ trivial (by first | exact sl_tail rfl cK_len (fun h => by cases h) Try.runUnderlying42 Try.sizeOf31 (by omega) | exact sl_tail rfl cI_len (fun h => by cases h) Try.runUnderlying42 Try.sizeOf31 (by omega) | exact sl_row (fun _ => rfl) Try.runUnderlying42 Try.sizeOf31 (by omega) | exact sl_list (fun h => by cases h) (fun _ => rfl) Try.runUnderlying42 Try.sizeOf31 (by omega) (by omega))) ?_
    refine AD.two (i := 3) (j := 5) (by kernel_rfl) ?_ ?_
    ·skip
     have hcl32 : VC Try.prog G 46 [.list 1 ((p.keys.drop 2).flatMap cK) (p.keys.drop 2).length] [] (fun r S => ∃ ad cap, r = .v (.slice ad (highP p).keys.length cap) ∧ OwnKs (highP p).keys ad cap S) := by rw [show (p.keys.drop 2) = (highP p).keys from (by show _ = p.keys.drop (if p.leaf = true then 2 else 3); rw [hlf]; rfl)]; exact cloneK_vc _ (by rw [← show (p.keys.drop 2) = (highP p).keys from (by show _ = p.keys.drop (if p.leaf = true then 2 else 3); rw [hlf]; rfl)]; simp only [List.length_take, List.length_drop]; omega)
     refine AStep.call rfl (wants_plain rfl) rfl rfl rfl Try.call46 hcl32 ⟨ot, trivial⟩ (perm_none _) (by intro b hb; simp [bks, St.put] at hb ⊢; try first | exact hb | simp [hb] | (rcases hb with hb | hb <;> simp [hb]) | (rcases hb with hb | hb | hb <;> simp [hb])) ?_
     rintro _ S32 ⟨a32, c32, rfl, ho32⟩
     refine AD.perm (perm_q12 (A := [_, _, _, _])) ?_
     refine a1_ 8 rfl (fa_ 1) ?_
     refine AD.one (i := 5) (by kernel_rfl) ?_
     refine at_ rfl (lb_ 1) ?_
     refine a1_ 6 rfl (still_rs (l := 2) rfl ot ⟨_, opd_const⟩ trivial (by first | exact sl_tail rfl cK_len (fun h => by cases h) Try.runUnderlying22 Try.sizeOf3 (by omega) | exact sl_tail rfl cI_len (fun h => by cases h) Try.runUnderlying22 Try.sizeOf3 (by omega) | exact sl_row (fun _ => rfl) Try.runUnderlying22 Try.sizeOf3 (by omega) | exact sl_list (fun h => by cases h) (fun _ => rfl) Try.runUnderlying22 Try.sizeOf3 (by omega) (by omega))) ?_
     refine AD.one (i := 7) (by kernel_rfl) ?_
     have hcl36 : VC Try.prog G 39 [.list 1 ((p.kids.drop 2).flatMap cI) (p.kids.drop 2).length] [] (fun r S => ∃ ad cap, r = .v (.slice ad (highP p).kids.length cap) ∧ OwnI (highP p).kids ad cap S) := by rw [show (p.kids.drop 2) = (highP p).kids from (by show _ = p.kids.drop (if p.leaf = true then 2 else 3); rw [hlf]; rfl)]; exact cloneI_vc _ (by rw [← show (p.kids.drop 2) = (highP p).kids from (by show _ = p.kids.drop (if p.leaf = true then 2 else 3); rw [hlf]; rfl)]; simp only [List.length_take, List.length_drop]; omega)
     refine AStep.call rfl (wants_plain rfl) rfl rfl rfl Try.call39 hcl36 ⟨ot, trivial⟩ (perm_none _) (by intro b hb; simp [bks, St.put] at hb ⊢; try first | exact hb | simp [hb] | (rcases hb with hb | hb <;> simp [hb]) | (rcases hb with hb | hb | hb <;> simp [hb])) ?_
     rintro _ S36 ⟨a36, c36, rfl, ho36⟩
     refine AD.perm (perm_q12 (A := [_, _, _, _])) ?_
     refine AD.one (i := 9) (by kernel_rfl) ?_
     refine AStep.store (k := 0) (cs' := [_, _, _, _, _]) rfl (wants_plain rfl) rfl rfl ot rfl rfl ot rfl rfl Try.sizeOf42 rfl rfl rfl (by intro b hb; simp [bks, St.put] at hb ⊢; try first | exact hb | simp [hb] | (rcases hb with hb | hb <;> simp [hb]) | (rcases hb with hb | hb | hb <;> simp [hb])) ?_
     refine a1_ 10 rfl (fa_ 2) ?_
     refine AD.one (i := 11) (by kernel_rfl) ?_
     refine AStep.store (k := 0) (cs' := [_, _, _, _, _]) rfl (wants_plain rfl) rfl rfl ot rfl rfl ot rfl rfl Try.sizeOf22 rfl rfl rfl (by intro b hb; simp [bks, St.put] at hb ⊢; try first | exact hb | simp [hb] | (rcases hb with hb | hb <;> simp [hb]) | (rcases hb with hb | hb | hb <;> simp [hb])) ?_
     refine AD.wk (y := ⟨98, [(0, _), (1, _), (6, _), (7, _), (8, _)], (⟨b7, 44, 5, [_, _, _, _, _]⟩ :: ⟨b6, 44, 5, [_, _, _, _, _]⟩ :: ⟨b, 26, 2, [_, _]⟩ :: _ :: (S36 ++ (S32 ++ ((L.eraseIdx i.toNat).flatMap bO))))⟩) (Wk.as_ rfl rfl ⟨lk, lk, lk, lk, lk, trivial⟩) rfl ?_
     refine AD.done (by kernel_rfl) ?_
     refine CD.region ?_
     refine os_ (fa_ 2) ?_
     refine os_ (lb_ 1) ?_
     refine OD.still (wants_plain rfl) rfl (still_rs (l := 0) (h := 2) rfl ot trivial ⟨_, opd_const⟩ (by first | exact sl_head cK_len (fun h => by cases h) Try.runUnderlying22 Try.sizeOf3 (by omega) | exact sl_head cI_len (fun h => by cases h) Try.runUnderlying22 Try.sizeOf3 (by omega) | exact sl_row (fun h => by cases h) Try.runUnderlying22 Try.sizeOf3 (by omega) | exact sl_list (fun _ => rfl) (fun h => by cases h) Try.runUnderlying22 Try.sizeOf3 (by omega) (by omega))) ?_
     have hcl42 : VC Try.prog G 39 [.list 1 ((p.kids.take 2).flatMap cI) (p.kids.take 2).length] [] (fun r S => ∃ ad cap, r = .v (.slice ad (lowP p L.length).kids.length cap) ∧ OwnI (lowP p L.length).kids ad cap S) := by rw [show (p.kids.take 2) = (lowP p L.length).kids from (by show _ = p.kids.take (if p.leaf = true then 2 else 3); rw [hlf]; rfl)]; exact cloneI_vc _ (by rw [← show (p.kids.take 2) = (lowP p L.length).kids from (by show _ = p.kids.take (if p.leaf = true then 2 else 3); rw [hlf]; rfl)]; simp only [List.length_take, List.length_drop]; omega)
     refine OD.call (wants_plain rfl) rfl rfl rfl Try.call39 hcl42 ⟨ot, trivial⟩ (perm_none _) ?_
     rintro _ S42 ⟨a42, c42, rfl, ho42⟩
     refine OD.perm (perm_q12 (A := [_, _, _, _])) ?_
     refine os_ (fa_ 2) ?_
     refine OD.store (k := 1) (cs' := [_, _, _, _, _]) (wants_plain rfl) rfl rfl ot rfl rfl ot rfl rfl Try.sizeOf22 rfl rfl rfl ?_
     refine OD.wk (Wk.as_ (n := 98) (l' := [(0, _), (1, _), (6, _), (7, _), (8, _)]) (S' := (⟨b7, 44, 5, [_, _, _, _, _]⟩ :: ⟨b6, 44, 5, [_, _, _, _, _]⟩ :: ⟨b, 26, 2, [_, _]⟩ :: _ :: (S42 ++ (S36 ++ (S32 ++ ((L.eraseIdx i.toNat).flatMap bO)))))) rfl rfl ⟨lk, lk, lk, lk, lk, trivial⟩) ?_
     refine OD.nil ?_
     refine ⟨(⟨98, [(0, .v (.pointer (some ⟨b, 0, none⟩))), (1, .v (.int .i64 i)), (6, .v (.pointer (some ⟨b6, 0, none⟩))), (7, .v (.pointer (some ⟨(b7), 0, none⟩))), (8, .list 1 ((upK p).flatMap cB) (upK p).length)], (⟨(b7), 44, 5, [.v (.bool p.leaf), .v (.slice (a32) (highP p).keys.length (c32)), .v (.slice (a36) (highP p).kids.length (c36)), .list 1 (p.high.flatMap cB) p.high.length, .v (.int .i64 p.next)]⟩ :: ⟨b6, 44, 5, [.v (.bool p.leaf), .list 1 (p.keys.flatMap cK) p.keys.length, .v (.slice (a42) (lowP p L.length).kids.length (c42)), .list 1 (p.high.flatMap cB) p.high.length, .v (.int .i64 p.next)]⟩ :: ⟨b, 26, 2, [.v (.slice (some ⟨bx, 0, none⟩) L.length cap), .v (.int .i64 root)]⟩ :: ⟨bx, 44, cap * 5, List.flatMap gO L⟩ :: ((S42) ++ ((S36) ++ ((S32) ++ ((L.eraseIdx i.toNat).flatMap bO)))))⟩ : St), Wk.asS (n := 98) rfl (by repeat (first | exact List.Sublist.refl _ | apply List.Sublist.cons_cons | apply List.Sublist.cons)) ⟨(by (repeat (first | exact look_hit | (apply look_at; focus (first | rfl | (rw [hup]; done) | (simp; done))) | (apply look_miss; focus rfl))); done), (by (repeat (first | exact look_hit | (apply look_at; focus (first | rfl | (rw [hup]; done) | (simp; done))) | (apply look_miss; focus rfl))); done), (by (repeat (first | exact look_hit | (apply look_at; focus (first | rfl | (rw [hup]; done) | (simp; done))) | (apply look_miss; focus rfl))); done), (by (repeat (first | exact look_hit | (apply look_at; focus (first | rfl | (rw [hup]; done) | (simp; done))) | (apply look_miss; focus rfl))); done), (by (repeat (first | exact look_hit | (apply look_at; focus (first | rfl | (rw [hup]; done) | (simp; done))) | (apply look_miss; focus rfl))); done), trivial⟩, b7, a32, c32, S32, a36, c36, S36, a42, c42, S42, ho32, ho36, ho42, rfl⟩
    ·skip
     refine at_ rfl (lb_ 1) ?_
     refine a1_ 6 rfl (still_rs (l := 2) rfl ot ⟨_, opd_const⟩ trivial (by first | exact sl_tail rfl cK_len (fun h => by cases h) Try.runUnderlying22 Try.sizeOf3 (by omega) | exact sl_tail rfl cI_len (fun h => by cases h) Try.runUnderlying22 Try.sizeOf3 (by omega) | exact sl_row (fun _ => rfl) Try.runUnderlying22 Try.sizeOf3 (by omega) | exact sl_list (fun h => by cases h) (fun _ => rfl) Try.runUnderlying22 Try.sizeOf3 (by omega) (by omega))) ?_
     refine AD.one (i := 3) (by kernel_rfl) ?_
     have hcl32 : VC Try.prog G 46 [.list 1 ((p.keys.drop 2).flatMap cK) (p.keys.drop 2).length] [] (fun r S => ∃ ad cap, r = .v (.slice ad (highP p).keys.length cap) ∧ OwnKs (highP p).keys ad cap S) := by rw [show (p.keys.drop 2) = (highP p).keys from (by show _ = p.keys.drop (if p.leaf = true then 2 else 3); rw [hlf]; rfl)]; exact cloneK_vc _ (by rw [← show (p.keys.drop 2) = (highP p).keys from (by show _ = p.keys.drop (if p.leaf = true then 2 else 3); rw [hlf]; rfl)]; simp only [List.length_take, List.length_drop]; omega)
     refine AStep.call rfl (wants_plain rfl) rfl rfl rfl Try.call46 hcl32 ⟨ot, trivial⟩ (perm_none _) (by intro b hb; simp [bks, St.put] at hb ⊢; try first | exact hb | simp [hb] | (rcases hb with hb | hb <;> simp [hb]) | (rcases hb with hb | hb | hb <;> simp [hb])) ?_
     rintro _ S32 ⟨a32, c32, rfl, ho32⟩
     refine AD.perm (perm_q12 (A := [_, _, _, _])) ?_
     refine a1_ 8 rfl (fa_ 1) ?_
     refine AD.one (i := 7) (by kernel_rfl) ?_
     have hcl36 : VC Try.prog G 39 [.list 1 ((p.kids.drop 2).flatMap cI) (p.kids.drop 2).length] [] (fun r S => ∃ ad cap, r = .v (.slice ad (highP p).kids.length cap) ∧ OwnI (highP p).kids ad cap S) := by rw [show (p.kids.drop 2) = (highP p).kids from (by show _ = p.kids.drop (if p.leaf = true then 2 else 3); rw [hlf]; rfl)]; exact cloneI_vc _ (by rw [← show (p.kids.drop 2) = (highP p).kids from (by show _ = p.kids.drop (if p.leaf = true then 2 else 3); rw [hlf]; rfl)]; simp only [List.length_take, List.length_drop]; omega)
     refine AStep.call rfl (wants_plain rfl) rfl rfl rfl Try.call39 hcl36 ⟨ot, trivial⟩ (perm_none _) (by intro b hb; simp [bks, St.put] at hb ⊢; try first | exact hb | simp [hb] | (rcases hb with hb | hb <;> simp [hb]) | (rcases hb with hb | hb | hb <;> simp [hb])) ?_
     rintro _ S36 ⟨a36, c36, rfl, ho36⟩
     refine AD.perm (perm_q12 (A := [_, _, _, _])) ?_
     refine AD.one (i := 9) (by kernel_rfl) ?_
     refine AStep.store (k := 0) (cs' := [_, _, _, _, _]) rfl (wants_plain rfl) rfl rfl ot rfl rfl ot rfl rfl Try.sizeOf42 rfl rfl rfl (by intro b hb; simp [bks, St.put] at hb ⊢; try first | exact hb | simp [hb] | (rcases hb with hb | hb <;> simp [hb]) | (rcases hb with hb | hb | hb <;> simp [hb])) ?_
     refine a1_ 10 rfl (fa_ 2) ?_
     refine AD.one (i := 11) (by kernel_rfl) ?_
     refine AStep.store (k := 0) (cs' := [_, _, _, _, _]) rfl (wants_plain rfl) rfl rfl ot rfl rfl ot rfl rfl Try.sizeOf22 rfl rfl rfl (by intro b hb; simp [bks, St.put] at hb ⊢; try first | exact hb | simp [hb] | (rcases hb with hb | hb <;> simp [hb]) | (rcases hb with hb | hb | hb <;> simp [hb])) ?_
     refine AD.wk (y := ⟨98, [(0, _), (1, _), (6, _), (7, _), (8, _)], (⟨b7, 44, 5, [_, _, _, _, _]⟩ :: ⟨b6, 44, 5, [_, _, _, _, _]⟩ :: ⟨b, 26, 2, [_, _]⟩ :: _ :: (S36 ++ (S32 ++ ((L.eraseIdx i.toNat).flatMap bO))))⟩) (Wk.as_ rfl rfl ⟨lk, lk, lk, lk, lk, trivial⟩) rfl ?_
     refine AD.done (by kernel_rfl) ?_
     refine CD.region ?_
     refine os_ (fa_ 2) ?_
     refine os_ (lb_ 1) ?_
     refine OD.still (wants_plain rfl) rfl (still_rs (l := 0) (h := 2) rfl ot trivial ⟨_, opd_const⟩ (by first | exact sl_head cK_len (fun h => by cases h) Try.runUnderlying22 Try.sizeOf3 (by omega) | exact sl_head cI_len (fun h => by cases h) Try.runUnderlying22 Try.sizeOf3 (by omega) | exact sl_row (fun h => by cases h) Try.runUnderlying22 Try.sizeOf3 (by omega) | exact sl_list (fun _ => rfl) (fun h => by cases h) Try.runUnderlying22 Try.sizeOf3 (by omega) (by omega))) ?_
     have hcl42 : VC Try.prog G 39 [.list 1 ((p.kids.take 2).flatMap cI) (p.kids.take 2).length] [] (fun r S => ∃ ad cap, r = .v (.slice ad (lowP p L.length).kids.length cap) ∧ OwnI (lowP p L.length).kids ad cap S) := by rw [show (p.kids.take 2) = (lowP p L.length).kids from (by show _ = p.kids.take (if p.leaf = true then 2 else 3); rw [hlf]; rfl)]; exact cloneI_vc _ (by rw [← show (p.kids.take 2) = (lowP p L.length).kids from (by show _ = p.kids.take (if p.leaf = true then 2 else 3); rw [hlf]; rfl)]; simp only [List.length_take, List.length_drop]; omega)
     refine OD.call (wants_plain rfl) rfl rfl rfl Try.call39 hcl42 ⟨ot, trivial⟩ (perm_none _) ?_
     rintro _ S42 ⟨a42, c42, rfl, ho42⟩
     refine OD.perm (perm_q12 (A := [_, _, _, _])) ?_
     refine os_ (fa_ 2) ?_
     refine OD.store (k := 1) (cs' := [_, _, _, _, _]) (wants_plain rfl) rfl rfl ot rfl rfl ot rfl rfl Try.sizeOf22 rfl rfl rfl ?_
     refine OD.wk (Wk.as_ (n := 98) (l' := [(0, _), (1, _), (6, _), (7, _), (8, _)]) (S' := (⟨b7, 44, 5, [_, _, _, _, _]⟩ :: ⟨b6, 44, 5, [_, _, _, _, _]⟩ :: ⟨b, 26, 2, [_, _]⟩ :: _ :: (S42 ++ (S36 ++ (S32 ++ ((L.eraseIdx i.toNat).flatMap bO)))))) rfl rfl ⟨lk, lk, lk, lk, lk, trivial⟩) ?_
     refine OD.nil ?_
     refine ⟨(⟨98, [(0, .v (.pointer (some ⟨b, 0, none⟩))), (1, .v (.int .i64 i)), (6, .v (.pointer (some ⟨b6, 0, none⟩))), (7, .v (.pointer (some ⟨(b7), 0, none⟩))), (8, .list 1 ((upK p).flatMap cB) (upK p).length)], (⟨(b7), 44, 5, [.v (.bool p.leaf), .v (.slice (a32) (highP p).keys.length (c32)), .v (.slice (a36) (highP p).kids.length (c36)), .list 1 (p.high.flatMap cB) p.high.length, .v (.int .i64 p.next)]⟩ :: ⟨b6, 44, 5, [.v (.bool p.leaf), .list 1 (p.keys.flatMap cK) p.keys.length, .v (.slice (a42) (lowP p L.length).kids.length (c42)), .list 1 (p.high.flatMap cB) p.high.length, .v (.int .i64 p.next)]⟩ :: ⟨b, 26, 2, [.v (.slice (some ⟨bx, 0, none⟩) L.length cap), .v (.int .i64 root)]⟩ :: ⟨bx, 44, cap * 5, List.flatMap gO L⟩ :: ((S42) ++ ((S36) ++ ((S32) ++ ((L.eraseIdx i.toNat).flatMap bO)))))⟩ : St), Wk.asS (n := 98) rfl (by repeat (first | exact List.Sublist.refl _ | apply List.Sublist.cons_cons | apply List.Sublist.cons)) ⟨(by (repeat (first | exact look_hit | (apply look_at; focus (first | rfl | (rw [hup]; done) | (simp; done))) | (apply look_miss; focus rfl))); done), (by (repeat (first | exact look_hit | (apply look_at; focus (first | rfl | (rw [hup]; done) | (simp; done))) | (apply look_miss; focus rfl))); done), (by (repeat (first | exact look_hit | (apply look_at; focus (first | rfl | (rw [hup]; done) | (simp; done))) | (apply look_miss; focus rfl))); done), (by (repeat (first | exact look_hit | (apply look_at; focus (first | rfl | (rw [hup]; done) | (simp; done))) | (apply look_miss; focus rfl))); done), (by (repeat (first | exact look_hit | (apply look_at; focus (first | rfl | (rw [hup]; done) | (simp; done))) | (apply look_miss; focus rfl))); done), trivial⟩, b7, a32, c32, S32, a36, c36, S36, a42, c42, S42, ho32, ho36, ho42, rfl⟩
   ·skip
    refine at_ rfl (lb_ 1) ?_
    refine a1_ 6 rfl (still_rs (l := 2) rfl ot ⟨_, opd_const⟩ trivial (by first | exact sl_tail rfl cK_len (fun h => by cases h) Try.runUnderlying22 Try.sizeOf3 (by omega) | exact sl_tail rfl cI_len (fun h => by cases h) Try.runUnderlying22 Try.sizeOf3 (by omega) | exact sl_row (fun _ => rfl) Try.runUnderlying22 Try.sizeOf3 (by omega) | exact sl_list (fun h => by cases h) (fun _ => rfl) Try.runUnderlying22 Try.sizeOf3 (by omega) (by omega))) ?_
    refine AD.one (i := 1) (by kernel_rfl) ?_
    refine at_ rfl (lb_ 1) ?_
    refine a1_ 2 rfl (still_rs (l := 2) rfl ot ⟨_, opd_const⟩ trivial (by first | exact sl_tail rfl cK_len (fun h => by cases h) Try.runUnderlying42 Try.sizeOf31 (by omega) | exact sl_tail rfl cI_len (fun h => by cases h) Try.runUnderlying42 Try.sizeOf31 (by omega) | exact sl_row (fun _ => rfl) Try.runUnderlying42 Try.sizeOf31 (by omega) | exact sl_list (fun h => by cases h) (fun _ => rfl) Try.runUnderlying42 Try.sizeOf31 (by omega) (by omega))) ?_
    refine AD.one (i := 3) (by kernel_rfl) ?_
    have hcl32 : VC Try.prog G 46 [.list 1 ((p.keys.drop 2).flatMap cK) (p.keys.drop 2).length] [] (fun r S => ∃ ad cap, r = .v (.slice ad (highP p).keys.length cap) ∧ OwnKs (highP p).keys ad cap S) := by rw [show (p.keys.drop 2) = (highP p).keys from (by show _ = p.keys.drop (if p.leaf = true then 2 else 3); rw [hlf]; rfl)]; exact cloneK_vc _ (by rw [← show (p.keys.drop 2) = (highP p).keys from (by show _ = p.keys.drop (if p.leaf = true then 2 else 3); rw [hlf]; rfl)]; simp only [List.length_take, List.length_drop]; omega)
    refine AStep.call rfl (wants_plain rfl) rfl rfl rfl Try.call46 hcl32 ⟨ot, trivial⟩ (perm_none _) (by intro b hb; simp [bks, St.put] at hb ⊢; try first | exact hb | simp [hb] | (rcases hb with hb | hb <;> simp [hb]) | (rcases hb with hb | hb | hb <;> simp [hb])) ?_
    rintro _ S32 ⟨a32, c32, rfl, ho32⟩
    refine AD.perm (perm_q12 (A := [_, _, _, _])) ?_
    refine a1_ 8 rfl (fa_ 1) ?_
    refine AD.one (i := 7) (by kernel_rfl) ?_
    have hcl36 : VC Try.prog G 39 [.list 1 ((p.kids.drop 2).flatMap cI) (p.kids.drop 2).length] [] (fun r S => ∃ ad cap, r = .v (.slice ad (highP p).kids.length cap) ∧ OwnI (highP p).kids ad cap S) := by rw [show (p.kids.drop 2) = (highP p).kids from (by show _ = p.kids.drop (if p.leaf = true then 2 else 3); rw [hlf]; rfl)]; exact cloneI_vc _ (by rw [← show (p.kids.drop 2) = (highP p).kids from (by show _ = p.kids.drop (if p.leaf = true then 2 else 3); rw [hlf]; rfl)]; simp only [List.length_take, List.length_drop]; omega)
    refine AStep.call rfl (wants_plain rfl) rfl rfl rfl Try.call39 hcl36 ⟨ot, trivial⟩ (perm_none _) (by intro b hb; simp [bks, St.put] at hb ⊢; try first | exact hb | simp [hb] | (rcases hb with hb | hb <;> simp [hb]) | (rcases hb with hb | hb | hb <;> simp [hb])) ?_
    rintro _ S36 ⟨a36, c36, rfl, ho36⟩
    refine AD.perm (perm_q12 (A := [_, _, _, _])) ?_
    refine AD.one (i := 9) (by kernel_rfl) ?_
    refine AStep.store (k := 0) (cs' := [_, _, _, _, _]) rfl (wants_plain rfl) rfl rfl ot rfl rfl ot rfl rfl Try.sizeOf42 rfl rfl rfl (by intro b hb; simp [bks, St.put] at hb ⊢; try first | exact hb | simp [hb] | (rcases hb with hb | hb <;> simp [hb]) | (rcases hb with hb | hb | hb <;> simp [hb])) ?_
    refine a1_ 10 rfl (fa_ 2) ?_
    refine AD.one (i := 11) (by kernel_rfl) ?_
    refine AStep.store (k := 0) (cs' := [_, _, _, _, _]) rfl (wants_plain rfl) rfl rfl ot rfl rfl ot rfl rfl Try.sizeOf22 rfl rfl rfl (by intro b hb; simp [bks, St.put] at hb ⊢; try first | exact hb | simp [hb] | (rcases hb with hb | hb <;> simp [hb]) | (rcases hb with hb | hb | hb <;> simp [hb])) ?_
    refine AD.wk (y := ⟨98, [(0, _), (1, _), (6, _), (7, _), (8, _)], (⟨b7, 44, 5, [_, _, _, _, _]⟩ :: ⟨b6, 44, 5, [_, _, _, _, _]⟩ :: ⟨b, 26, 2, [_, _]⟩ :: _ :: (S36 ++ (S32 ++ ((L.eraseIdx i.toNat).flatMap bO))))⟩) (Wk.as_ rfl rfl ⟨lk, lk, lk, lk, lk, trivial⟩) rfl ?_
    refine AD.done (by kernel_rfl) ?_
    refine CD.region ?_
    refine os_ (fa_ 2) ?_
    refine os_ (lb_ 1) ?_
    refine OD.still (wants_plain rfl) rfl (still_rs (l := 0) (h := 2) rfl ot trivial ⟨_, opd_const⟩ (by first | exact sl_head cK_len (fun h => by cases h) Try.runUnderlying22 Try.sizeOf3 (by omega) | exact sl_head cI_len (fun h => by cases h) Try.runUnderlying22 Try.sizeOf3 (by omega) | exact sl_row (fun h => by cases h) Try.runUnderlying22 Try.sizeOf3 (by omega) | exact sl_list (fun _ => rfl) (fun h => by cases h) Try.runUnderlying22 Try.sizeOf3 (by omega) (by omega))) ?_
    have hcl42 : VC Try.prog G 39 [.list 1 ((p.kids.take 2).flatMap cI) (p.kids.take 2).length] [] (fun r S => ∃ ad cap, r = .v (.slice ad (lowP p L.length).kids.length cap) ∧ OwnI (lowP p L.length).kids ad cap S) := by rw [show (p.kids.take 2) = (lowP p L.length).kids from (by show _ = p.kids.take (if p.leaf = true then 2 else 3); rw [hlf]; rfl)]; exact cloneI_vc _ (by rw [← show (p.kids.take 2) = (lowP p L.length).kids from (by show _ = p.kids.take (if p.leaf = true then 2 else 3); rw [hlf]; rfl)]; simp only [List.length_take, List.length_drop]; omega)
    refine OD.call (wants_plain rfl) rfl rfl rfl Try.call39 hcl42 ⟨ot, trivial⟩ (perm_none _) ?_
    rintro _ S42 ⟨a42, c42, rfl, ho42⟩
    refine OD.perm (perm_q12 (A := [_, _, _, _])) ?_
    refine os_ (fa_ 2) ?_
    refine OD.store (k := 1) (cs' := [_, _, _, _, _]) (wants_plain rfl) rfl rfl ot rfl rfl ot rfl rfl Try.sizeOf22 rfl rfl rfl ?_
    refine OD.wk (Wk.as_ (n := 98) (l' := [(0, _), (1, _), (6, _), (7, _), (8, _)]) (S' := (⟨b7, 44, 5, [_, _, _, _, _]⟩ :: ⟨b6, 44, 5, [_, _, _, _, _]⟩ :: ⟨b, 26, 2, [_, _]⟩ :: _ :: (S42 ++ (S36 ++ (S32 ++ ((L.eraseIdx i.toNat).flatMap bO)))))) rfl rfl ⟨lk, lk, lk, lk, lk, trivial⟩) ?_
    refine OD.nil ?_
    refine ⟨(⟨98, [(0, .v (.pointer (some ⟨b, 0, none⟩))), (1, .v (.int .i64 i)), (6, .v (.pointer (some ⟨b6, 0, none⟩))), (7, .v (.pointer (some ⟨(b7), 0, none⟩))), (8, .list 1 ((upK p).flatMap cB) (upK p).length)], (⟨(b7), 44, 5, [.v (.bool p.leaf), .v (.slice (a32) (highP p).keys.length (c32)), .v (.slice (a36) (highP p).kids.length (c36)), .list 1 (p.high.flatMap cB) p.high.length, .v (.int .i64 p.next)]⟩ :: ⟨b6, 44, 5, [.v (.bool p.leaf), .list 1 (p.keys.flatMap cK) p.keys.length, .v (.slice (a42) (lowP p L.length).kids.length (c42)), .list 1 (p.high.flatMap cB) p.high.length, .v (.int .i64 p.next)]⟩ :: ⟨b, 26, 2, [.v (.slice (some ⟨bx, 0, none⟩) L.length cap), .v (.int .i64 root)]⟩ :: ⟨bx, 44, cap * 5, List.flatMap gO L⟩ :: ((S42) ++ ((S36) ++ ((S32) ++ ((L.eraseIdx i.toNat).flatMap bO)))))⟩ : St), Wk.asS (n := 98) rfl (by repeat (first | exact List.Sublist.refl _ | apply List.Sublist.cons_cons | apply List.Sublist.cons)) ⟨(by (repeat (first | exact look_hit | (apply look_at; focus (first | rfl | (rw [hup]; done) | (simp; done))) | (apply look_miss; focus rfl))); done), (by (repeat (first | exact look_hit | (apply look_at; focus (first | rfl | (rw [hup]; done) | (simp; done))) | (apply look_miss; focus rfl))); done), (by (repeat (first | exact look_hit | (apply look_at; focus (first | rfl | (rw [hup]; done) | (simp; done))) | (apply look_miss; focus rfl))); done), (by (repeat (first | exact look_hit | (apply look_at; focus (first | rfl | (rw [hup]; done) | (simp; done))) | (apply look_miss; focus rfl))); done), (by (repeat (first | exact look_hit | (apply look_at; focus (first | rfl | (rw [hup]; done) | (simp; done))) | (apply look_miss; focus rfl))); done), trivial⟩, b7, a32, c32, S32, a36, c36, S36, a42, c42, S42, ho32, ho36, ho42, rfl⟩
  ·have hc0' := hc0
   (try simp only [V.cnd, ne_eq] at hc0')
   have hlf : p.leaf = false := hc0
   have hkn := hkn hlf
   refine CD.seq ?_
   refine CD.draw (bks (List.take 2 (List.drop 1 _))) (by kernel_rfl) (fun _ h => (List.Sublist.map _ ((List.take_sublist _ _).trans (List.drop_sublist _ _))).subset h) ?_
   refine a0_ 0 rfl (fa_ 1) ?_
   refine a0_ 4 rfl (fa_ 2) ?_
   refine AD0.later rfl ?_
   refine AD.two (i := 1) (j := 5) (by kernel_rfl) ?_ ?_
   ·skip
    refine at_ rfl (lb_ 1) ?_
    refine a1_ 2 rfl (still_rs (l := 3) rfl ot ⟨_, opd_const⟩ trivial (by first | exact sl_tail rfl cK_len (fun h => by cases h) Try.runUnderlying42 Try.sizeOf31 (by omega) | exact sl_tail rfl cI_len (fun h => by cases h) Try.runUnderlying42 Try.sizeOf31 (by omega) | exact sl_row (fun _ => rfl) Try.runUnderlying42 Try.sizeOf31 (by omega) | exact sl_list (fun h => by cases h) (fun _ => rfl) Try.runUnderlying42 Try.sizeOf31 (by omega) (by omega))) ?_
    refine AD.two (i := 3) (j := 5) (by kernel_rfl) ?_ ?_
    ·skip
     have hcl47 : VC Try.prog G 46 [.list 1 ((p.keys.drop 3).flatMap cK) (p.keys.drop 3).length] [] (fun r S => ∃ ad cap, r = .v (.slice ad (highP p).keys.length cap) ∧ OwnKs (highP p).keys ad cap S) := by rw [show (p.keys.drop 3) = (highP p).keys from (by show _ = p.keys.drop (if p.leaf = true then 2 else 3); rw [hlf]; rfl)]; exact cloneK_vc _ (by rw [← show (p.keys.drop 3) = (highP p).keys from (by show _ = p.keys.drop (if p.leaf = true then 2 else 3); rw [hlf]; rfl)]; simp only [List.length_take, List.length_drop]; omega)
     refine AStep.call rfl (wants_plain rfl) rfl rfl rfl Try.call46 hcl47 ⟨ot, trivial⟩ (perm_none _) (by intro b hb; simp [bks, St.put] at hb ⊢; try first | exact hb | simp [hb] | (rcases hb with hb | hb <;> simp [hb]) | (rcases hb with hb | hb | hb <;> simp [hb])) ?_
     rintro _ S47 ⟨a47, c47, rfl, ho47⟩
     refine AD.perm (perm_q12 (A := [_, _, _, _])) ?_
     refine a1_ 8 rfl (fa_ 1) ?_
     refine AD.one (i := 5) (by kernel_rfl) ?_
     refine at_ rfl (lb_ 1) ?_
     refine a1_ 6 rfl (still_rs (l := 3) rfl ot ⟨_, opd_const⟩ trivial (by first | exact sl_tail rfl cK_len (fun h => by cases h) Try.runUnderlying22 Try.sizeOf3 (by omega) | exact sl_tail rfl cI_len (fun h => by cases h) Try.runUnderlying22 Try.sizeOf3 (by omega) | exact sl_row (fun _ => rfl) Try.runUnderlying22 Try.sizeOf3 (by omega) | exact sl_list (fun h => by cases h) (fun _ => rfl) Try.runUnderlying22 Try.sizeOf3 (by omega) (by omega))) ?_
     refine AD.one (i := 7) (by kernel_rfl) ?_
     have hcl51 : VC Try.prog G 39 [.list 1 ((p.kids.drop 3).flatMap cI) (p.kids.drop 3).length] [] (fun r S => ∃ ad cap, r = .v (.slice ad (highP p).kids.length cap) ∧ OwnI (highP p).kids ad cap S) := by rw [show (p.kids.drop 3) = (highP p).kids from (by show _ = p.kids.drop (if p.leaf = true then 2 else 3); rw [hlf]; rfl)]; exact cloneI_vc _ (by rw [← show (p.kids.drop 3) = (highP p).kids from (by show _ = p.kids.drop (if p.leaf = true then 2 else 3); rw [hlf]; rfl)]; simp only [List.length_take, List.length_drop]; omega)
     refine AStep.call rfl (wants_plain rfl) rfl rfl rfl Try.call39 hcl51 ⟨ot, trivial⟩ (perm_none _) (by intro b hb; simp [bks, St.put] at hb ⊢; try first | exact hb | simp [hb] | (rcases hb with hb | hb <;> simp [hb]) | (rcases hb with hb | hb | hb <;> simp [hb])) ?_
     rintro _ S51 ⟨a51, c51, rfl, ho51⟩
     refine AD.perm (perm_q12 (A := [_, _, _, _])) ?_
     refine AD.one (i := 9) (by kernel_rfl) ?_
     refine AStep.store (k := 0) (cs' := [_, _, _, _, _]) rfl (wants_plain rfl) rfl rfl ot rfl rfl ot rfl rfl Try.sizeOf42 rfl rfl rfl (by intro b hb; simp [bks, St.put] at hb ⊢; try first | exact hb | simp [hb] | (rcases hb with hb | hb <;> simp [hb]) | (rcases hb with hb | hb | hb <;> simp [hb])) ?_
     refine a1_ 10 rfl (fa_ 2) ?_
     refine AD.one (i := 11) (by kernel_rfl) ?_
     refine AStep.store (k := 0) (cs' := [_, _, _, _, _]) rfl (wants_plain rfl) rfl rfl ot rfl rfl ot rfl rfl Try.sizeOf22 rfl rfl rfl (by intro b hb; simp [bks, St.put] at hb ⊢; try first | exact hb | simp [hb] | (rcases hb with hb | hb <;> simp [hb]) | (rcases hb with hb | hb | hb <;> simp [hb])) ?_
     refine AD.wk (y := ⟨98, [(0, _), (1, _), (6, _), (7, _), (8, _)], (⟨b7, 44, 5, [_, _, _, _, _]⟩ :: ⟨b6, 44, 5, [_, _, _, _, _]⟩ :: ⟨b, 26, 2, [_, _]⟩ :: _ :: (S51 ++ (S47 ++ ((L.eraseIdx i.toNat).flatMap bO))))⟩) (Wk.as_ rfl rfl ⟨lk, lk, lk, lk, lk, trivial⟩) rfl ?_
     refine AD.done (by kernel_rfl) ?_
     refine CD.region ?_
     refine os_ (fa_ 2) ?_
     refine os_ (lb_ 1) ?_
     refine OD.still (wants_plain rfl) rfl (still_rs (l := 0) (h := 3) rfl ot trivial ⟨_, opd_const⟩ (by first | exact sl_head cK_len (fun h => by cases h) Try.runUnderlying22 Try.sizeOf3 (by omega) | exact sl_head cI_len (fun h => by cases h) Try.runUnderlying22 Try.sizeOf3 (by omega) | exact sl_row (fun h => by cases h) Try.runUnderlying22 Try.sizeOf3 (by omega) | exact sl_list (fun _ => rfl) (fun h => by cases h) Try.runUnderlying22 Try.sizeOf3 (by omega) (by omega))) ?_
     have hcl57 : VC Try.prog G 39 [.list 1 ((p.kids.take 3).flatMap cI) (p.kids.take 3).length] [] (fun r S => ∃ ad cap, r = .v (.slice ad (lowP p L.length).kids.length cap) ∧ OwnI (lowP p L.length).kids ad cap S) := by rw [show (p.kids.take 3) = (lowP p L.length).kids from (by show _ = p.kids.take (if p.leaf = true then 2 else 3); rw [hlf]; rfl)]; exact cloneI_vc _ (by rw [← show (p.kids.take 3) = (lowP p L.length).kids from (by show _ = p.kids.take (if p.leaf = true then 2 else 3); rw [hlf]; rfl)]; simp only [List.length_take, List.length_drop]; omega)
     refine OD.call (wants_plain rfl) rfl rfl rfl Try.call39 hcl57 ⟨ot, trivial⟩ (perm_none _) ?_
     rintro _ S57 ⟨a57, c57, rfl, ho57⟩
     refine OD.perm (perm_q12 (A := [_, _, _, _])) ?_
     refine os_ (fa_ 2) ?_
     refine OD.store (k := 1) (cs' := [_, _, _, _, _]) (wants_plain rfl) rfl rfl ot rfl rfl ot rfl rfl Try.sizeOf22 rfl rfl rfl ?_
     refine OD.wk (Wk.as_ (n := 98) (l' := [(0, _), (1, _), (6, _), (7, _), (8, _)]) (S' := (⟨b7, 44, 5, [_, _, _, _, _]⟩ :: ⟨b6, 44, 5, [_, _, _, _, _]⟩ :: ⟨b, 26, 2, [_, _]⟩ :: _ :: (S57 ++ (S51 ++ (S47 ++ ((L.eraseIdx i.toNat).flatMap bO)))))) rfl rfl ⟨lk, lk, lk, lk, lk, trivial⟩) ?_
     refine OD.nil ?_
     refine ⟨(⟨98, [(0, .v (.pointer (some ⟨b, 0, none⟩))), (1, .v (.int .i64 i)), (6, .v (.pointer (some ⟨b6, 0, none⟩))), (7, .v (.pointer (some ⟨(b7), 0, none⟩))), (8, .list 1 ((upK p).flatMap cB) (upK p).length)], (⟨(b7), 44, 5, [.v (.bool p.leaf), .v (.slice (a47) (highP p).keys.length (c47)), .v (.slice (a51) (highP p).kids.length (c51)), .list 1 (p.high.flatMap cB) p.high.length, .v (.int .i64 p.next)]⟩ :: ⟨b6, 44, 5, [.v (.bool p.leaf), .list 1 (p.keys.flatMap cK) p.keys.length, .v (.slice (a57) (lowP p L.length).kids.length (c57)), .list 1 (p.high.flatMap cB) p.high.length, .v (.int .i64 p.next)]⟩ :: ⟨b, 26, 2, [.v (.slice (some ⟨bx, 0, none⟩) L.length cap), .v (.int .i64 root)]⟩ :: ⟨bx, 44, cap * 5, List.flatMap gO L⟩ :: ((S57) ++ ((S51) ++ ((S47) ++ ((L.eraseIdx i.toNat).flatMap bO)))))⟩ : St), Wk.asS (n := 98) rfl (by repeat (first | exact List.Sublist.refl _ | apply List.Sublist.cons_cons | apply List.Sublist.cons)) ⟨(by (repeat (first | exact look_hit | (apply look_at; focus (first | rfl | (rw [hup]; done) | (simp; done))) | (apply look_miss; focus rfl))); done), (by (repeat (first | exact look_hit | (apply look_at; focus (first | rfl | (rw [hup]; done) | (simp; done))) | (apply look_miss; focus rfl))); done), (by (repeat (first | exact look_hit | (apply look_at; focus (first | rfl | (rw [hup]; done) | (simp; done))) | (apply look_miss; focus rfl))); done), (by (repeat (first | exact look_hit | (apply look_at; focus (first | rfl | (rw [hup]; done) | (simp; done))) | (apply look_miss; focus rfl))); done), (by (repeat (first | exact look_hit | (apply look_at; focus (first | rfl | (rw [hup]; done) | (simp; done))) | (apply look_miss; focus rfl))); done), trivial⟩, b7, a47, c47, S47, a51, c51, S51, a57, c57, S57, ho47, ho51, ho57, rfl⟩
    ·skip
     refine at_ rfl (lb_ 1) ?_
     refine a1_ 6 rfl (still_rs (l := 3) rfl ot ⟨_, opd_const⟩ trivial (by first | exact sl_tail rfl cK_len (fun h => by cases h) Try.runUnderlying22 Try.sizeOf3 (by omega) | exact sl_tail rfl cI_len (fun h => by cases h) Try.runUnderlying22 Try.sizeOf3 (by omega) | exact sl_row (fun _ => rfl) Try.runUnderlying22 Try.sizeOf3 (by omega) | exact sl_list (fun h => by cases h) (fun _ => rfl) Try.runUnderlying22 Try.sizeOf3 (by omega) (by omega))) ?_
     refine AD.one (i := 3) (by kernel_rfl) ?_
     have hcl47 : VC Try.prog G 46 [.list 1 ((p.keys.drop 3).flatMap cK) (p.keys.drop 3).length] [] (fun r S => ∃ ad cap, r = .v (.slice ad (highP p).keys.length cap) ∧ OwnKs (highP p).keys ad cap S) := by rw [show (p.keys.drop 3) = (highP p).keys from (by show _ = p.keys.drop (if p.leaf = true then 2 else 3); rw [hlf]; rfl)]; exact cloneK_vc _ (by rw [← show (p.keys.drop 3) = (highP p).keys from (by show _ = p.keys.drop (if p.leaf = true then 2 else 3); rw [hlf]; rfl)]; simp only [List.length_take, List.length_drop]; omega)
     refine AStep.call rfl (wants_plain rfl) rfl rfl rfl Try.call46 hcl47 ⟨ot, trivial⟩ (perm_none _) (by intro b hb; simp [bks, St.put] at hb ⊢; try first | exact hb | simp [hb] | (rcases hb with hb | hb <;> simp [hb]) | (rcases hb with hb | hb | hb <;> simp [hb])) ?_
     rintro _ S47 ⟨a47, c47, rfl, ho47⟩
     refine AD.perm (perm_q12 (A := [_, _, _, _])) ?_
     refine a1_ 8 rfl (fa_ 1) ?_
     refine AD.one (i := 7) (by kernel_rfl) ?_
     have hcl51 : VC Try.prog G 39 [.list 1 ((p.kids.drop 3).flatMap cI) (p.kids.drop 3).length] [] (fun r S => ∃ ad cap, r = .v (.slice ad (highP p).kids.length cap) ∧ OwnI (highP p).kids ad cap S) := by rw [show (p.kids.drop 3) = (highP p).kids from (by show _ = p.kids.drop (if p.leaf = true then 2 else 3); rw [hlf]; rfl)]; exact cloneI_vc _ (by rw [← show (p.kids.drop 3) = (highP p).kids from (by show _ = p.kids.drop (if p.leaf = true then 2 else 3); rw [hlf]; rfl)]; simp only [List.length_take, List.length_drop]; omega)
     refine AStep.call rfl (wants_plain rfl) rfl rfl rfl Try.call39 hcl51 ⟨ot, trivial⟩ (perm_none _) (by intro b hb; simp [bks, St.put] at hb ⊢; try first | exact hb | simp [hb] | (rcases hb with hb | hb <;> simp [hb]) | (rcases hb with hb | hb | hb <;> simp [hb])) ?_
     rintro _ S51 ⟨a51, c51, rfl, ho51⟩
     refine AD.perm (perm_q12 (A := [_, _, _, _])) ?_
     refine AD.one (i := 9) (by kernel_rfl) ?_
     refine AStep.store (k := 0) (cs' := [_, _, _, _, _]) rfl (wants_plain rfl) rfl rfl ot rfl rfl ot rfl rfl Try.sizeOf42 rfl rfl rfl (by intro b hb; simp [bks, St.put] at hb ⊢; try first | exact hb | simp [hb] | (rcases hb with hb | hb <;> simp [hb]) | (rcases hb with hb | hb | hb <;> simp [hb])) ?_
     refine a1_ 10 rfl (fa_ 2) ?_
     refine AD.one (i := 11) (by kernel_rfl) ?_
     refine AStep.store (k := 0) (cs' := [_, _, _, _, _]) rfl (wants_plain rfl) rfl rfl ot rfl rfl ot rfl rfl Try.sizeOf22 rfl rfl rfl (by intro b hb; simp [bks, St.put] at hb ⊢; try first | exact hb | simp [hb] | (rcases hb with hb | hb <;> simp [hb]) | (rcases hb with hb | hb | hb <;> simp [hb])) ?_
     refine AD.wk (y := ⟨98, [(0, _), (1, _), (6, _), (7, _), (8, _)], (⟨b7, 44, 5, [_, _, _, _, _]⟩ :: ⟨b6, 44, 5, [_, _, _, _, _]⟩ :: ⟨b, 26, 2, [_, _]⟩ :: _ :: (S51 ++ (S47 ++ ((L.eraseIdx i.toNat).flatMap bO))))⟩) (Wk.as_ rfl rfl ⟨lk, lk, lk, lk, lk, trivial⟩) rfl ?_
     refine AD.done (by kernel_rfl) ?_
     refine CD.region ?_
     refine os_ (fa_ 2) ?_
     refine os_ (lb_ 1) ?_
     refine OD.still (wants_plain rfl) rfl (still_rs (l := 0) (h := 3) rfl ot trivial ⟨_, opd_const⟩ (by first | exact sl_head cK_len (fun h => by cases h) Try.runUnderlying22 Try.sizeOf3 (by omega) | exact sl_head cI_len (fun h => by cases h) Try.runUnderlying22 Try.sizeOf3 (by omega) | exact sl_row (fun h => by cases h) Try.runUnderlying22 Try.sizeOf3 (by omega) | exact sl_list (fun _ => rfl) (fun h => by cases h) Try.runUnderlying22 Try.sizeOf3 (by omega) (by omega))) ?_
     have hcl57 : VC Try.prog G 39 [.list 1 ((p.kids.take 3).flatMap cI) (p.kids.take 3).length] [] (fun r S => ∃ ad cap, r = .v (.slice ad (lowP p L.length).kids.length cap) ∧ OwnI (lowP p L.length).kids ad cap S) := by rw [show (p.kids.take 3) = (lowP p L.length).kids from (by show _ = p.kids.take (if p.leaf = true then 2 else 3); rw [hlf]; rfl)]; exact cloneI_vc _ (by rw [← show (p.kids.take 3) = (lowP p L.length).kids from (by show _ = p.kids.take (if p.leaf = true then 2 else 3); rw [hlf]; rfl)]; simp only [List.length_take, List.length_drop]; omega)
     refine OD.call (wants_plain rfl) rfl rfl rfl Try.call39 hcl57 ⟨ot, trivial⟩ (perm_none _) ?_
     rintro _ S57 ⟨a57, c57, rfl, ho57⟩
     refine OD.perm (perm_q12 (A := [_, _, _, _])) ?_
     refine os_ (fa_ 2) ?_
     refine OD.store (k := 1) (cs' := [_, _, _, _, _]) (wants_plain rfl) rfl rfl ot rfl rfl ot rfl rfl Try.sizeOf22 rfl rfl rfl ?_
     refine OD.wk (Wk.as_ (n := 98) (l' := [(0, _), (1, _), (6, _), (7, _), (8, _)]) (S' := (⟨b7, 44, 5, [_, _, _, _, _]⟩ :: ⟨b6, 44, 5, [_, _, _, _, _]⟩ :: ⟨b, 26, 2, [_, _]⟩ :: _ :: (S57 ++ (S51 ++ (S47 ++ ((L.eraseIdx i.toNat).flatMap bO)))))) rfl rfl ⟨lk, lk, lk, lk, lk, trivial⟩) ?_
     refine OD.nil ?_
     refine ⟨(⟨98, [(0, .v (.pointer (some ⟨b, 0, none⟩))), (1, .v (.int .i64 i)), (6, .v (.pointer (some ⟨b6, 0, none⟩))), (7, .v (.pointer (some ⟨(b7), 0, none⟩))), (8, .list 1 ((upK p).flatMap cB) (upK p).length)], (⟨(b7), 44, 5, [.v (.bool p.leaf), .v (.slice (a47) (highP p).keys.length (c47)), .v (.slice (a51) (highP p).kids.length (c51)), .list 1 (p.high.flatMap cB) p.high.length, .v (.int .i64 p.next)]⟩ :: ⟨b6, 44, 5, [.v (.bool p.leaf), .list 1 (p.keys.flatMap cK) p.keys.length, .v (.slice (a57) (lowP p L.length).kids.length (c57)), .list 1 (p.high.flatMap cB) p.high.length, .v (.int .i64 p.next)]⟩ :: ⟨b, 26, 2, [.v (.slice (some ⟨bx, 0, none⟩) L.length cap), .v (.int .i64 root)]⟩ :: ⟨bx, 44, cap * 5, List.flatMap gO L⟩ :: ((S57) ++ ((S51) ++ ((S47) ++ ((L.eraseIdx i.toNat).flatMap bO)))))⟩ : St), Wk.asS (n := 98) rfl (by repeat (first | exact List.Sublist.refl _ | apply List.Sublist.cons_cons | apply List.Sublist.cons)) ⟨(by (repeat (first | exact look_hit | (apply look_at; focus (first | rfl | (rw [hup]; done) | (simp; done))) | (apply look_miss; focus rfl))); done), (by (repeat (first | exact look_hit | (apply look_at; focus (first | rfl | (rw [hup]; done) | (simp; done))) | (apply look_miss; focus rfl))); done), (by (repeat (first | exact look_hit | (apply look_at; focus (first | rfl | (rw [hup]; done) | (simp; done))) | (apply look_miss; focus rfl))); done), (by (repeat (first | exact look_hit | (apply look_at; focus (first | rfl | (rw [hup]; done) | (simp; done))) | (apply look_miss; focus rfl))); done), (by (repeat (first | exact look_hit | (apply look_at; focus (first | rfl | (rw [hup]; done) | (simp; done))) | (apply look_miss; focus rfl))); done), trivial⟩, b7, a47, c47, S47, a51, c51, S51, a57, c57, S57, ho47, ho51, ho57, rfl⟩
   ·skip
    refine at_ rfl (lb_ 1) ?_
    refine a1_ 6 rfl (still_rs (l := 3) rfl ot ⟨_, opd_const⟩ trivial (by first | exact sl_tail rfl cK_len (fun h => by cases h) Try.runUnderlying22 Try.sizeOf3 (by omega) | exact sl_tail rfl cI_len (fun h => by cases h) Try.runUnderlying22 Try.sizeOf3 (by omega) | exact sl_row (fun _ => rfl) Try.runUnderlying22 Try.sizeOf3 (by omega) | exact sl_list (fun h => by cases h) (fun _ => rfl) Try.runUnderlying22 Try.sizeOf3 (by omega) (by omega))) ?_
    refine AD.one (i := 1) (by kernel_rfl) ?_
    refine at_ rfl (lb_ 1) ?_
    refine a1_ 2 rfl (still_rs (l := 3) rfl ot ⟨_, opd_const⟩ trivial (by first | exact sl_tail rfl cK_len (fun h => by cases h) Try.runUnderlying42 Try.sizeOf31 (by omega) | exact sl_tail rfl cI_len (fun h => by cases h) Try.runUnderlying42 Try.sizeOf31 (by omega) | exact sl_row (fun _ => rfl) Try.runUnderlying42 Try.sizeOf31 (by omega) | exact sl_list (fun h => by cases h) (fun _ => rfl) Try.runUnderlying42 Try.sizeOf31 (by omega) (by omega))) ?_
    refine AD.one (i := 3) (by kernel_rfl) ?_
    have hcl47 : VC Try.prog G 46 [.list 1 ((p.keys.drop 3).flatMap cK) (p.keys.drop 3).length] [] (fun r S => ∃ ad cap, r = .v (.slice ad (highP p).keys.length cap) ∧ OwnKs (highP p).keys ad cap S) := by rw [show (p.keys.drop 3) = (highP p).keys from (by show _ = p.keys.drop (if p.leaf = true then 2 else 3); rw [hlf]; rfl)]; exact cloneK_vc _ (by rw [← show (p.keys.drop 3) = (highP p).keys from (by show _ = p.keys.drop (if p.leaf = true then 2 else 3); rw [hlf]; rfl)]; simp only [List.length_take, List.length_drop]; omega)
    refine AStep.call rfl (wants_plain rfl) rfl rfl rfl Try.call46 hcl47 ⟨ot, trivial⟩ (perm_none _) (by intro b hb; simp [bks, St.put] at hb ⊢; try first | exact hb | simp [hb] | (rcases hb with hb | hb <;> simp [hb]) | (rcases hb with hb | hb | hb <;> simp [hb])) ?_
    rintro _ S47 ⟨a47, c47, rfl, ho47⟩
    refine AD.perm (perm_q12 (A := [_, _, _, _])) ?_
    refine a1_ 8 rfl (fa_ 1) ?_
    refine AD.one (i := 7) (by kernel_rfl) ?_
    have hcl51 : VC Try.prog G 39 [.list 1 ((p.kids.drop 3).flatMap cI) (p.kids.drop 3).length] [] (fun r S => ∃ ad cap, r = .v (.slice ad (highP p).kids.length cap) ∧ OwnI (highP p).kids ad cap S) := by rw [show (p.kids.drop 3) = (highP p).kids from (by show _ = p.kids.drop (if p.leaf = true then 2 else 3); rw [hlf]; rfl)]; exact cloneI_vc _ (by rw [← show (p.kids.drop 3) = (highP p).kids from (by show _ = p.kids.drop (if p.leaf = true then 2 else 3); rw [hlf]; rfl)]; simp only [List.length_take, List.length_drop]; omega)
    refine AStep.call rfl (wants_plain rfl) rfl rfl rfl Try.call39 hcl51 ⟨ot, trivial⟩ (perm_none _) (by intro b hb; simp [bks, St.put] at hb ⊢; try first | exact hb | simp [hb] | (rcases hb with hb | hb <;> simp [hb]) | (rcases hb with hb | hb | hb <;> simp [hb])) ?_
    rintro _ S51 ⟨a51, c51, rfl, ho51⟩
    refine AD.perm (perm_q12 (A := [_, _, _, _])) ?_
    refine AD.one (i := 9) (by kernel_rfl) ?_
    refine AStep.store (k := 0) (cs' := [_, _, _, _, _]) rfl (wants_plain rfl) rfl rfl ot rfl rfl ot rfl rfl Try.sizeOf42 rfl rfl rfl (by intro b hb; simp [bks, St.put] at hb ⊢; try first | exact hb | simp [hb] | (rcases hb with hb | hb <;> simp [hb]) | (rcases hb with hb | hb | hb <;> simp [hb])) ?_
    refine a1_ 10 rfl (fa_ 2) ?_
    refine AD.one (i := 11) (by kernel_rfl) ?_
    refine AStep.store (k := 0) (cs' := [_, _, _, _, _]) rfl (wants_plain rfl) rfl rfl ot rfl rfl ot rfl rfl Try.sizeOf22 rfl rfl rfl (by intro b hb; simp [bks, St.put] at hb ⊢; try first | exact hb | simp [hb] | (rcases hb with hb | hb <;> simp [hb]) | (rcases hb with hb | hb | hb <;> simp [hb])) ?_
    refine AD.wk (y := ⟨98, [(0, _), (1, _), (6, _), (7, _), (8, _)], (⟨b7, 44, 5, [_, _, _, _, _]⟩ :: ⟨b6, 44, 5, [_, _, _, _, _]⟩ :: ⟨b, 26, 2, [_, _]⟩ :: _ :: (S51 ++ (S47 ++ ((L.eraseIdx i.toNat).flatMap bO))))⟩) (Wk.as_ rfl rfl ⟨lk, lk, lk, lk, lk, trivial⟩) rfl ?_
    refine AD.done (by kernel_rfl) ?_
    refine CD.region ?_
    refine os_ (fa_ 2) ?_
    refine os_ (lb_ 1) ?_
    refine OD.still (wants_plain rfl) rfl (still_rs (l := 0) (h := 3) rfl ot trivial ⟨_, opd_const⟩ (by first | exact sl_head cK_len (fun h => by cases h) Try.runUnderlying22 Try.sizeOf3 (by omega) | exact sl_head cI_len (fun h => by cases h) Try.runUnderlying22 Try.sizeOf3 (by omega) | exact sl_row (fun h => by cases h) Try.runUnderlying22 Try.sizeOf3 (by omega) | exact sl_list (fun _ => rfl) (fun h => by cases h) Try.runUnderlying22 Try.sizeOf3 (by omega) (by omega))) ?_
    have hcl57 : VC Try.prog G 39 [.list 1 ((p.kids.take 3).flatMap cI) (p.kids.take 3).length] [] (fun r S => ∃ ad cap, r = .v (.slice ad (lowP p L.length).kids.length cap) ∧ OwnI (lowP p L.length).kids ad cap S) := by rw [show (p.kids.take 3) = (lowP p L.length).kids from (by show _ = p.kids.take (if p.leaf = true then 2 else 3); rw [hlf]; rfl)]; exact cloneI_vc _ (by rw [← show (p.kids.take 3) = (lowP p L.length).kids from (by show _ = p.kids.take (if p.leaf = true then 2 else 3); rw [hlf]; rfl)]; simp only [List.length_take, List.length_drop]; omega)
    refine OD.call (wants_plain rfl) rfl rfl rfl Try.call39 hcl57 ⟨ot, trivial⟩ (perm_none _) ?_
    rintro _ S57 ⟨a57, c57, rfl, ho57⟩
    refine OD.perm (perm_q12 (A := [_, _, _, _])) ?_
    refine os_ (fa_ 2) ?_
    refine OD.store (k := 1) (cs' := [_, _, _, _, _]) (wants_plain rfl) rfl rfl ot rfl rfl ot rfl rfl Try.sizeOf22 rfl rfl rfl ?_
    refine OD.wk (Wk.as_ (n := 98) (l' := [(0, _), (1, _), (6, _), (7, _), (8, _)]) (S' := (⟨b7, 44, 5, [_, _, _, _, _]⟩ :: ⟨b6, 44, 5, [_, _, _, _, _]⟩ :: ⟨b, 26, 2, [_, _]⟩ :: _ :: (S57 ++ (S51 ++ (S47 ++ ((L.eraseIdx i.toNat).flatMap bO)))))) rfl rfl ⟨lk, lk, lk, lk, lk, trivial⟩) ?_
    refine OD.nil ?_
    refine ⟨(⟨98, [(0, .v (.pointer (some ⟨b, 0, none⟩))), (1, .v (.int .i64 i)), (6, .v (.pointer (some ⟨b6, 0, none⟩))), (7, .v (.pointer (some ⟨(b7), 0, none⟩))), (8, .list 1 ((upK p).flatMap cB) (upK p).length)], (⟨(b7), 44, 5, [.v (.bool p.leaf), .v (.slice (a47) (highP p).keys.length (c47)), .v (.slice (a51) (highP p).kids.length (c51)), .list 1 (p.high.flatMap cB) p.high.length, .v (.int .i64 p.next)]⟩ :: ⟨b6, 44, 5, [.v (.bool p.leaf), .list 1 (p.keys.flatMap cK) p.keys.length, .v (.slice (a57) (lowP p L.length).kids.length (c57)), .list 1 (p.high.flatMap cB) p.high.length, .v (.int .i64 p.next)]⟩ :: ⟨b, 26, 2, [.v (.slice (some ⟨bx, 0, none⟩) L.length cap), .v (.int .i64 root)]⟩ :: ⟨bx, 44, cap * 5, List.flatMap gO L⟩ :: ((S57) ++ ((S51) ++ ((S47) ++ ((L.eraseIdx i.toNat).flatMap bO)))))⟩ : St), Wk.asS (n := 98) rfl (by repeat (first | exact List.Sublist.refl _ | apply List.Sublist.cons_cons | apply List.Sublist.cons)) ⟨(by (repeat (first | exact look_hit | (apply look_at; focus (first | rfl | (rw [hup]; done) | (simp; done))) | (apply look_miss; focus rfl))); done), (by (repeat (first | exact look_hit | (apply look_at; focus (first | rfl | (rw [hup]; done) | (simp; done))) | (apply look_miss; focus rfl))); done), (by (repeat (first | exact look_hit | (apply look_at; focus (first | rfl | (rw [hup]; done) | (simp; done))) | (apply look_miss; focus rfl))); done), (by (repeat (first | exact look_hit | (apply look_at; focus (first | rfl | (rw [hup]; done) | (simp; done))) | (apply look_miss; focus rfl))); done), (by (repeat (first | exact look_hit | (apply look_at; focus (first | rfl | (rw [hup]; done) | (simp; done))) | (apply look_miss; focus rfl))); done), trivial⟩, b7, a47, c47, S47, a51, c51, S51, a57, c57, S57, ho47, ho51, ho57, rfl⟩
 rintro _ ⟨b7, ak1, ck1, Sk1, ai1, ci1, Si1, ai2, ci2, Si2, hok1, hoi1, hoi2, rfl⟩
 refine CD.seq ?_
 refine CD.region ?_
 refine os_ (fa_ 1) ?_
 refine os_ (lb_ 1) ?_
 refine OD.still (wants_plain rfl) rfl (still_rs (l := 0) (h := 2) rfl ot trivial ⟨_, opd_const⟩ (by first | exact sl_head cK_len (fun h => by cases h) Try.runUnderlying42 Try.sizeOf31 (by omega) | exact sl_head cI_len (fun h => by cases h) Try.runUnderlying42 Try.sizeOf31 (by omega) | exact sl_row (fun h => by cases h) Try.runUnderlying42 Try.sizeOf31 (by omega) | exact sl_list (fun _ => rfl) (fun h => by cases h) Try.runUnderlying42 Try.sizeOf31 (by omega) (by omega))) ?_
 have hcl62 : VC Try.prog G 46 [.list 1 ((p.keys.take 2).flatMap cK) (p.keys.take 2).length] [] (fun r S => ∃ ad cap, r = .v (.slice ad (lowP p L.length).keys.length cap) ∧ OwnKs (lowP p L.length).keys ad cap S) := by rw [show (p.keys.take 2) = (lowP p L.length).keys from rfl]; exact cloneK_vc _ (by rw [← show (p.keys.take 2) = (lowP p L.length).keys from rfl]; simp only [List.length_take, List.length_drop]; omega)
 refine OD.call (wants_plain rfl) rfl rfl rfl Try.call46 hcl62 ⟨ot, trivial⟩ (perm_none _) ?_
 rintro _ S62 ⟨a62, c62, rfl, ho62⟩
 refine OD.perm (perm_q12 (A := [_, _, _, _])) ?_
 refine os_ (fa_ 1) ?_
 refine OD.store (k := 1) (cs' := [_, _, _, _, _]) (wants_plain rfl) rfl rfl ot rfl rfl ot rfl rfl Try.sizeOf42 rfl rfl rfl ?_
 refine OD.wk (Wk.as_ (n := 98) (l' := [(0, _), (1, _), (6, _), (7, _), (8, _)]) (S' := (⟨b7, 44, 5, [_, _, _, _, _]⟩ :: ⟨b6, 44, 5, [_, _, _, _, _]⟩ :: ⟨b, 26, 2, [_, _]⟩ :: _ :: (S62 ++ (Si2 ++ (Si1 ++ (Sk1 ++ ((L.eraseIdx i.toNat).flatMap bO))))))) rfl rfl ⟨lk, lk, lk, lk, lk, trivial⟩) ?_
 refine OD.nil ?_
 refine CD.seq ?_
 refine CD.draw (bks (List.take 1 (List.drop 0 _))) (by kernel_rfl) (fun _ h => (List.Sublist.map _ ((List.take_sublist _ _).trans (List.drop_sublist _ _))).subset h) ?_
 refine a0_ 0 rfl mv_ ?_
 refine a0_ 2 rfl mv_ ?_
 refine a0_ 3 rfl nc_ ?_
 refine a0_ 4 rfl (fa_ 0) ?_
 refine AD0.later rfl ?_
 refine AD.two (i := 1) (j := 5) (by kernel_rfl) ?_ ?_
 ·skip
  refine AStep.callP rfl (wants_plain rfl) rfl rfl rfl Try.call26 (cloneB_vp (upK p) (by rw [hup]; omega)) ⟨ot, trivial⟩ ?_
  refine a1_ 7 rfl (fa_ 3) ?_
  refine AD.two (i := 5) (j := 8) (by kernel_rfl) ?_ ?_
  ·skip
   refine at_ rfl (lb_ 2) ?_
   refine a1_ 6 rfl ln_ ?_
   refine AD.one (i := 8) (by kernel_rfl) ?_
   refine AStep.store (k := 1) (cs' := [_, _, _, _, _]) rfl (wants_plain rfl) rfl rfl ot rfl rfl ot rfl rfl Try.sizeOf31 rfl rfl rfl (by intro b hb; simp [bks, St.put] at hb ⊢; try first | exact hb | simp [hb] | (rcases hb with hb | hb <;> simp [hb]) | (rcases hb with hb | hb | hb <;> simp [hb])) ?_
   refine a1_ 9 rfl (fa_ 4) ?_
   refine AD.one (i := 10) (by kernel_rfl) ?_
   refine AStep.store (k := 1) (cs' := [_, _, _, _, _]) rfl (wants_plain rfl) rfl rfl ot rfl rfl ot rfl rfl Try.sizeOf3 rfl rfl rfl (by intro b hb; simp [bks, St.put] at hb ⊢; try first | exact hb | simp [hb] | (rcases hb with hb | hb <;> simp [hb]) | (rcases hb with hb | hb | hb <;> simp [hb])) ?_
   refine AD.wk (y := ⟨98, [(0, _), (1, _), (6, _), (7, _), (8, _)], (⟨b7, 44, 5, [_, _, _, _, _]⟩ :: ⟨b6, 44, 5, [_, _, _, _, _]⟩ :: ⟨b, 26, 2, [_, _]⟩ :: _ :: (S62 ++ (Si2 ++ (Si1 ++ (Sk1 ++ ((L.eraseIdx i.toNat).flatMap bO))))))⟩) (Wk.as_ rfl rfl ⟨lk, lk, lk, lk, lk, trivial⟩) rfl ?_
   refine AD.done (by kernel_rfl) ?_
   refine CD.seq ?_
   refine CD.draw (bks (List.take 3 _)) (by kernel_rfl) (fun _ h => (List.Sublist.map _ (List.take_sublist _ _)).subset h) ?_
   refine a0_ 0 rfl mv_ ?_
   refine a0_ 1 rfl nc_ ?_
   refine a0_ 2 rfl (fa_ 0) ?_
   refine a0_ 3 rfl (lb_ 2) ?_
   refine a0_ 4 rfl mv_ ?_
   refine a0_ 5 rfl (lab_ 1 [_, _, _, _, _]) ?_
   refine a0_ 6 rfl (ix_ 5 (h := by first | exact .l (j := i.toNat) (Int.toNat_of_nonneg hi.1).symm hj | exact .r (j := i.toNat) (Int.toNat_of_nonneg hi.1).symm hj)) ?_
   refine AD0.later rfl ?_
   refine AD.one (i := 7) (by kernel_rfl) ?_
   refine AStep.storeAt (k := 3) (cs' := List.flatMap gO (L.set i.toNat (⟨lowP p L.length, a62, c62, S62, ai2, ci2, Si2⟩ : PgO))) rfl (wants_plain rfl) rfl rfl ot rfl rfl ot rfl rfl Try.sizeOf44 rfl (by show 0 + i.toNat * 5 + 5 ≤ (List.flatMap gO L).length; rw [fm_len gO_len]; omega) (by show setAll (L.flatMap gO) (0 + i.toNat * 5) (gO (⟨lowP p L.length, a62, c62, S62, ai2, ci2, Si2⟩ : PgO)) = _; rw [Nat.zero_add]; exact fm_set gO_len L (⟨lowP p L.length, a62, c62, S62, ai2, ci2, Si2⟩ : PgO) hj) (by intro b hb; simp [bks, St.put] at hb ⊢; try first | exact hb | simp [hb] | (rcases hb with hb | hb <;> simp [hb]) | (rcases hb with hb | hb | hb <;> simp [hb])) ?_
   refine AD.wk (y := ⟨98, [(0, _), (7, _), (8, _)], (⟨b7, 44, 5, [_, _, _, _, _]⟩ :: ⟨b6, 44, 5, [_, _, _, _, _]⟩ :: ⟨b, 26, 2, [_, _]⟩ :: _ :: (S62 ++ (Si2 ++ (Si1 ++ (Sk1 ++ ((L.eraseIdx i.toNat).flatMap bO))))))⟩) (Wk.as_ rfl rfl ⟨lk, lk, lk, trivial⟩) rfl ?_
   refine AD.done (by kernel_rfl) ?_
   refine CD.seq ?_
   refine CD.draw (bks (List.take 2 _)) (by kernel_rfl) (fun _ h => (List.Sublist.map _ (List.take_sublist _ _)).subset h) ?_
   refine a0_ 0 rfl mv_ ?_
   refine a0_ 1 rfl mv_ ?_
   refine a0_ 2 rfl nc_ ?_
   refine a0_ 3 rfl (fa_ 0) ?_
   refine a0_ 5 rfl (lab_ 0 [_, _, _, _, _]) ?_
   refine AD0.later rfl ?_
   refine AD.two (i := 4) (j := 6) (by kernel_rfl) ?_ ?_
   ·skip
    refine at_ rfl (still_r1 (mk := Op.load 24) rfl ot (ld_blk (k := 2) (d := .v (.slice (some ⟨bx, 0, none⟩) (L.set i.toNat (⟨lowP p L.length, a62, c62, S62, ai2, ci2, Si2⟩ : PgO)).length cap)) rfl rfl Try.isAgg24 (by rw [List.length_set]; rfl))) ?_
    refine AD.one (i := 6) (by kernel_rfl) ?_
    refine AStep.bldS (pl := numD 0 [_]) (zvs := [.bool false, .slice none 0 0, .slice none 0 0, .slice none 0 0, .int .i64 0]) (ds := [_, _, _, _, _]) rfl (wants_plain rfl) rfl rfl Try.zeroValue44 Try.runUnderlying24 Try.sizeOf44 rfl rfl (by kernel_rfl) ⟨rfl, ot, trivial⟩ (by exact rfl) (fill_full (by exact rfl) (by exact rfl) (by exact rfl)) (fun b86 => ?_)
    refine AD.give (k := 0) (t := 86) (sz := 5) (m := 1) rfl lk rfl rfl rfl (Nat.le_refl _) (by decide) ?_
    refine AD.one (i := 7) (by kernel_rfl) ?_
    refine AStep.appendG (ls := (L.set i.toNat (⟨lowP p L.length, a62, c62, S62, ai2, ci2, Si2⟩ : PgO))) (new := [(⟨highP p, ak1, ck1, Sk1, ai1, ci1, Si1⟩ : PgO)]) (Sq := [⟨bx, 44, cap * 5, List.flatMap gO (L.set i.toNat (⟨lowP p L.length, a62, c62, S62, ai2, ci2, Si2⟩ : PgO))⟩]) gO_len gO_one rfl (wants_plain rfl) rfl rfl Try.underlying24 info44_Twe rfl (by decide) ot (ownL_row (by rw [List.length_set]; exact hxl) hxc) (perm_one (k := 3) rfl) ot (by simp) (by simp only [maxLen, List.length_set, List.length_cons, List.length_nil] at *; omega) (by simp only [List.length_set, List.length_cons, List.length_nil] at *; omega) (hT := by intro x0 hx0; have hx0 : x0 ∈ [b7, b6] := hx0; show x0 ∈ (b7 :: b6 :: _ : List Nat); simp only [List.mem_cons, List.not_mem_nil, or_false] at hx0 ⊢; omega) (fun b87 cp87 h187 h287 => ?_)
    refine a1_ 8 rfl nc_ ?_
    refine a1_ 9 rfl (fa_ 0) ?_
    refine AD.one (i := 10) (by kernel_rfl) ?_
    refine AStep.store (k := 3) (cs' := [_, _]) rfl (wants_plain rfl) rfl rfl ot rfl rfl ot rfl rfl Try.sizeOf24 rfl rfl rfl (by intro b hb; simp [bks, St.put] at hb ⊢; try first | exact hb | simp [hb] | (rcases hb with hb | hb <;> simp [hb]) | (rcases hb with hb | hb | hb <;> simp [hb])) ?_
    refine AD.wk (y := ⟨98, [(0, _), (8, _)], (_ :: ⟨b7, 44, 5, [_, _, _, _, _]⟩ :: ⟨b6, 44, 5, [_, _, _, _, _]⟩ :: ⟨b, 26, 2, [_, _]⟩ :: (S62 ++ (Si2 ++ (Si1 ++ (Sk1 ++ ((L.eraseIdx i.toNat).flatMap bO))))))⟩) (Wk.as_ rfl rfl ⟨lk, lk, trivial⟩) rfl ?_
    refine AD.done (by kernel_rfl) ?_
    refine CD.seq ?_
    refine CD.draw (bks _) (by kernel_rfl) (fun _ h => h) ?_
    refine a0_ 0 rfl mv_ ?_
    refine a0_ 2 rfl mv_ ?_
    refine a0_ 3 rfl nc_ ?_
    refine a0_ 4 rfl (fa_ 0) ?_
    refine a0_ 5 rfl (lb_ 3) ?_
    refine a0_ 6 rfl ln_ ?_
    refine a0_ 7 rfl (still_bin (r := .int .i64 (L.length : Nat)) rfl ot opd_const (bin_sub (by rw [List.length_append, List.length_set]; exact (show IntKind.wrap .i64 (((L.length + [(⟨highP p, ak1, ck1, Sk1, ai1, ci1, Si1⟩ : PgO)].length : Nat) : Int) - 1) = _ from by rw [show (((L.length + [(⟨highP p, ak1, ck1, Sk1, ai1, ci1, Si1⟩ : PgO)].length : Nat) : Int) - 1) = (L.length : Int) from by simp]; exact wrap_i64 (by omega) (by omega))))) ?_
    refine AD0.later rfl ?_
    refine AD.one (i := 1) (by kernel_rfl) ?_
    refine AStep.callP rfl (wants_plain rfl) rfl rfl rfl Try.call26 (cloneB_vp (upK p) (by rw [hup]; omega)) ⟨ot, trivial⟩ ?_
    have htl : (S62 ++ (Si2 ++ (Si1 ++ (Sk1 ++ ((L.eraseIdx i.toNat).flatMap bO))))).Perm (((L.set i.toNat (⟨lowP p L.length, a62, c62, S62, ai2, ci2, Si2⟩ : PgO)) ++ [(⟨highP p, ak1, ck1, Sk1, ai1, ci1, Si1⟩ : PgO)]).flatMap bO) := perm_cnt fun f__ => by have hq := perm_sum (perm_put bO hj (⟨lowP p L.length, a62, c62, S62, ai2, ci2, Si2⟩ : PgO)) f__; rw [List.flatMap_append, show [(⟨highP p, ak1, ck1, Sk1, ai1, ci1, Si1⟩ : PgO)].flatMap bO = Sk1 ++ (Si1 ++ []) from by simp [bO]]; simp only [show bO (⟨lowP p L.length, a62, c62, S62, ai2, ci2, Si2⟩ : PgO) = S62 ++ Si2 from rfl, List.map_append, List.map_cons, List.map_nil, List.sum_append, List.sum_cons, List.sum_nil] at *; omega
    refine AD.perm (S' := ⟨b7, 44, 5, gO (⟨highP p, ak1, ck1, Sk1, ai1, ci1, Si1⟩ : PgO)⟩ :: ⟨b6, 44, 5, gO (⟨lowP p L.length, a62, c62, S62, ai2, ci2, Si2⟩ : PgO)⟩ :: ⟨b, 26, 2, [.v (.slice (some ⟨b87, 0, none⟩) ((L.set i.toNat (⟨lowP p L.length, a62, c62, S62, ai2, ci2, Si2⟩ : PgO)) ++ [(⟨highP p, ak1, ck1, Sk1, ai1, ci1, Si1⟩ : PgO)]).length cp87), .v (.int .i64 root)]⟩ :: (([⟨b87, 44, cp87 * 5, List.flatMap gO ((L.set i.toNat (⟨lowP p L.length, a62, c62, S62, ai2, ci2, Si2⟩ : PgO)) ++ [(⟨highP p, ak1, ck1, Sk1, ai1, ci1, Si1⟩ : PgO)])⟩] : List Blk) ++ ((L.set i.toNat (⟨lowP p L.length, a62, c62, S62, ai2, ci2, Si2⟩ : PgO)) ++ [(⟨highP p, ak1, ck1, Sk1, ai1, ci1, Si1⟩ : PgO)]).flatMap bO)) (by exact (List.perm_middle (l₁ := [_, _, _])).symm.trans (List.Perm.cons _ (List.Perm.cons _ (List.Perm.cons _ (List.Perm.cons _ htl))))) ?_
    refine a1_ 8 rfl mv_ ?_
    refine a1_ 9 rfl mv_ ?_
    refine AD.wk (y := ⟨98, [(4, _), (5, _)], (⟨b7, 44, 5, [_, _, _, _, _]⟩ :: ⟨b6, 44, 5, [_, _, _, _, _]⟩ :: ⟨b, 26, 2, [_, _]⟩ :: (([⟨b87, 44, cp87 * 5, List.flatMap gO ((L.set i.toNat (⟨lowP p L.length, a62, c62, S62, ai2, ci2, Si2⟩ : PgO)) ++ [(⟨highP p, ak1, ck1, Sk1, ai1, ci1, Si1⟩ : PgO)])⟩] : List Blk) ++ ((L.set i.toNat (⟨lowP p L.length, a62, c62, S62, ai2, ci2, Si2⟩ : PgO)) ++ [(⟨highP p, ak1, ck1, Sk1, ai1, ci1, Si1⟩ : PgO)]).flatMap bO))⟩) (Wk.as_ rfl rfl ⟨lk, lk, trivial⟩) rfl ?_
    refine AD.done (by kernel_rfl) ?_
    refine CD.ret ?_
    refine ⟨.inr rfl, _, (⟨b, 26, 2, [.v (.slice (some ⟨b87, 0, none⟩) ((L.set i.toNat (⟨lowP p L.length, a62, c62, S62, ai2, ci2, Si2⟩ : PgO)) ++ [(⟨highP p, ak1, ck1, Sk1, ai1, ci1, Si1⟩ : PgO)]).length cp87), .v (.int .i64 root)]⟩ :: ([⟨b87, 44, cp87 * 5, List.flatMap gO ((L.set i.toNat (⟨lowP p L.length, a62, c62, S62, ai2, ci2, Si2⟩ : PgO)) ++ [(⟨highP p, ak1, ck1, Sk1, ai1, ci1, Si1⟩ : PgO)])⟩] ++ ((L.set i.toNat (⟨lowP p L.length, a62, c62, S62, ai2, ci2, Si2⟩ : PgO)) ++ [(⟨highP p, ak1, ck1, Sk1, ai1, ci1, Si1⟩ : PgO)]).flatMap bO)), (by repeat (first | exact List.Sublist.refl _ | apply List.Sublist.cons)), ret_two Try.results30 (res_tmp (Nat.le_of_ble_eq_true rfl) lk) (res_tmp (Nat.le_of_ble_eq_true rfl) lk), ?_⟩
    refine ⟨rfl, ((L.set i.toNat (⟨lowP p L.length, a62, c62, S62, ai2, ci2, Si2⟩ : PgO)) ++ [(⟨highP p, ak1, ck1, Sk1, ai1, ci1, Si1⟩ : PgO)]), some ⟨b87, 0, none⟩, cp87, [⟨b87, 44, cp87 * 5, List.flatMap gO ((L.set i.toNat (⟨lowP p L.length, a62, c62, S62, ai2, ci2, Si2⟩ : PgO)) ++ [(⟨highP p, ak1, ck1, Sk1, ai1, ci1, Si1⟩ : PgO)])⟩], ownL_row h187 h287, fun x hx => ?_, ?_, rfl⟩
    ·rcases List.mem_append.1 hx with hx | hx
     ·rcases List.mem_or_eq_of_mem_set hx with hx | rfl
      ·exact hok x hx
      ·exact ⟨ho62, hoi2⟩
     ·rw [List.mem_singleton] at hx; subst hx; exact ⟨hok1, hoi1⟩
    ·rw [List.map_append, List.map_set]; rfl
   ·skip
    refine AStep.bldS (pl := numD 0 [_]) (zvs := [.bool false, .slice none 0 0, .slice none 0 0, .slice none 0 0, .int .i64 0]) (ds := [_, _, _, _, _]) rfl (wants_plain rfl) rfl rfl Try.zeroValue44 Try.runUnderlying24 Try.sizeOf44 rfl rfl (by kernel_rfl) ⟨rfl, ot, trivial⟩ (by exact rfl) (fill_full (by exact rfl) (by exact rfl) (by exact rfl)) (fun b86 => ?_)
    refine AD.give (k := 0) (t := 86) (sz := 5) (m := 1) rfl lk rfl rfl rfl (Nat.le_refl _) (by decide) ?_
    refine AD.one (i := 4) (by kernel_rfl) ?_
    refine at_ rfl (still_r1 (mk := Op.load 24) rfl ot (ld_blk (k := 2) (d := .v (.slice (some ⟨bx, 0, none⟩) (L.set i.toNat (⟨lowP p L.length, a62, c62, S62, ai2, ci2, Si2⟩ : PgO)).length cap)) rfl rfl Try.isAgg24 (by rw [List.length_set]; rfl))) ?_
    refine AD.one (i := 7) (by kernel_rfl) ?_
    refine AStep.appendG (ls := (L.set i.toNat (⟨lowP p L.length, a62, c62, S62, ai2, ci2, Si2⟩ : PgO))) (new := [(⟨highP p, ak1, ck1, Sk1, ai1, ci1, Si1⟩ : PgO)]) (Sq := [⟨bx, 44, cap * 5, List.flatMap gO (L.set i.toNat (⟨lowP p L.length, a62, c62, S62, ai2, ci2, Si2⟩ : PgO))⟩]) gO_len gO_one rfl (wants_plain rfl) rfl rfl Try.underlying24 info44_Twe rfl (by decide) ot (ownL_row (by rw [List.length_set]; exact hxl) hxc) (perm_one (k := 3) rfl) ot (by simp) (by simp only [maxLen, List.length_set, List.length_cons, List.length_nil] at *; omega) (by simp only [List.length_set, List.length_cons, List.length_nil] at *; omega) (hT := by intro x0 hx0; have hx0 : x0 ∈ [b7, b6] := hx0; show x0 ∈ (b7 :: b6 :: _ : List Nat); simp only [List.mem_cons, List.not_mem_nil, or_false] at hx0 ⊢; omega) (fun b87 cp87 h187 h287 => ?_)
    refine a1_ 8 rfl nc_ ?_
    refine a1_ 9 rfl (fa_ 0) ?_
    refine AD.one (i := 10) (by kernel_rfl) ?_
    refine AStep.store (k := 3) (cs' := [_, _]) rfl (wants_plain rfl) rfl rfl ot rfl rfl ot rfl rfl Try.sizeOf24 rfl rfl rfl (by intro b hb; simp [bks, St.put] at hb ⊢; try first | exact hb | simp [hb] | (rcases hb with hb | hb <;> simp [hb]) | (rcases hb with hb | hb | hb <;> simp [hb])) ?_
    refine AD.wk (y := ⟨98, [(0, _), (8, _)], (_ :: ⟨b7, 44, 5, [_, _, _, _, _]⟩ :: ⟨b6, 44, 5, [_, _, _, _, _]⟩ :: ⟨b, 26, 2, [_, _]⟩ :: (S62 ++ (Si2 ++ (Si1 ++ (Sk1 ++ ((L.eraseIdx i.toNat).flatMap bO))))))⟩) (Wk.as_ rfl rfl ⟨lk, lk, trivial⟩) rfl ?_
    refine AD.done (by kernel_rfl) ?_
    refine CD.seq ?_
    refine CD.draw (bks _) (by kernel_rfl) (fun _ h => h) ?_
    refine a0_ 0 rfl mv_ ?_
    refine a0_ 2 rfl mv_ ?_
    refine a0_ 3 rfl nc_ ?_
    refine a0_ 4 rfl (fa_ 0) ?_
    refine a0_ 5 rfl (lb_ 3) ?_
    refine a0_ 6 rfl ln_ ?_
    refine a0_ 7 rfl (still_bin (r := .int .i64 (L.length : Nat)) rfl ot opd_const (bin_sub (by rw [List.length_append, List.length_set]; exact (show IntKind.wrap .i64 (((L.length + [(⟨highP p, ak1, ck1, Sk1, ai1, ci1, Si1⟩ : PgO)].length : Nat) : Int) - 1) = _ from by rw [show (((L.length + [(⟨highP p, ak1, ck1, Sk1, ai1, ci1, Si1⟩ : PgO)].length : Nat) : Int) - 1) = (L.length : Int) from by simp]; exact wrap_i64 (by omega) (by omega))))) ?_
    refine AD0.later rfl ?_
    refine AD.one (i := 1) (by kernel_rfl) ?_
    refine AStep.callP rfl (wants_plain rfl) rfl rfl rfl Try.call26 (cloneB_vp (upK p) (by rw [hup]; omega)) ⟨ot, trivial⟩ ?_
    have htl : (S62 ++ (Si2 ++ (Si1 ++ (Sk1 ++ ((L.eraseIdx i.toNat).flatMap bO))))).Perm (((L.set i.toNat (⟨lowP p L.length, a62, c62, S62, ai2, ci2, Si2⟩ : PgO)) ++ [(⟨highP p, ak1, ck1, Sk1, ai1, ci1, Si1⟩ : PgO)]).flatMap bO) := perm_cnt fun f__ => by have hq := perm_sum (perm_put bO hj (⟨lowP p L.length, a62, c62, S62, ai2, ci2, Si2⟩ : PgO)) f__; rw [List.flatMap_append, show [(⟨highP p, ak1, ck1, Sk1, ai1, ci1, Si1⟩ : PgO)].flatMap bO = Sk1 ++ (Si1 ++ []) from by simp [bO]]; simp only [show bO (⟨lowP p L.length, a62, c62, S62, ai2, ci2, Si2⟩ : PgO) = S62 ++ Si2 from rfl, List.map_append, List.map_cons, List.map_nil, List.sum_append, List.sum_cons, List.sum_nil] at *; omega
    refine AD.perm (S' := ⟨b7, 44, 5, gO (⟨highP p, ak1, ck1, Sk1, ai1, ci1, Si1⟩ : PgO)⟩ :: ⟨b6, 44, 5, gO (⟨lowP p L.length, a62, c62, S62, ai2, ci2, Si2⟩ : PgO)⟩ :: ⟨b, 26, 2, [.v (.slice (some ⟨b87, 0, none⟩) ((L.set i.toNat (⟨lowP p L.length, a62, c62, S62, ai2, ci2, Si2⟩ : PgO)) ++ [(⟨highP p, ak1, ck1, Sk1, ai1, ci1, Si1⟩ : PgO)]).length cp87), .v (.int .i64 root)]⟩ :: (([⟨b87, 44, cp87 * 5, List.flatMap gO ((L.set i.toNat (⟨lowP p L.length, a62, c62, S62, ai2, ci2, Si2⟩ : PgO)) ++ [(⟨highP p, ak1, ck1, Sk1, ai1, ci1, Si1⟩ : PgO)])⟩] : List Blk) ++ ((L.set i.toNat (⟨lowP p L.length, a62, c62, S62, ai2, ci2, Si2⟩ : PgO)) ++ [(⟨highP p, ak1, ck1, Sk1, ai1, ci1, Si1⟩ : PgO)]).flatMap bO)) (by exact (List.perm_middle (l₁ := [_, _, _])).symm.trans (List.Perm.cons _ (List.Perm.cons _ (List.Perm.cons _ (List.Perm.cons _ htl))))) ?_
    refine a1_ 8 rfl mv_ ?_
    refine a1_ 9 rfl mv_ ?_
    refine AD.wk (y := ⟨98, [(4, _), (5, _)], (⟨b7, 44, 5, [_, _, _, _, _]⟩ :: ⟨b6, 44, 5, [_, _, _, _, _]⟩ :: ⟨b, 26, 2, [_, _]⟩ :: (([⟨b87, 44, cp87 * 5, List.flatMap gO ((L.set i.toNat (⟨lowP p L.length, a62, c62, S62, ai2, ci2, Si2⟩ : PgO)) ++ [(⟨highP p, ak1, ck1, Sk1, ai1, ci1, Si1⟩ : PgO)])⟩] : List Blk) ++ ((L.set i.toNat (⟨lowP p L.length, a62, c62, S62, ai2, ci2, Si2⟩ : PgO)) ++ [(⟨highP p, ak1, ck1, Sk1, ai1, ci1, Si1⟩ : PgO)]).flatMap bO))⟩) (Wk.as_ rfl rfl ⟨lk, lk, trivial⟩) rfl ?_
    refine AD.done (by kernel_rfl) ?_
    refine CD.ret ?_
    refine ⟨.inr rfl, _, (⟨b, 26, 2, [.v (.slice (some ⟨b87, 0, none⟩) ((L.set i.toNat (⟨lowP p L.length, a62, c62, S62, ai2, ci2, Si2⟩ : PgO)) ++ [(⟨highP p, ak1, ck1, Sk1, ai1, ci1, Si1⟩ : PgO)]).length cp87), .v (.int .i64 root)]⟩ :: ([⟨b87, 44, cp87 * 5, List.flatMap gO ((L.set i.toNat (⟨lowP p L.length, a62, c62, S62, ai2, ci2, Si2⟩ : PgO)) ++ [(⟨highP p, ak1, ck1, Sk1, ai1, ci1, Si1⟩ : PgO)])⟩] ++ ((L.set i.toNat (⟨lowP p L.length, a62, c62, S62, ai2, ci2, Si2⟩ : PgO)) ++ [(⟨highP p, ak1, ck1, Sk1, ai1, ci1, Si1⟩ : PgO)]).flatMap bO)), (by repeat (first | exact List.Sublist.refl _ | apply List.Sublist.cons)), ret_two Try.results30 (res_tmp (Nat.le_of_ble_eq_true rfl) lk) (res_tmp (Nat.le_of_ble_eq_true rfl) lk), ?_⟩
    refine ⟨rfl, ((L.set i.toNat (⟨lowP p L.length, a62, c62, S62, ai2, ci2, Si2⟩ : PgO)) ++ [(⟨highP p, ak1, ck1, Sk1, ai1, ci1, Si1⟩ : PgO)]), some ⟨b87, 0, none⟩, cp87, [⟨b87, 44, cp87 * 5, List.flatMap gO ((L.set i.toNat (⟨lowP p L.length, a62, c62, S62, ai2, ci2, Si2⟩ : PgO)) ++ [(⟨highP p, ak1, ck1, Sk1, ai1, ci1, Si1⟩ : PgO)])⟩], ownL_row h187 h287, fun x hx => ?_, ?_, rfl⟩
    ·rcases List.mem_append.1 hx with hx | hx
     ·rcases List.mem_or_eq_of_mem_set hx with hx | rfl
      ·exact hok x hx
      ·exact ⟨ho62, hoi2⟩
     ·rw [List.mem_singleton] at hx; subst hx; exact ⟨hok1, hoi1⟩
    ·rw [List.map_append, List.map_set]; rfl
  ·skip
   refine AStep.store (k := 1) (cs' := [_, _, _, _, _]) rfl (wants_plain rfl) rfl rfl ot rfl rfl ot rfl rfl Try.sizeOf31 rfl rfl rfl (by intro b hb; simp [bks, St.put] at hb ⊢; try first | exact hb | simp [hb] | (rcases hb with hb | hb <;> simp [hb]) | (rcases hb with hb | hb | hb <;> simp [hb])) ?_
   refine AD.one (i := 5) (by kernel_rfl) ?_
   refine at_ rfl (lb_ 2) ?_
   refine a1_ 6 rfl ln_ ?_
   refine a1_ 9 rfl (fa_ 4) ?_
   refine AD.one (i := 10) (by kernel_rfl) ?_
   refine AStep.store (k := 1) (cs' := [_, _, _, _, _]) rfl (wants_plain rfl) rfl rfl ot rfl rfl ot rfl rfl Try.sizeOf3 rfl rfl rfl (by intro b hb; simp [bks, St.put] at hb ⊢; try first | exact hb | simp [hb] | (rcases hb with hb | hb <;> simp [hb]) | (rcases hb with hb | hb | hb <;> simp [hb])) ?_
   refine AD.wk (y := ⟨98, [(0, _), (1, _), (6, _), (7, _), (8, _)], (⟨b7, 44, 5, [_, _, _, _, _]⟩ :: ⟨b6, 44, 5, [_, _, _, _, _]⟩ :: ⟨b, 26, 2, [_, _]⟩ :: _ :: (S62 ++ (Si2 ++ (Si1 ++ (Sk1 ++ ((L.eraseIdx i.toNat).flatMap bO))))))⟩) (Wk.as_ rfl rfl ⟨lk, lk, lk, lk, lk, trivial⟩) rfl ?_
   refine AD.done (by kernel_rfl) ?_
   refine CD.seq ?_
   refine CD.draw (bks (List.take 3 _)) (by kernel_rfl) (fun _ h => (List.Sublist.map _ (List.take_sublist _ _)).subset h) ?_
   refine a0_ 0 rfl mv_ ?_
   refine a0_ 1 rfl nc_ ?_
   refine a0_ 2 rfl (fa_ 0) ?_
   refine a0_ 3 rfl (lb_ 2) ?_
   refine a0_ 4 rfl mv_ ?_
   refine a0_ 5 rfl (lab_ 1 [_, _, _, _, _]) ?_
   refine a0_ 6 rfl (ix_ 5 (h := by first | exact .l (j := i.toNat) (Int.toNat_of_nonneg hi.1).symm hj | exact .r (j := i.toNat) (Int.toNat_of_nonneg hi.1).symm hj)) ?_
   refine AD0.later rfl ?_
   refine AD.one (i := 7) (by kernel_rfl) ?_
   refine AStep.storeAt (k := 3) (cs' := List.flatMap gO (L.set i.toNat (⟨lowP p L.length, a62, c62, S62, ai2, ci2, Si2⟩ : PgO))) rfl (wants_plain rfl) rfl rfl ot rfl rfl ot rfl rfl Try.sizeOf44 rfl (by show 0 + i.toNat * 5 + 5 ≤ (List.flatMap gO L).length; rw [fm_len gO_len]; omega) (by show setAll (L.flatMap gO) (0 + i.toNat * 5) (gO (⟨lowP p L.length, a62, c62, S62, ai2, ci2, Si2⟩ : PgO)) = _; rw [Nat.zero_add]; exact fm_set gO_len L (⟨lowP p L.length, a62, c62, S62, ai2, ci2, Si2⟩ : PgO) hj) (by intro b hb; simp [bks, St.put] at hb ⊢; try first | exact hb | simp [hb] | (rcases hb with hb | hb <;> simp [hb]) | (rcases hb with hb | hb | hb <;> simp [hb])) ?_
   refine AD.wk (y := ⟨98, [(0, _), (7, _), (8, _)], (⟨b7, 44, 5, [_, _, _, _, _]⟩ :: ⟨b6, 44, 5, [_, _, _, _, _]⟩ :: ⟨b, 26, 2, [_, _]⟩ :: _ :: (S62 ++ (Si2 ++ (Si1 ++ (Sk1 ++ ((L.eraseIdx i.toNat).flatMap bO))))))⟩) (Wk.as_ rfl rfl ⟨lk, lk, lk, trivial⟩) rfl ?_
   refine AD.done (by kernel_rfl) ?_
   refine CD.seq ?_
   refine CD.draw (bks (List.take 2 _)) (by kernel_rfl) (fun _ h => (List.Sublist.map _ (List.take_sublist _ _)).subset h) ?_
   refine a0_ 0 rfl mv_ ?_
   refine a0_ 1 rfl mv_ ?_
   refine a0_ 2 rfl nc_ ?_
   refine a0_ 3 rfl (fa_ 0) ?_
   refine a0_ 5 rfl (lab_ 0 [_, _, _, _, _]) ?_
   refine AD0.later rfl ?_
   refine AD.two (i := 4) (j := 6) (by kernel_rfl) ?_ ?_
   ·skip
    refine at_ rfl (still_r1 (mk := Op.load 24) rfl ot (ld_blk (k := 2) (d := .v (.slice (some ⟨bx, 0, none⟩) (L.set i.toNat (⟨lowP p L.length, a62, c62, S62, ai2, ci2, Si2⟩ : PgO)).length cap)) rfl rfl Try.isAgg24 (by rw [List.length_set]; rfl))) ?_
    refine AD.one (i := 6) (by kernel_rfl) ?_
    refine AStep.bldS (pl := numD 0 [_]) (zvs := [.bool false, .slice none 0 0, .slice none 0 0, .slice none 0 0, .int .i64 0]) (ds := [_, _, _, _, _]) rfl (wants_plain rfl) rfl rfl Try.zeroValue44 Try.runUnderlying24 Try.sizeOf44 rfl rfl (by kernel_rfl) ⟨rfl, ot, trivial⟩ (by exact rfl) (fill_full (by exact rfl) (by exact rfl) (by exact rfl)) (fun b86 => ?_)
    refine AD.give (k := 0) (t := 86) (sz := 5) (m := 1) rfl lk rfl rfl rfl (Nat.le_refl _) (by decide) ?_
    refine AD.one (i := 7) (by kernel_rfl) ?_
    refine AStep.appendG (ls := (L.set i.toNat (⟨lowP p L.length, a62, c62, S62, ai2, ci2, Si2⟩ : PgO))) (new := [(⟨highP p, ak1, ck1, Sk1, ai1, ci1, Si1⟩ : PgO)]) (Sq := [⟨bx, 44, cap * 5, List.flatMap gO (L.set i.toNat (⟨lowP p L.length, a62, c62, S62, ai2, ci2, Si2⟩ : PgO))⟩]) gO_len gO_one rfl (wants_plain rfl) rfl rfl Try.underlying24 info44_Twe rfl (by decide) ot (ownL_row (by rw [List.length_set]; exact hxl) hxc) (perm_one (k := 3) rfl) ot (by simp) (by simp only [maxLen, List.length_set, List.length_cons, List.length_nil] at *; omega) (by simp only [List.length_set, List.length_cons, List.length_nil] at *; omega) (hT := by intro x0 hx0; have hx0 : x0 ∈ [b7, b6] := hx0; show x0 ∈ (b7 :: b6 :: _ : List Nat); simp only [List.mem_cons, List.not_mem_nil, or_false] at hx0 ⊢; omega) (fun b87 cp87 h187 h287 => ?_)
    refine a1_ 8 rfl nc_ ?_
    refine a1_ 9 rfl (fa_ 0) ?_
    refine AD.one (i := 10) (by kernel_rfl) ?_
    refine AStep.store (k := 3) (cs' := [_, _]) rfl (wants_plain rfl) rfl rfl ot rfl rfl ot rfl rfl Try.sizeOf24 rfl rfl rfl (by intro b hb; simp [bks, St.put] at hb ⊢; try first | exact hb | simp [hb] | (rcases hb with hb | hb <;> simp [hb]) | (rcases hb with hb | hb | hb <;> simp [hb])) ?_
    refine AD.wk (y := ⟨98, [(0, _), (8, _)], (_ :: ⟨b7, 44, 5, [_, _, _, _, _]⟩ :: ⟨b6, 44, 5, [_, _, _, _, _]⟩ :: ⟨b, 26, 2, [_, _]⟩ :: (S62 ++ (Si2 ++ (Si1 ++ (Sk1 ++ ((L.eraseIdx i.toNat).flatMap bO))))))⟩) (Wk.as_ rfl rfl ⟨lk, lk, trivial⟩) rfl ?_
    refine AD.done (by kernel_rfl) ?_
    refine CD.seq ?_
    refine CD.draw (bks _) (by kernel_rfl) (fun _ h => h) ?_
    refine a0_ 0 rfl mv_ ?_
    refine a0_ 2 rfl mv_ ?_
    refine a0_ 3 rfl nc_ ?_
    refine a0_ 4 rfl (fa_ 0) ?_
    refine a0_ 5 rfl (lb_ 3) ?_
    refine a0_ 6 rfl ln_ ?_
    refine a0_ 7 rfl (still_bin (r := .int .i64 (L.length : Nat)) rfl ot opd_const (bin_sub (by rw [List.length_append, List.length_set]; exact (show IntKind.wrap .i64 (((L.length + [(⟨highP p, ak1, ck1, Sk1, ai1, ci1, Si1⟩ : PgO)].length : Nat) : Int) - 1) = _ from by rw [show (((L.length + [(⟨highP p, ak1, ck1, Sk1, ai1, ci1, Si1⟩ : PgO)].length : Nat) : Int) - 1) = (L.length : Int) from by simp]; exact wrap_i64 (by omega) (by omega))))) ?_
    refine AD0.later rfl ?_
    refine AD.one (i := 1) (by kernel_rfl) ?_
    refine AStep.callP rfl (wants_plain rfl) rfl rfl rfl Try.call26 (cloneB_vp (upK p) (by rw [hup]; omega)) ⟨ot, trivial⟩ ?_
    have htl : (S62 ++ (Si2 ++ (Si1 ++ (Sk1 ++ ((L.eraseIdx i.toNat).flatMap bO))))).Perm (((L.set i.toNat (⟨lowP p L.length, a62, c62, S62, ai2, ci2, Si2⟩ : PgO)) ++ [(⟨highP p, ak1, ck1, Sk1, ai1, ci1, Si1⟩ : PgO)]).flatMap bO) := perm_cnt fun f__ => by have hq := perm_sum (perm_put bO hj (⟨lowP p L.length, a62, c62, S62, ai2, ci2, Si2⟩ : PgO)) f__; rw [List.flatMap_append, show [(⟨highP p, ak1, ck1, Sk1, ai1, ci1, Si1⟩ : PgO)].flatMap bO = Sk1 ++ (Si1 ++ []) from by simp [bO]]; simp only [show bO (⟨lowP p L.length, a62, c62, S62, ai2, ci2, Si2⟩ : PgO) = S62 ++ Si2 from rfl, List.map_append, List.map_cons, List.map_nil, List.sum_append, List.sum_cons, List.sum_nil] at *; omega
    refine AD.perm (S' := ⟨b7, 44, 5, gO (⟨highP p, ak1, ck1, Sk1, ai1, ci1, Si1⟩ : PgO)⟩ :: ⟨b6, 44, 5, gO (⟨lowP p L.length, a62, c62, S62, ai2, ci2, Si2⟩ : PgO)⟩ :: ⟨b, 26, 2, [.v (.slice (some ⟨b87, 0, none⟩) ((L.set i.toNat (⟨lowP p L.length, a62, c62, S62, ai2, ci2, Si2⟩ : PgO)) ++ [(⟨highP p, ak1, ck1, Sk1, ai1, ci1, Si1⟩ : PgO)]).length cp87), .v (.int .i64 root)]⟩ :: (([⟨b87, 44, cp87 * 5, List.flatMap gO ((L.set i.toNat (⟨lowP p L.length, a62, c62, S62, ai2, ci2, Si2⟩ : PgO)) ++ [(⟨highP p, ak1, ck1, Sk1, ai1, ci1, Si1⟩ : PgO)])⟩] : List Blk) ++ ((L.set i.toNat (⟨lowP p L.length, a62, c62, S62, ai2, ci2, Si2⟩ : PgO)) ++ [(⟨highP p, ak1, ck1, Sk1, ai1, ci1, Si1⟩ : PgO)]).flatMap bO)) (by exact (List.perm_middle (l₁ := [_, _, _])).symm.trans (List.Perm.cons _ (List.Perm.cons _ (List.Perm.cons _ (List.Perm.cons _ htl))))) ?_
    refine a1_ 8 rfl mv_ ?_
    refine a1_ 9 rfl mv_ ?_
    refine AD.wk (y := ⟨98, [(4, _), (5, _)], (⟨b7, 44, 5, [_, _, _, _, _]⟩ :: ⟨b6, 44, 5, [_, _, _, _, _]⟩ :: ⟨b, 26, 2, [_, _]⟩ :: (([⟨b87, 44, cp87 * 5, List.flatMap gO ((L.set i.toNat (⟨lowP p L.length, a62, c62, S62, ai2, ci2, Si2⟩ : PgO)) ++ [(⟨highP p, ak1, ck1, Sk1, ai1, ci1, Si1⟩ : PgO)])⟩] : List Blk) ++ ((L.set i.toNat (⟨lowP p L.length, a62, c62, S62, ai2, ci2, Si2⟩ : PgO)) ++ [(⟨highP p, ak1, ck1, Sk1, ai1, ci1, Si1⟩ : PgO)]).flatMap bO))⟩) (Wk.as_ rfl rfl ⟨lk, lk, trivial⟩) rfl ?_
    refine AD.done (by kernel_rfl) ?_
    refine CD.ret ?_
    refine ⟨.inr rfl, _, (⟨b, 26, 2, [.v (.slice (some ⟨b87, 0, none⟩) ((L.set i.toNat (⟨lowP p L.length, a62, c62, S62, ai2, ci2, Si2⟩ : PgO)) ++ [(⟨highP p, ak1, ck1, Sk1, ai1, ci1, Si1⟩ : PgO)]).length cp87), .v (.int .i64 root)]⟩ :: ([⟨b87, 44, cp87 * 5, List.flatMap gO ((L.set i.toNat (⟨lowP p L.length, a62, c62, S62, ai2, ci2, Si2⟩ : PgO)) ++ [(⟨highP p, ak1, ck1, Sk1, ai1, ci1, Si1⟩ : PgO)])⟩] ++ ((L.set i.toNat (⟨lowP p L.length, a62, c62, S62, ai2, ci2, Si2⟩ : PgO)) ++ [(⟨highP p, ak1, ck1, Sk1, ai1, ci1, Si1⟩ : PgO)]).flatMap bO)), (by repeat (first | exact List.Sublist.refl _ | apply List.Sublist.cons)), ret_two Try.results30 (res_tmp (Nat.le_of_ble_eq_true rfl) lk) (res_tmp (Nat.le_of_ble_eq_true rfl) lk), ?_⟩
    refine ⟨rfl, ((L.set i.toNat (⟨lowP p L.length, a62, c62, S62, ai2, ci2, Si2⟩ : PgO)) ++ [(⟨highP p, ak1, ck1, Sk1, ai1, ci1, Si1⟩ : PgO)]), some ⟨b87, 0, none⟩, cp87, [⟨b87, 44, cp87 * 5, List.flatMap gO ((L.set i.toNat (⟨lowP p L.length, a62, c62, S62, ai2, ci2, Si2⟩ : PgO)) ++ [(⟨highP p, ak1, ck1, Sk1, ai1, ci1, Si1⟩ : PgO)])⟩], ownL_row h187 h287, fun x hx => ?_, ?_, rfl⟩
    ·rcases List.mem_append.1 hx with hx | hx
     ·rcases List.mem_or_eq_of_mem_set hx with hx | rfl
      ·exact hok x hx
      ·exact ⟨ho62, hoi2⟩
     ·rw [List.mem_singleton] at hx; subst hx; exact ⟨hok1, hoi1⟩
    ·rw [List.map_append, List.map_set]; rfl
   ·skip
    refine AStep.bldS (pl := numD 0 [_]) (zvs := [.bool false, .slice none 0 0, .slice none 0 0, .slice none 0 0, .int .i64 0]) (ds := [_, _, _, _, _]) rfl (wants_plain rfl) rfl rfl Try.zeroValue44 Try.runUnderlying24 Try.sizeOf44 rfl rfl (by kernel_rfl) ⟨rfl, ot, trivial⟩ (by exact rfl) (fill_full (by exact rfl) (by exact rfl) (by exact rfl)) (fun b86 => ?_)
    refine AD.give (k := 0) (t := 86) (sz := 5) (m := 1) rfl lk rfl rfl rfl (Nat.le_refl _) (by decide) ?_
    refine AD.one (i := 4) (by kernel_rfl) ?_
    refine at_ rfl (still_r1 (mk := Op.load 24) rfl ot (ld_blk (k := 2) (d := .v (.slice (some ⟨bx, 0, none⟩) (L.set i.toNat (⟨lowP p L.length, a62, c62, S62, ai2, ci2, Si2⟩ : PgO)).length cap)) rfl rfl Try.isAgg24 (by rw [List.length_set]; rfl))) ?_
    refine AD.one (i := 7) (by kernel_rfl) ?_
    refine AStep.appendG (ls := (L.set i.toNat (⟨lowP p L.length, a62, c62, S62, ai2, ci2, Si2⟩ : PgO))) (new := [(⟨highP p, ak1, ck1, Sk1, ai1, ci1, Si1⟩ : PgO)]) (Sq := [⟨bx, 44, cap * 5, List.flatMap gO (L.set i.toNat (⟨lowP p L.length, a62, c62, S62, ai2, ci2, Si2⟩ : PgO))⟩]) gO_len gO_one rfl (wants_plain rfl) rfl rfl Try.underlying24 info44_Twe rfl (by decide) ot (ownL_row (by rw [List.length_set]; exact hxl) hxc) (perm_one (k := 3) rfl) ot (by simp) (by simp only [maxLen, List.length_set, List.length_cons, List.length_nil] at *; omega) (by simp only [List.length_set, List.length_cons, List.length_nil] at *; omega) (hT := by intro x0 hx0; have hx0 : x0 ∈ [b7, b6] := hx0; show x0 ∈ (b7 :: b6 :: _ : List Nat); simp only [List.mem_cons, List.not_mem_nil, or_false] at hx0 ⊢; omega) (fun b87 cp87 h187 h287 => ?_)
    refine a1_ 8 rfl nc_ ?_
    refine a1_ 9 rfl (fa_ 0) ?_
    refine AD.one (i := 10) (by kernel_rfl) ?_
    refine AStep.store (k := 3) (cs' := [_, _]) rfl (wants_plain rfl) rfl rfl ot rfl rfl ot rfl rfl Try.sizeOf24 rfl rfl rfl (by intro b hb; simp [bks, St.put] at hb ⊢; try first | exact hb | simp [hb] | (rcases hb with hb | hb <;> simp [hb]) | (rcases hb with hb | hb | hb <;> simp [hb])) ?_
    refine AD.wk (y := ⟨98, [(0, _), (8, _)], (_ :: ⟨b7, 44, 5, [_, _, _, _, _]⟩ :: ⟨b6, 44, 5, [_, _, _, _, _]⟩ :: ⟨b, 26, 2, [_, _]⟩ :: (S62 ++ (Si2 ++ (Si1 ++ (Sk1 ++ ((L.eraseIdx i.toNat).flatMap bO))))))⟩) (Wk.as_ rfl rfl ⟨lk, lk, trivial⟩) rfl ?_
    refine AD.done (by kernel_rfl) ?_
    refine CD.seq ?_
    refine CD.draw (bks _) (by kernel_rfl) (fun _ h => h) ?_
    refine a0_ 0 rfl mv_ ?_
    refine a0_ 2 rfl mv_ ?_
    refine a0_ 3 rfl nc_ ?_
    refine a0_ 4 rfl (fa_ 0) ?_
    refine a0_ 5 rfl (lb_ 3) ?_
    refine a0_ 6 rfl ln_ ?_
    refine a0_ 7 rfl (still_bin (r := .int .i64 (L.length : Nat)) rfl ot opd_const (bin_sub (by rw [List.length_append, List.length_set]; exact (show IntKind.wrap .i64 (((L.length + [(⟨highP p, ak1, ck1, Sk1, ai1, ci1, Si1⟩ : PgO)].length : Nat) : Int) - 1) = _ from by rw [show (((L.length + [(⟨highP p, ak1, ck1, Sk1, ai1, ci1, Si1⟩ : PgO)].length : Nat) : Int) - 1) = (L.length : Int) from by simp]; exact wrap_i64 (by omega) (by omega))))) ?_
    refine AD0.later rfl ?_
    refine AD.one (i := 1) (by kernel_rfl) ?_
    refine AStep.callP rfl (wants_plain rfl) rfl rfl rfl Try.call26 (cloneB_vp (upK p) (by rw [hup]; omega)) ⟨ot, trivial⟩ ?_
    have htl : (S62 ++ (Si2 ++ (Si1 ++ (Sk1 ++ ((L.eraseIdx i.toNat).flatMap bO))))).Perm (((L.set i.toNat (⟨lowP p L.length, a62, c62, S62, ai2, ci2, Si2⟩ : PgO)) ++ [(⟨highP p, ak1, ck1, Sk1, ai1, ci1, Si1⟩ : PgO)]).flatMap bO) := perm_cnt fun f__ => by have hq := perm_sum (perm_put bO hj (⟨lowP p L.length, a62, c62, S62, ai2, ci2, Si2⟩ : PgO)) f__; rw [List.flatMap_append, show [(⟨highP p, ak1, ck1, Sk1, ai1, ci1, Si1⟩ : PgO)].flatMap bO = Sk1 ++ (Si1 ++ []) from by simp [bO]]; simp only [show bO (⟨lowP p L.length, a62, c62, S62, ai2, ci2, Si2⟩ : PgO) = S62 ++ Si2 from rfl, List.map_append, List.map_cons, List.map_nil, List.sum_append, List.sum_cons, List.sum_nil] at *; omega
    refine AD.perm (S' := ⟨b7, 44, 5, gO (⟨highP p, ak1, ck1, Sk1, ai1, ci1, Si1⟩ : PgO)⟩ :: ⟨b6, 44, 5, gO (⟨lowP p L.length, a62, c62, S62, ai2, ci2, Si2⟩ : PgO)⟩ :: ⟨b, 26, 2, [.v (.slice (some ⟨b87, 0, none⟩) ((L.set i.toNat (⟨lowP p L.length, a62, c62, S62, ai2, ci2, Si2⟩ : PgO)) ++ [(⟨highP p, ak1, ck1, Sk1, ai1, ci1, Si1⟩ : PgO)]).length cp87), .v (.int .i64 root)]⟩ :: (([⟨b87, 44, cp87 * 5, List.flatMap gO ((L.set i.toNat (⟨lowP p L.length, a62, c62, S62, ai2, ci2, Si2⟩ : PgO)) ++ [(⟨highP p, ak1, ck1, Sk1, ai1, ci1, Si1⟩ : PgO)])⟩] : List Blk) ++ ((L.set i.toNat (⟨lowP p L.length, a62, c62, S62, ai2, ci2, Si2⟩ : PgO)) ++ [(⟨highP p, ak1, ck1, Sk1, ai1, ci1, Si1⟩ : PgO)]).flatMap bO)) (by exact (List.perm_middle (l₁ := [_, _, _])).symm.trans (List.Perm.cons _ (List.Perm.cons _ (List.Perm.cons _ (List.Perm.cons _ htl))))) ?_
    refine a1_ 8 rfl mv_ ?_
    refine a1_ 9 rfl mv_ ?_
    refine AD.wk (y := ⟨98, [(4, _), (5, _)], (⟨b7, 44, 5, [_, _, _, _, _]⟩ :: ⟨b6, 44, 5, [_, _, _, _, _]⟩ :: ⟨b, 26, 2, [_, _]⟩ :: (([⟨b87, 44, cp87 * 5, List.flatMap gO ((L.set i.toNat (⟨lowP p L.length, a62, c62, S62, ai2, ci2, Si2⟩ : PgO)) ++ [(⟨highP p, ak1, ck1, Sk1, ai1, ci1, Si1⟩ : PgO)])⟩] : List Blk) ++ ((L.set i.toNat (⟨lowP p L.length, a62, c62, S62, ai2, ci2, Si2⟩ : PgO)) ++ [(⟨highP p, ak1, ck1, Sk1, ai1, ci1, Si1⟩ : PgO)]).flatMap bO))⟩) (Wk.as_ rfl rfl ⟨lk, lk, trivial⟩) rfl ?_
    refine AD.done (by kernel_rfl) ?_
    refine CD.ret ?_
    refine ⟨.inr rfl, _, (⟨b, 26, 2, [.v (.slice (some ⟨b87, 0, none⟩) ((L.set i.toNat (⟨lowP p L.length, a62, c62, S62, ai2, ci2, Si2⟩ : PgO)) ++ [(⟨highP p, ak1, ck1, Sk1, ai1, ci1, Si1⟩ : PgO)]).length cp87), .v (.int .i64 root)]⟩ :: ([⟨b87, 44, cp87 * 5, List.flatMap gO ((L.set i.toNat (⟨lowP p L.length, a62, c62, S62, ai2, ci2, Si2⟩ : PgO)) ++ [(⟨highP p, ak1, ck1, Sk1, ai1, ci1, Si1⟩ : PgO)])⟩] ++ ((L.set i.toNat (⟨lowP p L.length, a62, c62, S62, ai2, ci2, Si2⟩ : PgO)) ++ [(⟨highP p, ak1, ck1, Sk1, ai1, ci1, Si1⟩ : PgO)]).flatMap bO)), (by repeat (first | exact List.Sublist.refl _ | apply List.Sublist.cons)), ret_two Try.results30 (res_tmp (Nat.le_of_ble_eq_true rfl) lk) (res_tmp (Nat.le_of_ble_eq_true rfl) lk), ?_⟩
    refine ⟨rfl, ((L.set i.toNat (⟨lowP p L.length, a62, c62, S62, ai2, ci2, Si2⟩ : PgO)) ++ [(⟨highP p, ak1, ck1, Sk1, ai1, ci1, Si1⟩ : PgO)]), some ⟨b87, 0, none⟩, cp87, [⟨b87, 44, cp87 * 5, List.flatMap gO ((L.set i.toNat (⟨lowP p L.length, a62, c62, S62, ai2, ci2, Si2⟩ : PgO)) ++ [(⟨highP p, ak1, ck1, Sk1, ai1, ci1, Si1⟩ : PgO)])⟩], ownL_row h187 h287, fun x hx => ?_, ?_, rfl⟩
    ·rcases List.mem_append.1 hx with hx | hx
     ·rcases List.mem_or_eq_of_mem_set hx with hx | rfl
      ·exact hok x hx
      ·exact ⟨ho62, hoi2⟩
     ·rw [List.mem_singleton] at hx; subst hx; exact ⟨hok1, hoi1⟩
    ·rw [List.map_append, List.map_set]; rfl
 ·skip
  refine at_ rfl (lb_ 2) ?_
  refine a1_ 6 rfl ln_ ?_
  refine AD.one (i := 1) (by kernel_rfl) ?_
  refine AStep.callP rfl (wants_plain rfl) rfl rfl rfl Try.call26 (cloneB_vp (upK p) (by rw [hup]; omega)) ⟨ot, trivial⟩ ?_
  refine a1_ 7 rfl (fa_ 3) ?_
  refine AD.one (i := 8) (by kernel_rfl) ?_
  refine AStep.store (k := 1) (cs' := [_, _, _, _, _]) rfl (wants_plain rfl) rfl rfl ot rfl rfl ot rfl rfl Try.sizeOf31 rfl rfl rfl (by intro b hb; simp [bks, St.put] at hb ⊢; try first | exact hb | simp [hb] | (rcases hb with hb | hb <;> simp [hb]) | (rcases hb with hb | hb | hb <;> simp [hb])) ?_
  refine a1_ 9 rfl (fa_ 4) ?_
  refine AD.one (i := 10) (by kernel_rfl) ?_
  refine AStep.store (k := 1) (cs' := [_, _, _, _, _]) rfl (wants_plain rfl) rfl rfl ot rfl rfl ot rfl rfl Try.sizeOf3 rfl rfl rfl (by intro b hb; simp [bks, St.put] at hb ⊢; try first | exact hb | simp [hb] | (rcases hb with hb | hb <;> simp [hb]) | (rcases hb with hb | hb | hb <;> simp [hb])) ?_
  refine AD.wk (y := ⟨98, [(0, _), (1, _), (6, _), (7, _), (8, _)], (⟨b7, 44, 5, [_, _, _, _, _]⟩ :: ⟨b6, 44, 5, [_, _, _, _, _]⟩ :: ⟨b, 26, 2, [_, _]⟩ :: _ :: (S62 ++ (Si2 ++ (Si1 ++ (Sk1 ++ ((L.eraseIdx i.toNat).flatMap bO))))))⟩) (Wk.as_ rfl rfl ⟨lk, lk, lk, lk, lk, trivial⟩) rfl ?_
  refine AD.done (by kernel_rfl) ?_
  refine CD.seq ?_
  refine CD.draw (bks (List.take 3 _)) (by kernel_rfl) (fun _ h => (List.Sublist.map _ (List.take_sublist _ _)).subset h) ?_
  refine a0_ 0 rfl mv_ ?_
  refine a0_ 1 rfl nc_ ?_
  refine a0_ 2 rfl (fa_ 0) ?_
  refine a0_ 3 rfl (lb_ 2) ?_
  refine a0_ 4 rfl mv_ ?_
  refine a0_ 5 rfl (lab_ 1 [_, _, _, _, _]) ?_
  refine a0_ 6 rfl (ix_ 5 (h := by first | exact .l (j := i.toNat) (Int.toNat_of_nonneg hi.1).symm hj | exact .r (j := i.toNat) (Int.toNat_of_nonneg hi.1).symm hj)) ?_
  refine AD0.later rfl ?_
  refine AD.one (i := 7) (by kernel_rfl) ?_
  refine AStep.storeAt (k := 3) (cs' := List.flatMap gO (L.set i.toNat (⟨lowP p L.length, a62, c62, S62, ai2, ci2, Si2⟩ : PgO))) rfl (wants_plain rfl) rfl rfl ot rfl rfl ot rfl rfl Try.sizeOf44 rfl (by show 0 + i.toNat * 5 + 5 ≤ (List.flatMap gO L).length; rw [fm_len gO_len]; omega) (by show setAll (L.flatMap gO) (0 + i.toNat * 5) (gO (⟨lowP p L.length, a62, c62, S62, ai2, ci2, Si2⟩ : PgO)) = _; rw [Nat.zero_add]; exact fm_set gO_len L (⟨lowP p L.length, a62, c62, S62, ai2, ci2, Si2⟩ : PgO) hj) (by intro b hb; simp [bks, St.put] at hb ⊢; try first | exact hb | simp [hb] | (rcases hb with hb | hb <;> simp [hb]) | (rcases hb with hb | hb | hb <;> simp [hb])) ?_
  refine AD.wk (y := ⟨98, [(0, _), (7, _), (8, _)], (⟨b7, 44, 5, [_, _, _, _, _]⟩ :: ⟨b6, 44, 5, [_, _, _, _, _]⟩ :: ⟨b, 26, 2, [_, _]⟩ :: _ :: (S62 ++ (Si2 ++ (Si1 ++ (Sk1 ++ ((L.eraseIdx i.toNat).flatMap bO))))))⟩) (Wk.as_ rfl rfl ⟨lk, lk, lk, trivial⟩) rfl ?_
  refine AD.done (by kernel_rfl) ?_
  refine CD.seq ?_
  refine CD.draw (bks (List.take 2 _)) (by kernel_rfl) (fun _ h => (List.Sublist.map _ (List.take_sublist _ _)).subset h) ?_
  refine a0_ 0 rfl mv_ ?_
  refine a0_ 1 rfl mv_ ?_
  refine a0_ 2 rfl nc_ ?_
  refine a0_ 3 rfl (fa_ 0) ?_
  refine a0_ 5 rfl (lab_ 0 [_, _, _, _, _]) ?_
  refine AD0.later rfl ?_
  refine AD.two (i := 4) (j := 6) (by kernel_rfl) ?_ ?_
  ·skip
   refine at_ rfl (still_r1 (mk := Op.load 24) rfl ot (ld_blk (k := 2) (d := .v (.slice (some ⟨bx, 0, none⟩) (L.set i.toNat (⟨lowP p L.length, a62, c62, S62, ai2, ci2, Si2⟩ : PgO)).length cap)) rfl rfl Try.isAgg24 (by rw [List.length_set]; rfl))) ?_
   refine AD.one (i := 6) (by kernel_rfl) ?_
   refine AStep.bldS (pl := numD 0 [_]) (zvs := [.bool false, .slice none 0 0, .slice none 0 0, .slice none 0 0, .int .i64 0]) (ds := [_, _, _, _, _]) rfl (wants_plain rfl) rfl rfl Try.zeroValue44 Try.runUnderlying24 Try.sizeOf44 rfl rfl (by kernel_rfl) ⟨rfl, ot, trivial⟩ (by exact rfl) (fill_full (by exact rfl) (by exact rfl) (by exact rfl)) (fun b86 => ?_)
   refine AD.give (k := 0) (t := 86) (sz := 5) (m := 1) rfl lk rfl rfl rfl (Nat.le_refl _) (by decide) ?_
   refine AD.one (i := 7) (by kernel_rfl) ?_
   refine AStep.appendG (ls := (L.set i.toNat (⟨lowP p L.length, a62, c62, S62, ai2, ci2, Si2⟩ : PgO))) (new := [(⟨highP p, ak1, ck1, Sk1, ai1, ci1, Si1⟩ : PgO)]) (Sq := [⟨bx, 44, cap * 5, List.flatMap gO (L.set i.toNat (⟨lowP p L.length, a62, c62, S62, ai2, ci2, Si2⟩ : PgO))⟩]) gO_len gO_one rfl (wants_plain rfl) rfl rfl Try.underlying24 info44_Twe rfl (by decide) ot (ownL_row (by rw [List.length_set]; exact hxl) hxc) (perm_one (k := 3) rfl) ot (by simp) (by simp only [maxLen, List.length_set, List.length_cons, List.length_nil] at *; omega) (by simp only [List.length_set, List.length_cons, List.length_nil] at *; omega) (hT := by intro x0 hx0; have hx0 : x0 ∈ [b7, b6] := hx0; show x0 ∈ (b7 :: b6 :: _ : List Nat); simp only [List.mem_cons, List.not_mem_nil, or_false] at hx0 ⊢; omega) (fun b87 cp87 h187 h287 => ?_)
   refine a1_ 8 rfl nc_ ?_
   refine a1_ 9 rfl (fa_ 0) ?_
   refine AD.one (i := 10) (by kernel_rfl) ?_
   refine AStep.store (k := 3) (cs' := [_, _]) rfl (wants_plain rfl) rfl rfl ot rfl rfl ot rfl rfl Try.sizeOf24 rfl rfl rfl (by intro b hb; simp [bks, St.put] at hb ⊢; try first | exact hb | simp [hb] | (rcases hb with hb | hb <;> simp [hb]) | (rcases hb with hb | hb | hb <;> simp [hb])) ?_
   refine AD.wk (y := ⟨98, [(0, _), (8, _)], (_ :: ⟨b7, 44, 5, [_, _, _, _, _]⟩ :: ⟨b6, 44, 5, [_, _, _, _, _]⟩ :: ⟨b, 26, 2, [_, _]⟩ :: (S62 ++ (Si2 ++ (Si1 ++ (Sk1 ++ ((L.eraseIdx i.toNat).flatMap bO))))))⟩) (Wk.as_ rfl rfl ⟨lk, lk, trivial⟩) rfl ?_
   refine AD.done (by kernel_rfl) ?_
   refine CD.seq ?_
   refine CD.draw (bks _) (by kernel_rfl) (fun _ h => h) ?_
   refine a0_ 0 rfl mv_ ?_
   refine a0_ 2 rfl mv_ ?_
   refine a0_ 3 rfl nc_ ?_
   refine a0_ 4 rfl (fa_ 0) ?_
   refine a0_ 5 rfl (lb_ 3) ?_
   refine a0_ 6 rfl ln_ ?_
   refine a0_ 7 rfl (still_bin (r := .int .i64 (L.length : Nat)) rfl ot opd_const (bin_sub (by rw [List.length_append, List.length_set]; exact (show IntKind.wrap .i64 (((L.length + [(⟨highP p, ak1, ck1, Sk1, ai1, ci1, Si1⟩ : PgO)].length : Nat) : Int) - 1) = _ from by rw [show (((L.length + [(⟨highP p, ak1, ck1, Sk1, ai1, ci1, Si1⟩ : PgO)].length : Nat) : Int) - 1) = (L.length : Int) from by simp]; exact wrap_i64 (by omega) (by omega))))) ?_
   refine AD0.later rfl ?_
   refine AD.one (i := 1) (by kernel_rfl) ?_
   refine AStep.callP rfl (wants_plain rfl) rfl rfl rfl Try.call26 (cloneB_vp (upK p) (by rw [hup]; omega)) ⟨ot, trivial⟩ ?_
   have htl : (S62 ++ (Si2 ++ (Si1 ++ (Sk1 ++ ((L.eraseIdx i.toNat).flatMap bO))))).Perm (((L.set i.toNat (⟨lowP p L.length, a62, c62, S62, ai2, ci2, Si2⟩ : PgO)) ++ [(⟨highP p, ak1, ck1, Sk1, ai1, ci1, Si1⟩ : PgO)]).flatMap bO) := perm_cnt fun f__ => by have hq := perm_sum (perm_put bO hj (⟨lowP p L.length, a62, c62, S62, ai2, ci2, Si2⟩ : PgO)) f__; rw [List.flatMap_append, show [(⟨highP p, ak1, ck1, Sk1, ai1, ci1, Si1⟩ : PgO)].flatMap bO = Sk1 ++ (Si1 ++ []) from by simp [bO]]; simp only [show bO (⟨lowP p L.length, a62, c62, S62, ai2, ci2, Si2⟩ : PgO) = S62 ++ Si2 from rfl, List.map_append, List.map_cons, List.map_nil, List.sum_append, List.sum_cons, List.sum_nil] at *; omega
   refine AD.perm (S' := ⟨b7, 44, 5, gO (⟨highP p, ak1, ck1, Sk1, ai1, ci1, Si1⟩ : PgO)⟩ :: ⟨b6, 44, 5, gO (⟨lowP p L.length, a62, c62, S62, ai2, ci2, Si2⟩ : PgO)⟩ :: ⟨b, 26, 2, [.v (.slice (some ⟨b87, 0, none⟩) ((L.set i.toNat (⟨lowP p L.length, a62, c62, S62, ai2, ci2, Si2⟩ : PgO)) ++ [(⟨highP p, ak1, ck1, Sk1, ai1, ci1, Si1⟩ : PgO)]).length cp87), .v (.int .i64 root)]⟩ :: (([⟨b87, 44, cp87 * 5, List.flatMap gO ((L.set i.toNat (⟨lowP p L.length, a62, c62, S62, ai2, ci2, Si2⟩ : PgO)) ++ [(⟨highP p, ak1, ck1, Sk1, ai1, ci1, Si1⟩ : PgO)])⟩] : List Blk) ++ ((L.set i.toNat (⟨lowP p L.length, a62, c62, S62, ai2, ci2, Si2⟩ : PgO)) ++ [(⟨highP p, ak1, ck1, Sk1, ai1, ci1, Si1⟩ : PgO)]).flatMap bO)) (by exact (List.perm_middle (l₁ := [_, _, _])).symm.trans (List.Perm.cons _ (List.Perm.cons _ (List.Perm.cons _ (List.Perm.cons _ htl))))) ?_
   refine a1_ 8 rfl mv_ ?_
   refine a1_ 9 rfl mv_ ?_
   refine AD.wk (y := ⟨98, [(4, _), (5, _)], (⟨b7, 44, 5, [_, _, _, _, _]⟩ :: ⟨b6, 44, 5, [_, _, _, _, _]⟩ :: ⟨b, 26, 2, [_, _]⟩ :: (([⟨b87, 44, cp87 * 5, List.flatMap gO ((L.set i.toNat (⟨lowP p L.length, a62, c62, S62, ai2, ci2, Si2⟩ : PgO)) ++ [(⟨highP p, ak1, ck1, Sk1, ai1, ci1, Si1⟩ : PgO)])⟩] : List Blk) ++ ((L.set i.toNat (⟨lowP p L.length, a62, c62, S62, ai2, ci2, Si2⟩ : PgO)) ++ [(⟨highP p, ak1, ck1, Sk1, ai1, ci1, Si1⟩ : PgO)]).flatMap bO))⟩) (Wk.as_ rfl rfl ⟨lk, lk, trivial⟩) rfl ?_
   refine AD.done (by kernel_rfl) ?_
   refine CD.ret ?_
   refine ⟨.inr rfl, _, (⟨b, 26, 2, [.v (.slice (some ⟨b87, 0, none⟩) ((L.set i.toNat (⟨lowP p L.length, a62, c62, S62, ai2, ci2, Si2⟩ : PgO)) ++ [(⟨highP p, ak1, ck1, Sk1, ai1, ci1, Si1⟩ : PgO)]).length cp87), .v (.int .i64 root)]⟩ :: ([⟨b87, 44, cp87 * 5, List.flatMap gO ((L.set i.toNat (⟨lowP p L.length, a62, c62, S62, ai2, ci2, Si2⟩ : PgO)) ++ [(⟨highP p, ak1, ck1, Sk1, ai1, ci1, Si1⟩ : PgO)])⟩] ++ ((L.set i.toNat (⟨lowP p L.length, a62, c62, S62, ai2, ci2, Si2⟩ : PgO)) ++ [(⟨highP p, ak1, ck1, Sk1, ai1, ci1, Si1⟩ : PgO)]).flatMap bO)), (by repeat (first | exact List.Sublist.refl _ | apply List.Sublist.cons)), ret_two Try.results30 (res_tmp (Nat.le_of_ble_eq_true rfl) lk) (res_tmp (Nat.le_of_ble_eq_true rfl) lk), ?_⟩
   refine ⟨rfl, ((L.set i.toNat (⟨lowP p L.length, a62, c62, S62, ai2, ci2, Si2⟩ : PgO)) ++ [(⟨highP p, ak1, ck1, Sk1, ai1, ci1, Si1⟩ : PgO)]), some ⟨b87, 0, none⟩, cp87, [⟨b87, 44, cp87 * 5, List.flatMap gO ((L.set i.toNat (⟨lowP p L.length, a62, c62, S62, ai2, ci2, Si2⟩ : PgO)) ++ [(⟨highP p, ak1, ck1, Sk1, ai1, ci1, Si1⟩ : PgO)])⟩], ownL_row h187 h287, fun x hx => ?_, ?_, rfl⟩
   ·rcases List.mem_append.1 hx with hx | hx
    ·rcases List.mem_or_eq_of_mem_set hx with hx | rfl
     ·exact hok x hx
     ·exact ⟨ho62, hoi2⟩
    ·rw [List.mem_singleton] at hx; subst hx; exact ⟨hok1, hoi1⟩
   ·rw [List.map_append, List.map_set]; rfl
  ·skip
   refine AStep.bldS (pl := numD 0 [_]) (zvs := [.bool false, .slice none 0 0, .slice none 0 0, .slice none 0 0, .int .i64 0]) (ds := [_, _, _, _, _]) rfl (wants_plain rfl) rfl rfl Try.zeroValue44 Try.runUnderlying24 Try.sizeOf44 rfl rfl (by kernel_rfl) ⟨rfl, ot, trivial⟩ (by exact rfl) (fill_full (by exact rfl) (by exact rfl) (by exact rfl)) (fun b86 => ?_)
   refine AD.give (k := 0) (t := 86) (sz := 5) (m := 1) rfl lk rfl rfl rfl (Nat.le_refl _) (by decide) ?_
   refine AD.one (i := 4) (by kernel_rfl) ?_
   refine at_ rfl (still_r1 (mk := Op.load 24) rfl ot (ld_blk (k := 2) (d := .v (.slice (some ⟨bx, 0, none⟩) (L.set i.toNat (⟨lowP p L.length, a62, c62, S62, ai2, ci2, Si2⟩ : PgO)).length cap)) rfl rfl Try.isAgg24 (by rw [List.length_set]; rfl))) ?_
   refine AD.one (i := 7) (by kernel_rfl) ?_
   refine AStep.appendG (ls := (L.set i.toNat (⟨lowP p L.length, a62, c62, S62, ai2, ci2, Si2⟩ : PgO))) (new := [(⟨highP p, ak1, ck1, Sk1, ai1, ci1, Si1⟩ : PgO)]) (Sq := [⟨bx, 44, cap * 5, List.flatMap gO (L.set i.toNat (⟨lowP p L.length, a62, c62, S62, ai2, ci2, Si2⟩ : PgO))⟩]) gO_len gO_one rfl (wants_plain rfl) rfl rfl Try.underlying24 info44_Twe rfl (by decide) ot (ownL_row (by rw [List.length_set]; exact hxl) hxc) (perm_one (k := 3) rfl) ot (by simp) (by simp only [maxLen, List.length_set, List.length_cons, List.length_nil] at *; omega) (by simp only [List.length_set, List.length_cons, List.length_nil] at *; omega) (hT := by intro x0 hx0; have hx0 : x0 ∈ [b7, b6] := hx0; show x0 ∈ (b7 :: b6 :: _ : List Nat); simp only [List.mem_cons, List.not_mem_nil, or_false] at hx0 ⊢; omega) (fun b87 cp87 h187 h287 => ?_)
   refine a1_ 8 rfl nc_ ?_
   refine a1_ 9 rfl (fa_ 0) ?_
   refine AD.one (i := 10) (by kernel_rfl) ?_
   refine AStep.store (k := 3) (cs' := [_, _]) rfl (wants_plain rfl) rfl rfl ot rfl rfl ot rfl rfl Try.sizeOf24 rfl rfl rfl (by intro b hb; simp [bks, St.put] at hb ⊢; try first | exact hb | simp [hb] | (rcases hb with hb | hb <;> simp [hb]) | (rcases hb with hb | hb | hb <;> simp [hb])) ?_
   refine AD.wk (y := ⟨98, [(0, _), (8, _)], (_ :: ⟨b7, 44, 5, [_, _, _, _, _]⟩ :: ⟨b6, 44, 5, [_, _, _, _, _]⟩ :: ⟨b, 26, 2, [_, _]⟩ :: (S62 ++ (Si2 ++ (Si1 ++ (Sk1 ++ ((L.eraseIdx i.toNat).flatMap bO))))))⟩) (Wk.as_ rfl rfl ⟨lk, lk, trivial⟩) rfl ?_
   refine AD.done (by kernel_rfl) ?_
   refine CD.seq ?_
   refine CD.draw (bks _) (by kernel_rfl) (fun _ h => h) ?_
   refine a0_ 0 rfl mv_ ?_
   refine a0_ 2 rfl mv_ ?_
   refine a0_ 3 rfl nc_ ?_
   refine a0_ 4 rfl (fa_ 0) ?_
   refine a0_ 5 rfl (lb_ 3) ?_
   refine a0_ 6 rfl ln_ ?_
   refine a0_ 7 rfl (still_bin (r := .int .i64 (L.length : Nat)) rfl ot opd_const (bin_sub (by rw [List.length_append, List.length_set]; exact (show IntKind.wrap .i64 (((L.length + [(⟨highP p, ak1, ck1, Sk1, ai1, ci1, Si1⟩ : PgO)].length : Nat) : Int) - 1) = _ from by rw [show (((L.length + [(⟨highP p, ak1, ck1, Sk1, ai1, ci1, Si1⟩ : PgO)].length : Nat) : Int) - 1) = (L.length : Int) from by simp]; exact wrap_i64 (by omega) (by omega))))) ?_
   refine AD0.later rfl ?_
   refine AD.one (i := 1) (by kernel_rfl) ?_
   refine AStep.callP rfl (wants_plain rfl) rfl rfl rfl Try.call26 (cloneB_vp (upK p) (by rw [hup]; omega)) ⟨ot, trivial⟩ ?_
   have htl : (S62 ++ (Si2 ++ (Si1 ++ (Sk1 ++ ((L.eraseIdx i.toNat).flatMap bO))))).Perm (((L.set i.toNat (⟨lowP p L.length, a62, c62, S62, ai2, ci2, Si2⟩ : PgO)) ++ [(⟨highP p, ak1, ck1, Sk1, ai1, ci1, Si1⟩ : PgO)]).flatMap bO) := perm_cnt fun f__ => by have hq := perm_sum (perm_put bO hj (⟨lowP p L.length, a62, c62, S62, ai2, ci2, Si2⟩ : PgO)) f__; rw [List.flatMap_append, show [(⟨highP p, ak1, ck1, Sk1, ai1, ci1, Si1⟩ : PgO)].flatMap bO = Sk1 ++ (Si1 ++ []) from by simp [bO]]; simp only [show bO (⟨lowP p L.length, a62, c62, S62, ai2, ci2, Si2⟩ : PgO) = S62 ++ Si2 from rfl, List.map_append, List.map_cons, List.map_nil, List.sum_append, List.sum_cons, List.sum_nil] at *; omega
   refine AD.perm (S' := ⟨b7, 44, 5, gO (⟨highP p, ak1, ck1, Sk1, ai1, ci1, Si1⟩ : PgO)⟩ :: ⟨b6, 44, 5, gO (⟨lowP p L.length, a62, c62, S62, ai2, ci2, Si2⟩ : PgO)⟩ :: ⟨b, 26, 2, [.v (.slice (some ⟨b87, 0, none⟩) ((L.set i.toNat (⟨lowP p L.length, a62, c62, S62, ai2, ci2, Si2⟩ : PgO)) ++ [(⟨highP p, ak1, ck1, Sk1, ai1, ci1, Si1⟩ : PgO)]).length cp87), .v (.int .i64 root)]⟩ :: (([⟨b87, 44, cp87 * 5, List.flatMap gO ((L.set i.toNat (⟨lowP p L.length, a62, c62, S62, ai2, ci2, Si2⟩ : PgO)) ++ [(⟨highP p, ak1, ck1, Sk1, ai1, ci1, Si1⟩ : PgO)])⟩] : List Blk) ++ ((L.set i.toNat (⟨lowP p L.length, a62, c62, S62, ai2, ci2, Si2⟩ : PgO)) ++ [(⟨highP p, ak1, ck1, Sk1, ai1, ci1, Si1⟩ : PgO)]).flatMap bO)) (by exact (List.perm_middle (l₁ := [_, _, _])).symm.trans (List.Perm.cons _ (List.Perm.cons _ (List.Perm.cons _ (List.Perm.cons _ htl))))) ?_
   refine a1_ 8 rfl mv_ ?_
   refine a1_ 9 rfl mv_ ?_
   refine AD.wk (y := ⟨98, [(4, _), (5, _)], (⟨b7, 44, 5, [_, _, _, _, _]⟩ :: ⟨b6, 44, 5, [_, _, _, _, _]⟩ :: ⟨b, 26, 2, [_, _]⟩ :: (([⟨b87, 44, cp87 * 5, List.flatMap gO ((L.set i.toNat (⟨lowP p L.length, a62, c62, S62, ai2, ci2, Si2⟩ : PgO)) ++ [(⟨highP p, ak1, ck1, Sk1, ai1, ci1, Si1⟩ : PgO)])⟩] : List Blk) ++ ((L.set i.toNat (⟨lowP p L.length, a62, c62, S62, ai2, ci2, Si2⟩ : PgO)) ++ [(⟨highP p, ak1, ck1, Sk1, ai1, ci1, Si1⟩ : PgO)]).flatMap bO))⟩) (Wk.as_ rfl rfl ⟨lk, lk, trivial⟩) rfl ?_
   refine AD.done (by kernel_rfl) ?_
   refine CD.ret ?_
   refine ⟨.inr rfl, _, (⟨b, 26, 2, [.v (.slice (some ⟨b87, 0, none⟩) ((L.set i.toNat (⟨lowP p L.length, a62, c62, S62, ai2, ci2, Si2⟩ : PgO)) ++ [(⟨highP p, ak1, ck1, Sk1, ai1, ci1, Si1⟩ : PgO)]).length cp87), .v (.int .i64 root)]⟩ :: ([⟨b87, 44, cp87 * 5, List.flatMap gO ((L.set i.toNat (⟨lowP p L.length, a62, c62, S62, ai2, ci2, Si2⟩ : PgO)) ++ [(⟨highP p, ak1, ck1, Sk1, ai1, ci1, Si1⟩ : PgO)])⟩] ++ ((L.set i.toNat (⟨lowP p L.length, a62, c62, S62, ai2, ci2, Si2⟩ : PgO)) ++ [(⟨highP p, ak1, ck1, Sk1, ai1, ci1, Si1⟩ : PgO)]).flatMap bO)), (by repeat (first | exact List.Sublist.refl _ | apply List.Sublist.cons)), ret_two Try.results30 (res_tmp (Nat.le_of_ble_eq_true rfl) lk) (res_tmp (Nat.le_of_ble_eq_true rfl) lk), ?_⟩
   refine ⟨rfl, ((L.set i.toNat (⟨lowP p L.length, a62, c62, S62, ai2, ci2, Si2⟩ : PgO)) ++ [(⟨highP p, ak1, ck1, Sk1, ai1, ci1, Si1⟩ : PgO)]), some ⟨b87, 0, none⟩, cp87, [⟨b87, 44, cp87 * 5, List.flatMap gO ((L.set i.toNat (⟨lowP p L.length, a62, c62, S62, ai2, ci2, Si2⟩ : PgO)) ++ [(⟨highP p, ak1, ck1, Sk1, ai1, ci1, Si1⟩ : PgO)])⟩], ownL_row h187 h287, fun x hx => ?_, ?_, rfl⟩
   ·rcases List.mem_append.1 hx with hx | hx
    ·rcases List.mem_or_eq_of_mem_set hx with hx | rfl
     ·exact hok x hx
     ·exact ⟨ho62, hoi2⟩
    ·rw [List.mem_singleton] at hx; subst hx; exact ⟨hok1, hoi1⟩
   ·rw [List.map_append, List.map_set]; rfl

end Go.Proofs.Ythnobhekodiciaa.Tw

namespace Go.Proofs.Ythnobhekodiciaa.V
open Go.RowKit
set_option linter.unusedVariables false
set_option linter.unusedSimpArgs false

variable {P : Program} {C : Ctx} {G : List (Nat × List Value)} {Q : Exit → St → Prop} {x : St} {ops : Array Oper} {l : List Oper} {o : Oper} {S1 T : List Nat} {fuel i : Nat} {ld : Array Bool}

/-- A row is told to its end: what is behind what one knows, is something. -/
def toEnd (B : Blk) : Blk := { B with cs := B.cs ++ List.replicate (B.size - B.cs.length) .junk }
theorem Wk.toEnd {n : Nat} {l : List (Nat × D)} {S : List Blk} {k : Nat} {B : Blk} (hk : S[k]? = some B) : Wk ⟨n, l, S⟩ ⟨n, l, S.set k (V.toEnd B)⟩ := fun C a w h => by
 have hbk : bks (S.set k (V.toEnd B)) = bks S := by
  unfold bks
  rw [List.map_set]
  have hlt : k < S.length := (List.getElem?_eq_some_iff.1 hk).1
  have : (S.map Blk.b)[k]'(by simpa using hlt) = B.b := by rw [List.getElem_map]; rw [(List.getElem?_eq_some_iff.1 hk).2]
  show (S.map Blk.b).set k B.b = _
  rw [← this, List.set_getElem_self]
 have hl : live C.X (S.set k (V.toEnd B)) = live C.X S := by funext b; unfold live; rw [hbk]
 refine ⟨h.defers, h.size, by simpa only [hl] using h.env, ⟨fun B' hB' => ?_, by rw [hbk]; exact h.own.apart⟩, by simpa only [hbk] using h.fr, h.ex, h.tab⟩
 rw [hl]
 rcases List.mem_or_eq_of_mem_set hB' with hB' | rfl
 ·exact h.own.at_ B' hB'
 ·obtain ⟨r0, cur, r1, r2, r3, r4⟩ := h.own.at_ B (List.mem_of_getElem? hk)
  have key : ∀ i (hi : i < (B.cs ++ List.replicate (B.size - B.cs.length) D.junk).length), ∃ u, cur[i]? = some u ∧ Rep w (live C.X S) (B.cs ++ List.replicate (B.size - B.cs.length) D.junk)[i] u := fun i hi => by
   have hi' := hi
   rw [List.length_append, List.length_replicate] at hi'
   rcases Nat.lt_or_ge i B.cs.length with q | q
   ·obtain ⟨u, hu, hq⟩ := r4 i q
    exact ⟨u, hu, by rw [List.getElem_append_left q]; exact hq⟩
   ·exact ⟨cur[i]'(by omega), Array.getElem?_eq_getElem (by omega), by rw [List.getElem_append_right q, List.getElem_replicate]; exact .junk _⟩
  refine ⟨r0, cur, r1, r2, ?_, key⟩
  show (B.cs ++ List.replicate (B.size - B.cs.length) D.junk).length ≤ B.size
  rw [List.length_append, List.length_replicate]; omega

/-- copy from one's own row to one's own row (which may be the same). -/
theorem eff_copy {d y : Operand} {t t2 e tt m m2 c b b2 k k2 od oy c2 : Nat} {B B2 : Blk} {new cs' : List D} (ho : o.op = .call { callee := .builtin .copy, args := #[d, y], argTypes := #[t, t2] }) (hd : o.dst = some tt)
    (ht : P.underlying t = some (.slice e)) (hi : (P.info? e).map (fun i => i.size) = some 1)
    (hs : opd x d = .v (.slice (some ⟨b, od, none⟩) m c)) (hk : x.S[k]? = some B) (hb : B.b = b) (hy : opd x y = .v (.slice (some ⟨b2, oy, none⟩) m2 c2)) (hk2 : x.S[k2]? = some B2) (hb2 : B2.b = b2)
    (hnew : (B2.cs.drop oy).take (Nat.min m2 m) = new) (hlen : new.length = Nat.min m2 m) (hone : ∀ d ∈ new, one d = true) (hl : od + new.length ≤ B.cs.length) (hcs : setAll B.cs od new = cs') (hne : isMap B.e = false := by rfl) (hne2 : isMap B2.e = false := by rfl) :
    Eff P G x o [b] (fun y => y = ⟨x.n, (tt, .v (.int .i64 (new.length : Nat))) :: x.env, x.S.set k { B with cs := cs' }⟩) := fun C a w K Q hG h hK => by
  subst hcs hb hb2
  obtain ⟨h0, cur, q1, q2, q3, q4⟩ := h.blk hk
  rw [ob_cells hne] at q1
  obtain ⟨h02, cur2, p1, p2, p3, p4⟩ := h.blk hk2
  rw [ob_cells hne2] at p1
  have hin : ∀ j, (hj : j < new.length) → ∃ hj2 : oy + j < B2.cs.length, new[j] = B2.cs[oy + j] := fun j hj => by
    have h2 : oy + j < B2.cs.length := by
      have := congrArg List.length hnew
      rw [List.length_take, List.length_drop] at this
      omega
    refine ⟨h2, ?_⟩
    have e2 : new[j]? = some B2.cs[oy + j] := by rw [← hnew, List.getElem?_take, if_pos (by omega), List.getElem?_drop, List.getElem?_eq_getElem h2]
    rw [List.getElem?_eq_getElem hj] at e2
    exact Option.some.inj e2
  let vs : List Value := (List.range new.length).map fun j => cur2.getD (oy + j) undef
  have hvl : vs.length = new.length := by simp [vs]
  have hv : ∀ j (hj : j < new.length), ∃ u, cur2[oy + j]? = some u ∧ vs[j]? = some u ∧ Rep w (live C.X x.S) new[j] u := fun j hj => by
    obtain ⟨h1, h3⟩ := hin j hj
    obtain ⟨u, hu, hq⟩ := p4 (oy + j) h1
    refine ⟨u, hu, ?_, h3 ▸ hq⟩
    simp [vs, hj, hu]
  have hr : RepL w (live C.X x.S) new vs := ⟨by rw [hvl], fun j h1 h2 => by
    obtain ⟨u, _, hu, hq⟩ := hv j h1
    rw [List.getElem?_eq_getElem h2] at hu
    rw [Option.some.inj hu]; exact hq⟩
  obtain ⟨s1, s2, s3⟩ := h.store (hne := hne) hk hr (o' := od) hl
  have hrun := run_copy_cells (P := P) w t t2 o.type e B.b od m c ⟨B2.b, oy, none⟩ m2 c2 vs ht hi (by rw [hvl, hlen]) (fun j u hu => by
      rw [Addr.add_mid]
      have hj : j < new.length := by rw [← hvl]; exact (List.getElem?_eq_some_iff.1 hu).1
      obtain ⟨u', hu1, hu2, _⟩ := hv j hj
      rw [hu2] at hu
      rw [← hu]; exact cell_blk p1 hu1) (fun j hj => by
      have : od + j < cur.size := by rw [hvl] at hj; omega
      rw [cell_blk q1 (u := cur[od + j]) (by simp [this])]; rfl) (fun j hj => by unfold World.frozen?; simp [q1]) (fun u hu => by
      obtain ⟨j, hj, rfl⟩ := List.mem_iff_getElem.1 hu
      have hj' : j < new.length := by omega
      exact (hr.2 j hj' hj).one_cell (hone _ (List.getElem_mem hj')))
  have hrun2 : (execOp a.eval o).run P w = .ok (.value (goInt vs.length)) (w.setCells B.b od vs) := by
    unfold execOp
    simp only [ho, resolve, invoke, builtin, Sem.run_bind, Sem.run_pure, Result.andThen_ok, List.map_toArray, List.map_cons, List.map_nil, h.flat hs, h.flat hy, hrun]
  unfold Oper.wp
  rw [hrun2, Oper.upon_value, hd]
  exact hK _ _ _ rfl (s1.put (by rw [hvl]; exact .v _)) s2 s3

theorem OD.copy {d y : Operand} {t t2 e tt m m2 c b b2 k k2 od oy c2 : Nat} {B B2 : Blk} {new cs' : List D} (hw : Wants ops x o true) (ho : o.op = .call { callee := .builtin .copy, args := #[d, y], argTypes := #[t, t2] }) (hd : o.dst = some tt)
  (ht : P.underlying t = some (.slice e)) (hi : (P.info? e).map (fun i => i.size) = some 1)
  (hs : opd x d = .v (.slice (some ⟨b, od, none⟩) m c)) (hk : x.S[k]? = some B) (hb : B.b = b) (hy : opd x y = .v (.slice (some ⟨b2, oy, none⟩) m2 c2)) (hk2 : x.S[k2]? = some B2) (hb2 : B2.b = b2)
  (hnew : (B2.cs.drop oy).take (Nat.min m2 m) = new) (hlen : new.length = Nat.min m2 m) (hone : ∀ d ∈ new, one d = true) (hl : od + new.length ≤ B.cs.length) (hcs : setAll B.cs od new = cs')
  (K : OD P C ops l ⟨x.n, (tt, .v (.int .i64 (new.length : Nat))) :: x.env, x.S.set k { B with cs := cs' }⟩ Q) (hne : isMap B.e = false := by rfl) (hne2 : isMap B2.e = false := by rfl) : OD P C ops (o :: l) x Q :=
 OD.eff hw (eff_copy (hne := hne) (hne2 := hne2) ho hd ht hi hs hk hb hy hk2 hb2 hnew hlen hone hl hcs) fun y hy => hy ▸ K

theorem AStep.copy {d y : Operand} {t t2 e tt m m2 c b b2 k k2 od oy c2 : Nat} {B B2 : Blk} {new cs' : List D} (hi' : ops[i]? = some o) (hw : Wants ops x o true) (ho : o.op = .call { callee := .builtin .copy, args := #[d, y], argTypes := #[t, t2] }) (hd : o.dst = some tt)
  (ht : P.underlying t = some (.slice e)) (hi : (P.info? e).map (fun i => i.size) = some 1)
  (hs : opd x d = .v (.slice (some ⟨b, od, none⟩) m c)) (hk : x.S[k]? = some B) (hb : B.b = b) (hy : opd x y = .v (.slice (some ⟨b2, oy, none⟩) m2 c2)) (hk2 : x.S[k2]? = some B2) (hb2 : B2.b = b2)
  (hnew : (B2.cs.drop oy).take (Nat.min m2 m) = new) (hlen : new.length = Nat.min m2 m) (hone : ∀ d ∈ new, one d = true) (hl : od + new.length ≤ B.cs.length) (hcs : setAll B.cs od new = cs') (hT : ∀ b ∈ T, b ∈ bks (x.S.eraseIdx k))
  (K : AD P C ops S1 T fuel (ld.setIfInBounds i true) ⟨x.n, (tt, .v (.int .i64 (new.length : Nat))) :: x.env, x.S.set k { B with cs := cs' }⟩ Q) (hne : isMap B.e = false := by rfl) (hne2 : isMap B2.e = false := by rfl) : AStep P C ops S1 T fuel ld x Q i :=
 AStep.eff hi' hw (eff_copy (hne := hne) (hne2 := hne2) ho hd ht hi hs hk hb hy hk2 hb2 hnew hlen hone hl hcs) (fun C a w hs b' hb' => hb ▸ away hs hk hT b' hb') (fun b' hb' => by
  have : b' = b := by simpa using hb'
  subst this; rw [← hb]; exact mem_bks hk) fun y hy => hy ▸ K

/-- append of a make where there is no room: a new row; what is behind what was there, is something. -/
theorem eff_appendZ {s y : Operand} {t tn e tt n m b cap bytes k : Nat} {kq kn : IntKind} {z : Value} {B : Blk} (ho : o.op = .call { callee := .builtin .append, args := #[s, y], argTypes := #[t, tn] }) (hd : o.dst = some tt)
    (ht : P.underlying t = some (.slice e)) (htn : P.underlying tn = some (.int kn)) (hi : (P.info? e).map (fun i => (i.zero, i.size, i.bytes)) = some (some z, 1, bytes)) (hzs : z.cells.size = 1)
    (hs : opd x s = .v (.slice (some ⟨b, 0, none⟩) n cap)) (hk : x.S[k]? = some B) (hb : B.b = b) (hl : n ≤ B.cs.length) (hy : opd x y = .v (.int kq m)) (hg : cap < n + m) (h0 : 0 < m) (h63 : n + m ≤ maxLen) (hbytes : (n + m) * bytes ≤ 140737488355328) (hne : isMap B.e = false := by rfl) (hne2 : isMap e = false := by rfl) :
    Eff P G x o [] (fun y => ∃ b' cap', n + m ≤ cap' ∧ cap' ≤ maxLen ∧ y = ⟨x.n, (tt, .v (.slice (some ⟨b', 0, none⟩) (n + m) cap')) :: x.env, ⟨b', e, cap' * 1, B.cs.take n⟩ :: x.S⟩) := fun C a w K Q hG h hK => by
  subst hb
  obtain ⟨i, hi1, hi2, hi3, hi4⟩ := info_at hi
  obtain ⟨r0, cur, r1, r2, r3, r4⟩ := h.blk hk
  rw [ob_cells hne] at r1
  have hcl : n ≤ cur.size := by omega
  have hold : (Builtin.firstCells i.size n (.slice (some ⟨B.b, 0, none⟩) n cap)).run P w.drew = .ok (cur.toList.take n).toArray w.drew := by
    rw [hi3]
    exact run_firstCells_some w.drew 1 n ⟨B.b, 0, none⟩ n cap (cur.toList.take n) (by simp; omega) (fun j v hj => by
      rw [Addr.add_mid]
      rw [List.getElem?_take] at hj
      split at hj
      · rw [Array.getElem?_toList] at hj
        have : w.drew.heap[B.b]? = some (.cells cur B.e (0, 0)) := r1
        exact cell_blk this (by rw [Nat.zero_add]; exact hj)
      · cases hj)
  have hrun := Lib.run_append_grow_zeros (P := P) w t tn o.type e i z kq kn ht htn hi1 hi2 (some ⟨B.b, 0, none⟩) n cap _ hold m h0 (by omega) hg (by simp only [maxLen] at h63; omega) (by rw [hi4]; exact Nat.le_trans (Nat.mul_le_mul_right _ (Nat.le_add_left m n)) (by omega)) (by rw [hi4]; exact growslice_fits hg hbytes)
  have h1 := grownCap_ge w (n + m) cap e
  have h2 := grownCap_le_maxLen w (n + m) cap e h63
  generalize grownCap w (n + m) cap e = cap' at hrun h1 h2
  generalize hROW : (cur.toList.take n).toArray ++ Builtin.zeroCells z.cells m ++ Builtin.zeroCells z.cells (cap' - (n + m)) = ROW at hrun
  have hzc : ∀ q, (Builtin.zeroCells z.cells q).size = q := fun q => by
    obtain ⟨u, hu⟩ : ∃ u, z.cells = #[u] := by
      have : z.cells.toList.length = 1 := by simpa using hzs
      obtain ⟨u, hu⟩ := List.length_eq_one_iff.1 this
      exact ⟨u, by rw [← Array.toArray_toList (xs := z.cells), hu]⟩
    simp [Builtin.zeroCells, hu]
  have hsz : ROW.size = cap' * 1 := by
    rw [← hROW, Array.size_append, Array.size_append, hzc, hzc]
    simp; omega
  have hrun2 : (execOp a.eval o).run P w = .ok (.value (.slice (some ⟨w.heap.size, 0, none⟩) (n + m) cap')) (w.drew.alloc (.cells ROW e)) := by
    unfold execOp
    simp only [ho, resolve, invoke, builtin, Sem.run_bind, Sem.run_pure, Result.andThen_ok, List.map_toArray, List.map_cons, List.map_nil, h.flat hs, h.flat hy, hrun]
  obtain ⟨s1, s2, s3⟩ := h.grown (w' := w.drew.alloc (.cells ROW e)) (t := tt) (m := n + m) (e := e) (sz := 1) (S := x.S) (cs := B.cs.take n) (row := none) (g := w.heap.size) (cap := cap') (cur := ROW) (hne := hne2) (List.Sublist.refl _) (fun k hk => by cases hk)
    ⟨rfl, rfl, rfl, by show w.heap.size ≤ (w.heap.push _).size; simp, fun k hk _ => getElem?_push_lt (w := w.drew) hk⟩ (.inr rfl) (by show w.heap.size < (w.heap.push _).size; simp) (by show (w.heap.push _)[w.heap.size]? = _; simp) hsz (by rw [List.length_take]; omega) (fun j hj => by
      have hj' : j < n := by rw [List.length_take] at hj; omega
      obtain ⟨u, hu, hq⟩ := r4 j (by omega)
      refine ⟨u, ?_, by rw [List.getElem_take]; exact hq⟩
      rw [← hROW, Array.append_assoc, Array.getElem?_append_left (by simp; omega)]
      simp [hj', hu])
  unfold Oper.wp
  rw [hrun2, Oper.upon_value, hd]
  exact hK _ _ _ ⟨_, _, h1, h2, rfl⟩ s1 s2 s3

theorem OD.appendZ {s y : Operand} {t tn e tt n m b cap bytes k : Nat} {kq kn : IntKind} {z : Value} {B : Blk} (hw : Wants ops x o true) (ho : o.op = .call { callee := .builtin .append, args := #[s, y], argTypes := #[t, tn] }) (hd : o.dst = some tt)
  (ht : P.underlying t = some (.slice e)) (htn : P.underlying tn = some (.int kn)) (hi : (P.info? e).map (fun i => (i.zero, i.size, i.bytes)) = some (some z, 1, bytes)) (hzs : z.cells.size = 1)
  (hs : opd x s = .v (.slice (some ⟨b, 0, none⟩) n cap)) (hk : x.S[k]? = some B) (hb : B.b = b) (hl : n ≤ B.cs.length) (hy : opd x y = .v (.int kq m)) (hg : cap < n + m) (h0 : 0 < m) (h63 : n + m ≤ maxLen) (hbytes : (n + m) * bytes ≤ 140737488355328)
  (K : ∀ b' cap', n + m ≤ cap' → cap' ≤ maxLen → OD P C ops l ⟨x.n, (tt, .v (.slice (some ⟨b', 0, none⟩) (n + m) cap')) :: x.env, ⟨b', e, cap' * 1, B.cs.take n⟩ :: x.S⟩ Q) (hne : isMap B.e = false := by rfl) (hne2 : isMap e = false := by rfl) : OD P C ops (o :: l) x Q :=
 OD.eff hw (eff_appendZ (hne := hne) (hne2 := hne2) ho hd ht htn hi hzs hs hk hb hl hy hg h0 h63 hbytes) fun y ⟨b', cap', h1, h2, hy⟩ => hy ▸ K b' cap' h1 h2

/-- slices.overlaps of two rows of one's own. -/
theorem eff_overlaps {f : FuncId} {fn : Func} {y z : Operand} {ts : Array TypeId} {t r e tt b oy m c b2 oz m2 c2 k k2 : Nat} {B B2 : Blk} (ho : o.op = .call { callee := .value (.func f), args := #[y, z], argTypes := ts }) (hd : o.dst = some tt)
    (hf : P.funcs[f]? = some fn) (hname : (fn.name == "runtime.NumGoroutine") = false) (hbd : fn.body.isNone = true) (hn : Extern.findNext fn = none) (he : Extern.find fn = some (Extern.SlicesOverlaps.overlaps #[t, t] #[r])) (ht : P.underlying t = some (.slice e)) (hz1 : ∀ w, (sizeOf e).run P w = .ok 1 w)
    (hy : opd x y = .v (.slice (some ⟨b, oy, none⟩) m c)) (hk : x.S[k]? = some B) (hb : B.b = b) (hz : opd x z = .v (.slice (some ⟨b2, oz, none⟩) m2 c2)) (hk2 : x.S[k2]? = some B2) (hb2 : B2.b = b2) (hkk : k ≠ k2) (hs2 : B2.size ≠ 0) (hne : isMap B.e = false := by rfl) (hne2 : isMap B2.e = false := by rfl) :
    Eff P G x o [] (fun s => s = x.put tt (.v (.bool false))) := fun C a w K Q hG h hK => by
  subst hb hb2
  obtain ⟨r0, cur, r1, r2, r3, r4⟩ := h.blk hk
  rw [ob_cells hne] at r1
  obtain ⟨p0, cur2, p1, p2, p3, p4⟩ := h.blk hk2
  rw [ob_cells hne2] at p1
  have hnb : B.b ≠ B2.b := fun e => by
    have hnd := h.own.apart
    have l1 := (List.getElem?_eq_some_iff.1 hk).1
    have l2 := (List.getElem?_eq_some_iff.1 hk2).1
    have e1 : (bks x.S)[k]? = some B.b := by unfold bks; rw [List.getElem?_map, hk]; rfl
    have e2 : (bks x.S)[k2]? = some B2.b := by unfold bks; rw [List.getElem?_map, hk2]; rfl
    obtain ⟨q1, e1⟩ := List.getElem?_eq_some_iff.1 e1
    obtain ⟨q2, e2⟩ := List.getElem?_eq_some_iff.1 e2
    rcases Nat.lt_trichotomy k k2 with q | q | q
    · exact List.pairwise_iff_getElem.1 hnd k k2 q1 q2 q (by rw [e1, e2, e])
    · exact hkk q
    · exact List.pairwise_iff_getElem.1 hnd k2 k q2 q1 q (by rw [e1, e2, e])
  have hc : (callFunc f #[a.eval y, a.eval z]).run P w = .ok (.value (.bool false)) w := by
    rw [h.flat hy, h.flat hz, run_callFunc_extern hf hname hbd hn he, Lib.run_overlaps_apart w t r e ht 1 hz1 ⟨B.b, oy, none⟩ ⟨B2.b, oz, none⟩ m c m2 c2 hnb B.e B2.e cur.size cur2.size (by simp [World.shape?, r1]) (by simp [World.shape?, p1]) (by omega) (by unfold World.frozen?; simp [r1]) (by unfold World.frozen?; simp [r1])]
    rfl
  unfold Oper.wp
  have hrun : (execOp a.eval o).run P w = .ok (.value (.bool false)) w := by
    unfold execOp
    have ef : a.eval (.func f) = .func (.func f) #[] #[] := rfl
    simp only [ho, resolve, ef, Deferred.ofValue, Sem.run_bind, Sem.run_pure, Result.andThen_ok, invoke]
    simp [hc]
  rw [hrun, Oper.upon_value, hd]
  exact hK _ _ _ rfl (h.put (.v _)) (Chg.refl _ _) (Fr.refl _ _)

theorem OD.overlaps {f : FuncId} {fn : Func} {y z : Operand} {ts : Array TypeId} {t r e tt b oy m c b2 oz m2 c2 k k2 : Nat} {B B2 : Blk} (hw : Wants ops x o true) (ho : o.op = .call { callee := .value (.func f), args := #[y, z], argTypes := ts }) (hd : o.dst = some tt)
  (hf : P.funcs[f]? = some fn) (hname : (fn.name == "runtime.NumGoroutine") = false) (hbd : fn.body.isNone = true) (hn : Extern.findNext fn = none) (he : Extern.find fn = some (Extern.SlicesOverlaps.overlaps #[t, t] #[r])) (ht : P.underlying t = some (.slice e)) (hz1 : ∀ w, (sizeOf e).run P w = .ok 1 w)
  (hy : opd x y = .v (.slice (some ⟨b, oy, none⟩) m c)) (hk : x.S[k]? = some B) (hb : B.b = b) (hz : opd x z = .v (.slice (some ⟨b2, oz, none⟩) m2 c2)) (hk2 : x.S[k2]? = some B2) (hb2 : B2.b = b2) (hkk : k ≠ k2) (hs2 : B2.size ≠ 0)
  (K : OD P C ops l (x.put tt (.v (.bool false))) Q) (hne : isMap B.e = false := by rfl) (hne2 : isMap B2.e = false := by rfl) : OD P C ops (o :: l) x Q :=
 OD.eff hw (eff_overlaps (hne := hne) (hne2 := hne2) ho hd hf hname hbd hn he ht hz1 hy hk hb hz hk2 hb2 hkk hs2) fun y hy => hy ▸ K

/-- How much room a row has. -/
theorem still_cap {t e : TypeId} {ad : Option Addr} {len cap : Nat} {y : Operand} {ts : Array TypeId} (ho : o.op = .call { callee := .builtin .cap, args := #[y], argTypes := ts }) (ht : ts = #[t]) (hy : opd x y = .v (.slice ad len cap))
    (hu : ∀ w, (underlying t).run P w = .ok (.slice e) w) : Still P G x o .none (.v (.int .i64 cap)) := fun C a w _ h => ⟨_, .v _, fun w' _ => by
  subst ht
  unfold execOp
  simp [ho, resolve, invoke, builtin, Builtin.cap_, h.flat hy, hu, goInt]⟩

end Go.Proofs.Ythnobhekodiciaa.V

namespace Go.Proofs.Ythnobhekodiciaa.Tw
open Go.RowKit V Go.Proofs.Ythnobhekodiciaa.Tr Pk
set_option linter.unusedVariables false
set_option linter.unusedSimpArgs false

/-- A list with one more at a place. -/
def insF {α : Type} (q : List α) (i : Nat) (a : α) : List α := q.take i ++ a :: q.drop i
theorem insF_len {α : Type} {q : List α} {i : Nat} {a : α} (hi : i ≤ q.length) : (insF q i a).length = q.length + 1 := by unfold insF; rw [List.length_append, List.length_take, List.length_cons, List.length_drop]; omega
theorem insF_end {α : Type} {q : List α} {a : α} : insF q q.length a = q ++ [a] := by unfold insF; rw [List.take_length, List.drop_length]
theorem insF_flat {α : Type} {g : α → List D} (hg : ∀ a, (g a).length = 1) {q : List α} {i : Nat} {a : α} : (insF q i a).flatMap g = (q.flatMap g).take i ++ (g a ++ (q.flatMap g).drop i) := by
 have h1 := fm_take hg q i; have h2 := fm_drop hg q i
 rw [Nat.mul_one] at h1 h2
 unfold insF; rw [List.flatMap_append, List.flatMap_cons, h1, h2]
theorem setAll_mid {A J ds : List D} {off : Nat} (hA : A.length = off) (hl : ds.length ≤ J.length) : setAll (A ++ J) off ds = A ++ (ds ++ J.drop ds.length) := by
 rw [setAll_eq _ _ _ (by rw [List.length_append]; omega), List.take_left' hA, List.append_assoc, ← List.drop_drop, List.drop_left' hA]
theorem fill_new {T R c J : List D} {i : Nat} (hT : T.length = i) (hc : c.length = 1) (hJ : R.length + 1 ≤ J.length) : T ++ (c ++ R) <+: setAll (setAll (T ++ J) i c) (i + 1) R := by
 rw [setAll_mid hT (by omega), show T ++ (c ++ J.drop c.length) = (T ++ c) ++ J.drop c.length from (List.append_assoc _ _ _).symm, setAll_mid (A := T ++ c) (by rw [List.length_append]; omega) (by rw [List.length_drop]; omega)]
 exact ⟨_, by simp only [List.append_assoc]; rfl⟩
theorem fill_in {T R c J : List D} {i : Nat} (hT : T.length = i) (hc : c.length = 1) (hJ : 1 ≤ J.length) : T ++ (c ++ R) <+: setAll (setAll ((T ++ R) ++ J) (i + 1) R) i c := by
 obtain ⟨X1, X2, hX, h1⟩ : ∃ X1 X2, R ++ J = X1 ++ X2 ∧ X1.length = 1 := ⟨(R ++ J).take 1, (R ++ J).drop 1, (List.take_append_drop 1 _).symm, by rw [List.length_take, List.length_append]; omega⟩
 have h2 : R.length ≤ X2.length := by have := congrArg List.length hX; rw [List.length_append, List.length_append] at this; omega
 have e1 : (T ++ R) ++ J = (T ++ X1) ++ X2 := by rw [List.append_assoc, hX, ← List.append_assoc]
 have e2 : (T ++ X1) ++ (R ++ X2.drop R.length) = T ++ (X1 ++ (R ++ X2.drop R.length)) := List.append_assoc _ _ _
 rw [e1, setAll_mid (A := T ++ X1) (by rw [List.length_append]; omega) h2, e2, setAll_mid hT (by rw [List.length_append]; omega), List.drop_left' (by omega)]
 exact ⟨X2.drop R.length, by simp only [List.append_assoc]⟩
theorem junk_len {α : Type} (n : Nat) (x : α) : (List.replicate n x).length = n := List.length_replicate
variable {G : List (Nat × List Value)}

theorem infsinsertK_vc : (Try.prog.info? 31).map (fun i => i.size) = some 1 := by kernel_rfl

theorem info31_Tw8 : (Try.prog.info? 31).map (fun i => (i.zero, i.size, i.bytes)) = some (some (.slice none 0 0), 1, 24) := by kernel_rfl

set_option maxHeartbeats 4000000 in
set_option maxRecDepth 100000 in
theorem insertK_vc (q : List K) (i : Nat) (a : K) (cap b bv : Nat) (hi : i ≤ q.length) (hc : q.length ≤ cap) (hm : cap ≤ maxLen) (hs : q.length ≤ 1000) : VC Try.prog G 28 [.v (.slice (some ⟨b, 0, none⟩) q.length cap), .v (.int .i64 (i : Nat)), .v (.slice (some ⟨bv, 0, none⟩) 1 1)] [⟨bv, 31, 1 * 1, cK a⟩, ⟨b, 31, cap * 1, q.flatMap cK⟩] (fun r S => ∃ ad cap', r = .v (.slice ad (q.length + 1) cap') ∧ OwnL 31 1 ((insF q i a).flatMap cK) (insF q i a).length ad cap' S) := by
 refine VC.body Try.func28 rfl Try.ntmps28 (Nat.le_of_ble_eq_true rfl) fun X0 w0 S00 => ?_
 refine sr_ ?_
 refine os_ mv_ ?_
 refine nm_ [0, 1, 2] ?_
 refine sr_ ?_
 refine os_ mv_ ?_
 refine os_ mv_ ?_
 refine OD.still (wants_plain rfl) rfl (still_rs (l := i) rfl ot ⟨_, ot⟩ trivial (by first | exact sl_tail rfl cK_len (fun h => by cases h) Try.runUnderlying42 Try.sizeOf31 (by omega) | exact sl_row (fun _ => rfl) Try.runUnderlying42 Try.sizeOf31 (by omega) | exact sl_rowG (fun h => by cases h) (fun _ => rfl) Try.runUnderlying42 Try.sizeOf31 (by omega) (by omega) | exact sl_list (fun h => by cases h) (fun _ => rfl) Try.runUnderlying42 Try.sizeOf31 (by omega) (by omega))) ?_
 refine OD.wk (Wk.as_ (n := 95) (l' := [(0, _), (1, _), (2, _)]) (S' := (⟨bv, 31, 1, [_]⟩ :: [⟨b, 31, cap * 1, q.flatMap cK⟩])) rfl rfl ⟨lk, lk, lk, trivial⟩) ?_
 refine OD.nil ?_
 refine sr_ ?_
 refine os_ mv_ ?_
 refine os_ ln_ ?_
 refine os_ mv_ ?_
 refine nm_ [0, 1, 2, 7] ?_
 refine CD.seq ?_
 refine sr_ ?_
 refine os_ mv_ ?_
 refine os_ bn_ ?_
 refine nm_ [0, 1, 2, 7, 16] ?_
 refine CD.cond ot (fun hc0 => ?_) (fun hc0 => ?_)
 ·exact absurd hc0 (by simp at *)
 ·have hc0' := hc0
  (try simp only [V.cnd, ne_eq] at hc0')
  refine CD.skip ?_
  refine sr_ ?_
  refine os_ mv_ ?_
  refine os_ ln_ ?_
  refine os_ mv_ ?_
  refine nm_ [0, 1, 2, 7, 8] ?_
  refine CD.seq ?_
  refine sr_ ?_
  refine os_ mv_ ?_
  refine os_ mv_ ?_
  refine os_ bn_ ?_
  refine nm_ [0, 1, 2, 7, 8, 22] ?_
  refine CD.cond ot (fun hc1 => ?_) (fun hc1 => ?_)
  ·have hc1' := hc1
   (try simp only [V.cnd, ne_eq] at hc1')
   obtain rfl : i = q.length := by simp at *; omega
   refine sr_ ?_
   refine os_ mv_ ?_
   refine os_ mv_ ?_
   refine OD.give (k := 0) (t := 24) (sz := 1) (m := 1) rfl lk rfl rfl rfl (Nat.le_refl _) (by decide) ?_
   refine OD.appendG (ls := q) (new := [a]) (Sq := [⟨b, 31, cap * 1, q.flatMap cK⟩]) cK_len cK_one (wants_plain rfl) rfl rfl Try.underlying42 info31_Tw8 rfl (by decide) ot (ownL_row hc hm) (perm_r11 (A := [])) ot (by simp) (by simp [maxLen]; omega) (by simp; omega) (fun b25 cp25 h125 h225 => ?_)
   refine OD.perm (perm_q11 (S1 := [⟨b25, 31, cp25 * 1, List.flatMap cK (q ++ [a])⟩]) (A := [])) ?_
   refine os_ mv_ ?_
   refine OD.wk (Wk.as_ (n := 95) (l' := [(6, _)]) (S' := ([⟨b25, 31, cp25 * 1, List.flatMap cK (q ++ [a])⟩])) rfl rfl ⟨lk, trivial⟩) ?_
   refine OD.nil ?_
   refine CD.ret ?_
   refine ⟨.inr rfl, _, [⟨b25, 31, cp25 * 1, List.flatMap cK (q ++ [a])⟩], List.Sublist.refl _, ret_one Try.results28 (res_tmp (Nat.le_of_ble_eq_true rfl) lk), ?_⟩
   exact ⟨_, _, by rw [List.length_append]; rfl, by rw [insF_end]; exact ownL_row h125 h225⟩
  ·have hc1' := hc1
   (try simp only [V.cnd, ne_eq] at hc1')
   have hlt : i < q.length := by omega
   have hQ : (q.flatMap cK).length = q.length := by rw [fm_len cK_len]; omega
   have hTl : ((q.flatMap cK).take i).length = i := by rw [List.length_take]; omega
   have hRl : ((q.flatMap cK).drop i).length = q.length - i := by rw [List.length_drop]; omega
   have hon : ∀ d ∈ (q.flatMap cK), V.one d = true := fm_one cK_one _
   refine CD.skip ?_
   refine CD.seq ?_
   refine sr_ ?_
   refine os_ mv_ ?_
   refine os_ mv_ ?_
   refine os_ bn_ ?_
   refine os_ mv_ ?_
   refine OD.still (wants_plain rfl) rfl (still_cap rfl rfl ot Try.runUnderlying42) ?_
   refine os_ bn_ ?_
   refine OD.wk (Wk.as_ (n := 95) (l' := [(0, _), (1, _), (2, _), (7, _), (8, _), (31, _)]) (S' := (⟨bv, 31, 1, [_]⟩ :: [⟨b, 31, cap * 1, q.flatMap cK⟩])) rfl rfl ⟨lk, lk, lk, lk, lk, lk, trivial⟩) ?_
   refine OD.nil ?_
   refine CD.cond ot (fun hc2 => ?_) (fun hc2 => ?_)
   ·have hc2' := hc2
    (try simp only [V.cnd, ne_eq] at hc2')
    have hof3 : offs cap (i) 1 0 = i := by unfold offs; rw [if_neg (by omega)]; omega
    have hmn : Nat.min (q.length - i) (q.length + 1 - (i + 1)) = q.length - i := Nat.min_eq_left (by omega)
    refine sr_ ?_
    refine os_ mv_ ?_
    refine os_ mv_ ?_
    refine OD.still (wants_plain rfl) rfl (still_rs (l := 0) (h := i) rfl ot trivial ⟨_, ot⟩ (by first | exact sl_head cK_len (fun h => by cases h) Try.runUnderlying42 Try.sizeOf31 (by omega) | exact sl_row (fun h => by cases h) Try.runUnderlying42 Try.sizeOf31 (by omega) | exact sl_rowG (fun _ => rfl) (fun h => by cases h) Try.runUnderlying42 Try.sizeOf31 (by omega) (by omega) | exact sl_list (fun _ => rfl) (fun h => by cases h) Try.runUnderlying42 Try.sizeOf31 (by omega) (by omega))) ?_
    refine os_ mv_ ?_
    refine os_ mv_ ?_
    refine os_ bn_ ?_
    refine os_ mv_ ?_
    refine os_ bn_ ?_
    refine OD.appendZ (n := i) (m := q.length + 1 - i) (k := 1) (wants_plain rfl) rfl rfl Try.underlying42 Try.underlying3 info31_Tw8 rfl ot rfl rfl (by show i ≤ (q.flatMap cK).length; omega) (Eq.trans ot (congrArg (fun z => D.v (.int .i64 z)) (show ((q.length : Int) + (1 : Nat) - (i : Int)) = ((q.length + 1 - i : Nat) : Int) by omega))) (by omega) (by omega) (by simp only [maxLen]; omega) (by omega) (fun b40 cp40 h140 h240 => ?_)
    have hnn : i + (q.length + 1 - i) = q.length + 1 := by omega
    rw [hnn] at h140 ⊢
    refine os_ mv_ ?_
    refine OD.wk (Wk.as_ (n := 95) (l' := [(0, _), (1, _), (2, _), (7, _), (9, _)]) (S' := (_ :: ⟨bv, 31, 1, [_]⟩ :: [⟨b, 31, cap * 1, q.flatMap cK⟩])) rfl rfl ⟨lk, lk, lk, lk, lk, trivial⟩) ?_
    refine OD.nil ?_
    refine sr_ ?_
    refine os_ mv_ ?_
    refine os_ mv_ ?_
    refine OD.still (wants_plain rfl) rfl (still_rs (l := i) (h := q.length + 1) rfl ot ⟨_, ot⟩ trivial (by first | exact sl_tail rfl cK_len (fun h => by cases h) Try.runUnderlying42 Try.sizeOf31 (by omega) | exact sl_row (fun _ => rfl) Try.runUnderlying42 Try.sizeOf31 (by omega) | exact sl_rowG (fun h => by cases h) (fun _ => rfl) Try.runUnderlying42 Try.sizeOf31 (by omega) (by omega) | exact sl_list (fun h => by cases h) (fun _ => rfl) Try.runUnderlying42 Try.sizeOf31 (by omega) (by omega))) ?_
    have hof : offs cp40 (i) 1 0 = i := by unfold offs; rw [if_neg (by omega)]; omega
    rw [hof]
    refine os_ mv_ ?_
    have hof2 : offs cp40 (i + 1) 1 0 = i + 1 := by unfold offs; rw [if_neg (by omega)]; omega
    refine OD.wk (Wk.toEnd (k := 0) rfl) ?_
    refine OD.copy (k := 0) (k2 := 1) (od := i) (new := cK a) (cs' := setAll ((q.flatMap cK).take i ++ List.replicate (cp40 * 1 - ((q.flatMap cK).take i).length) D.junk) i (cK a)) (wants_plain rfl) rfl rfl Try.underlying42 infsinsertK_vc ot rfl rfl ot rfl rfl (by show List.take (Nat.min 1 (q.length + 1 - i)) (cK a) = _; rw [show Nat.min 1 (q.length + 1 - i) = 1 from Nat.min_eq_left (by omega)]; rfl) (Nat.min_eq_left (by omega : 1 ≤ q.length + 1 - i)).symm (fun d hd => List.all_eq_true.1 (cK_one a) d hd) (by show i + 1 ≤ ((q.flatMap cK).take i ++ List.replicate (cp40 * 1 - ((q.flatMap cK).take i).length) D.junk).length; rw [List.length_append, junk_len, hTl]; omega) rfl ?_
    refine OD.wk (Wk.as_ (n := 95) (l' := [(0, _), (1, _), (7, _), (9, _)]) (S' := (_ :: ⟨bv, 31, 1, [_]⟩ :: [⟨b, 31, cap * 1, q.flatMap cK⟩])) rfl rfl ⟨lk, lk, lk, lk, trivial⟩) ?_
    refine OD.nil ?_
    refine CD.seq ?_
    refine CD.draw (bks (List.eraseIdx _ 0)) (by kernel_rfl) (fun _ h => (List.Sublist.map _ (List.eraseIdx_sublist _ 0)).subset h) ?_
    refine a0_ 0 rfl mv_ ?_
    refine a0_ 1 rfl mv_ ?_
    refine a0_ 2 rfl mv_ ?_
    refine a0_ 3 rfl bn_ ?_
    refine a0_ 4 rfl (still_rs (l := i + 1) (h := q.length + 1) rfl ot ⟨_, ot⟩ trivial (by first | exact sl_tail rfl cK_len (fun h => by cases h) Try.runUnderlying42 Try.sizeOf31 (by omega) | exact sl_row (fun _ => rfl) Try.runUnderlying42 Try.sizeOf31 (by omega) | exact sl_rowG (fun h => by cases h) (fun _ => rfl) Try.runUnderlying42 Try.sizeOf31 (by omega) (by omega) | exact sl_list (fun h => by cases h) (fun _ => rfl) Try.runUnderlying42 Try.sizeOf31 (by omega) (by omega))) ?_
    refine a0_ 5 rfl mv_ ?_
    refine a0_ 6 rfl mv_ ?_
    refine a0_ 7 rfl (still_rs (l := i) (h := q.length) rfl ot ⟨_, ot⟩ trivial (by first | exact sl_tail rfl cK_len (fun h => by cases h) Try.runUnderlying42 Try.sizeOf31 (by omega) | exact sl_row (fun _ => rfl) Try.runUnderlying42 Try.sizeOf31 (by omega) | exact sl_rowG (fun h => by cases h) (fun _ => rfl) Try.runUnderlying42 Try.sizeOf31 (by omega) (by omega) | exact sl_list (fun h => by cases h) (fun _ => rfl) Try.runUnderlying42 Try.sizeOf31 (by omega) (by omega))) ?_
    refine AD0.later rfl ?_
    refine AD.one (i := 8) (by kernel_rfl) ?_
    refine AStep.copy (k := 0) (k2 := 2) (od := offs cp40 (i + 1) 1 0) (oy := offs cap i 1 0) (new := (q.flatMap cK).drop i) (cs' := setAll (setAll ((q.flatMap cK).take i ++ List.replicate (cp40 * 1 - ((q.flatMap cK).take i).length) D.junk) i (cK a)) (i + 1) ((q.flatMap cK).drop i)) rfl (wants_plain rfl) rfl rfl Try.underlying42 infsinsertK_vc ot rfl rfl ot rfl rfl (by show List.take (Nat.min (q.length - i) (q.length + 1 - (i + 1))) (List.drop (offs cap i 1 0) (q.flatMap cK)) = _; rw [hof3, hmn, List.take_of_length_le (by omega)]) (by show _ = Nat.min (q.length - i) (q.length + 1 - (i + 1)); rw [hmn, hRl]) (fun d hd => hon d (List.mem_of_mem_drop hd)) (by show offs cp40 (i + 1) 1 0 + _ ≤ (setAll ((q.flatMap cK).take i ++ List.replicate (cp40 * 1 - ((q.flatMap cK).take i).length) D.junk) i (cK a)).length; rw [hof2, hRl, setAll_length, List.length_append, junk_len, hTl]; omega) (by show setAll (setAll ((q.flatMap cK).take i ++ List.replicate (cp40 * 1 - ((q.flatMap cK).take i).length) D.junk) i (cK a)) (offs cp40 (i + 1) 1 0) _ = _; rw [hof2]) (by intro b hb; simp [bks, St.put] at hb ⊢; try first | exact hb | simp [hb] | (rcases hb with hb | hb <;> simp [hb]) | (rcases hb with hb | hb | hb <;> simp [hb])) ?_
    refine AD.wk (y := ⟨95, [(9, _)], (_ :: ⟨bv, 31, 1, [_]⟩ :: [⟨b, 31, cap * 1, q.flatMap cK⟩])⟩) (Wk.as_ rfl rfl ⟨lk, trivial⟩) rfl ?_
    refine AD.done (by kernel_rfl) ?_
    refine sr_ ?_
    refine os_ mv_ ?_
    refine OD.shrink (k := 0) (cs' := (insF q i a).flatMap cK) rfl (by rw [insF_flat cK_len]; exact fill_new hTl rfl (by rw [junk_len, hRl, hTl]; omega)) ?_
    refine os_ mv_ ?_
    refine OD.wk (Wk.as_ (n := 95) (l' := [(6, _)]) (S' := (_ :: ⟨bv, 31, 1, [_]⟩ :: [⟨b, 31, cap * 1, q.flatMap cK⟩])) rfl rfl ⟨lk, trivial⟩) ?_
    refine OD.nil ?_
    refine CD.ret ?_
    refine ⟨.inr rfl, _, [⟨b40, 31, cp40 * 1, (insF q i a).flatMap cK⟩], (List.Sublist.cons_cons _ (List.nil_sublist _)), ret_one Try.results28 (res_tmp (Nat.le_of_ble_eq_true rfl) lk), ?_⟩
    exact ⟨_, _, rfl, ownL_row (by rw [insF_len hi]; exact h140) h240⟩
   ·have hc2' := hc2
    (try simp only [V.cnd, ne_eq] at hc2')
    have hof3 : offs cap (i) 1 0 = i := by unfold offs; rw [if_neg (by omega)]; omega
    have hof2 : offs cap (i + 1) 1 0 = i + 1 := by unfold offs; rw [if_neg (by omega)]; omega
    have hmn : Nat.min (q.length + 1 - i) (q.length + 1 - (i + 1)) = q.length - i := by rw [show q.length + 1 - (i + 1) = q.length - i from by omega]; exact Nat.min_eq_right (by omega)
    refine CD.skip ?_
    refine sr_ ?_
    refine os_ mv_ ?_
    refine os_ mv_ ?_
    refine os_ mv_ ?_
    refine os_ bn_ ?_
    refine OD.still (wants_plain rfl) rfl (still_rs (l := 0) (h := q.length + 1) rfl ot trivial ⟨_, ot⟩ (by first | exact sl_head cK_len (fun h => by cases h) Try.runUnderlying42 Try.sizeOf31 (by omega) | exact sl_row (fun h => by cases h) Try.runUnderlying42 Try.sizeOf31 (by omega) | exact sl_rowG (fun _ => rfl) (fun h => by cases h) Try.runUnderlying42 Try.sizeOf31 (by omega) (by omega) | exact sl_list (fun _ => rfl) (fun h => by cases h) Try.runUnderlying42 Try.sizeOf31 (by omega) (by omega))) ?_
    refine os_ mv_ ?_
    refine OD.wk (Wk.as_ (n := 95) (l' := [(0, _), (1, _), (2, _), (7, _), (8, _)]) (S' := (⟨bv, 31, 1, [_]⟩ :: [⟨b, 31, cap * 1, q.flatMap cK⟩])) rfl rfl ⟨lk, lk, lk, lk, lk, trivial⟩) ?_
    refine OD.nil ?_
    refine CD.seq ?_
    refine sr_ ?_
    refine os_ mv_ ?_
    refine os_ mv_ ?_
    refine os_ mv_ ?_
    refine os_ mv_ ?_
    refine os_ bn_ ?_
    refine OD.still (wants_plain rfl) rfl (still_rs (l := i + 1) (h := q.length + 1) rfl ot ⟨_, ot⟩ trivial (by first | exact sl_tail rfl cK_len (fun h => by cases h) Try.runUnderlying42 Try.sizeOf31 (by omega) | exact sl_row (fun _ => rfl) Try.runUnderlying42 Try.sizeOf31 (by omega) | exact sl_rowG (fun h => by cases h) (fun _ => rfl) Try.runUnderlying42 Try.sizeOf31 (by omega) (by omega) | exact sl_list (fun h => by cases h) (fun _ => rfl) Try.runUnderlying42 Try.sizeOf31 (by omega) (by omega))) ?_
    refine OD.wk (Wk.toEnd (k := 1) rfl) ?_
    refine OD.overlaps (r := 4) (k := 0) (k2 := 1) (wants_plain rfl) rfl rfl Try.func42 (by kernel_rfl) (by kernel_rfl) (by kernel_rfl) (by kernel_rfl) Try.underlying42 Try.sizeOf31 ot rfl rfl ot rfl rfl (by decide) (by show cap * 1 ≠ 0; omega) ?_
    refine os_ un_ ?_
    refine OD.wk (Wk.as_ (n := 95) (l' := [(0, _), (1, _), (2, _), (7, _), (8, _), (68, _)]) (S' := [⟨bv, 31, 1, [_]⟩, _]) rfl rfl ⟨lk, lk, lk, lk, lk, lk, trivial⟩) ?_
    refine OD.nil ?_
    refine CD.cond ot (fun hc3 => ?_) (fun hc3 => ?_)
    ·have hc3' := hc3
     (try simp only [V.cnd, ne_eq] at hc3')
     refine CD.seq ?_
     refine CD.draw (bks (List.eraseIdx _ 1)) (by kernel_rfl) (fun _ h => (List.Sublist.map _ (List.eraseIdx_sublist _ 1)).subset h) ?_
     refine a0_ 0 rfl mv_ ?_
     refine a0_ 1 rfl mv_ ?_
     refine a0_ 2 rfl mv_ ?_
     refine a0_ 3 rfl bn_ ?_
     refine a0_ 4 rfl (still_rs (l := i + 1) (h := q.length + 1) rfl ot ⟨_, ot⟩ trivial (by first | exact sl_tail rfl cK_len (fun h => by cases h) Try.runUnderlying42 Try.sizeOf31 (by omega) | exact sl_row (fun _ => rfl) Try.runUnderlying42 Try.sizeOf31 (by omega) | exact sl_rowG (fun h => by cases h) (fun _ => rfl) Try.runUnderlying42 Try.sizeOf31 (by omega) (by omega) | exact sl_list (fun h => by cases h) (fun _ => rfl) Try.runUnderlying42 Try.sizeOf31 (by omega) (by omega))) ?_
     refine a0_ 5 rfl mv_ ?_
     refine a0_ 6 rfl mv_ ?_
     refine a0_ 7 rfl (still_rs (l := i) (h := q.length + 1) rfl ot ⟨_, ot⟩ trivial (by first | exact sl_tail rfl cK_len (fun h => by cases h) Try.runUnderlying42 Try.sizeOf31 (by omega) | exact sl_row (fun _ => rfl) Try.runUnderlying42 Try.sizeOf31 (by omega) | exact sl_rowG (fun h => by cases h) (fun _ => rfl) Try.runUnderlying42 Try.sizeOf31 (by omega) (by omega) | exact sl_list (fun h => by cases h) (fun _ => rfl) Try.runUnderlying42 Try.sizeOf31 (by omega) (by omega))) ?_
     refine AD0.later rfl ?_
     refine AD.one (i := 8) (by kernel_rfl) ?_
     refine AStep.copy (k := 1) (k2 := 1) (od := offs cap (i + 1) 1 0) (oy := offs cap i 1 0) (new := (q.flatMap cK).drop i) (cs' := setAll ((q.flatMap cK) ++ List.replicate (cap * 1 - (q.flatMap cK).length) D.junk) (i + 1) ((q.flatMap cK).drop i)) rfl (wants_plain rfl) rfl rfl Try.underlying42 infsinsertK_vc ot rfl rfl ot rfl rfl (by show List.take (Nat.min (q.length + 1 - i) (q.length + 1 - (i + 1))) (List.drop (offs cap i 1 0) ((q.flatMap cK) ++ List.replicate (cap * 1 - (q.flatMap cK).length) D.junk)) = _; rw [hof3, hmn, List.drop_append_of_le_length (by omega), List.take_left' hRl]) (by show _ = Nat.min (q.length + 1 - i) (q.length + 1 - (i + 1)); rw [hmn, hRl]) (fun d hd => hon d (List.mem_of_mem_drop hd)) (by show offs cap (i + 1) 1 0 + _ ≤ ((q.flatMap cK) ++ List.replicate (cap * 1 - (q.flatMap cK).length) D.junk).length; rw [hof2, hRl, List.length_append, junk_len, hQ]; omega) (by show setAll ((q.flatMap cK) ++ List.replicate (cap * 1 - (q.flatMap cK).length) D.junk) (offs cap (i + 1) 1 0) _ = _; rw [hof2]) (by intro b hb; simp [bks, St.put] at hb ⊢; try first | exact hb | simp [hb] | (rcases hb with hb | hb <;> simp [hb]) | (rcases hb with hb | hb | hb <;> simp [hb])) ?_
     refine AD.wk (y := ⟨95, [(0, _), (1, _), (2, _)], [⟨bv, 31, 1, [_]⟩, _]⟩) (Wk.as_ rfl rfl ⟨lk, lk, lk, trivial⟩) rfl ?_
     refine AD.done (by kernel_rfl) ?_
     refine sr_ ?_
     refine os_ mv_ ?_
     refine os_ mv_ ?_
     refine OD.still (wants_plain rfl) rfl (still_rs (l := i) (h := q.length + 1) rfl ot ⟨_, ot⟩ trivial (by first | exact sl_tail rfl cK_len (fun h => by cases h) Try.runUnderlying42 Try.sizeOf31 (by omega) | exact sl_row (fun _ => rfl) Try.runUnderlying42 Try.sizeOf31 (by omega) | exact sl_rowG (fun h => by cases h) (fun _ => rfl) Try.runUnderlying42 Try.sizeOf31 (by omega) (by omega) | exact sl_list (fun h => by cases h) (fun _ => rfl) Try.runUnderlying42 Try.sizeOf31 (by omega) (by omega))) ?_
     refine os_ mv_ ?_
     refine OD.copy (k := 1) (k2 := 0) (od := offs cap i 1 0) (new := cK a) (cs' := setAll (setAll ((q.flatMap cK) ++ List.replicate (cap * 1 - (q.flatMap cK).length) D.junk) (i + 1) ((q.flatMap cK).drop i)) i (cK a)) (wants_plain rfl) rfl rfl Try.underlying42 infsinsertK_vc ot rfl rfl ot rfl rfl (by show List.take (Nat.min 1 (q.length + 1 - i)) (cK a) = _; rw [show Nat.min 1 (q.length + 1 - i) = 1 from Nat.min_eq_left (by omega)]; rfl) (Nat.min_eq_left (by omega : 1 ≤ q.length + 1 - i)).symm (fun d hd => List.all_eq_true.1 (cK_one a) d hd) (by show offs cap i 1 0 + 1 ≤ (setAll ((q.flatMap cK) ++ List.replicate (cap * 1 - (q.flatMap cK).length) D.junk) (i + 1) ((q.flatMap cK).drop i)).length; rw [hof3, setAll_length, List.length_append, junk_len, hQ]; omega) (by show setAll (setAll ((q.flatMap cK) ++ List.replicate (cap * 1 - (q.flatMap cK).length) D.junk) (i + 1) ((q.flatMap cK).drop i)) (offs cap i 1 0) _ = _; rw [hof3]) ?_
     refine OD.wk (Wk.as_ (n := 95) (l' := [(0, _)]) (S' := [⟨bv, 31, 1, [_]⟩, _]) rfl rfl ⟨lk, trivial⟩) ?_
     refine OD.nil ?_
     refine sr_ ?_
     refine os_ mv_ ?_
     refine OD.shrink (k := 1) (cs' := (insF q i a).flatMap cK) rfl (by rw [insF_flat cK_len]; show _ <+: setAll (setAll ((q.flatMap cK) ++ _) (i + 1) ((q.flatMap cK).drop i)) i (cK a); rw [show (q.flatMap cK) ++ List.replicate (cap * 1 - (q.flatMap cK).length) D.junk = ((q.flatMap cK).take i ++ (q.flatMap cK).drop i) ++ List.replicate (cap * 1 - (q.flatMap cK).length) D.junk from by rw [List.take_append_drop]]; exact fill_in hTl rfl (by rw [junk_len, hQ]; omega)) ?_
     refine os_ mv_ ?_
     refine OD.wk (Wk.as_ (n := 95) (l' := [(6, _)]) (S' := [⟨bv, 31, 1, [_]⟩, _]) rfl rfl ⟨lk, trivial⟩) ?_
     refine OD.nil ?_
     refine CD.ret ?_
     refine ⟨.inr rfl, _, [⟨b, 31, cap * 1, (insF q i a).flatMap cK⟩], (List.Sublist.cons _ (List.Sublist.refl _)), ret_one Try.results28 (res_tmp (Nat.le_of_ble_eq_true rfl) lk), ?_⟩
     exact ⟨_, _, rfl, ownL_row (by rw [insF_len hi]; omega) hm⟩
    ·exact absurd hc3 (by simp at *)

theorem infsinsertI_vc : (Try.prog.info? 3).map (fun i => i.size) = some 1 := by kernel_rfl

theorem info3_Tw8 : (Try.prog.info? 3).map (fun i => (i.zero, i.size, i.bytes)) = some (some (.int .i64 0), 1, 8) := by kernel_rfl

set_option maxHeartbeats 4000000 in
set_option maxRecDepth 100000 in
theorem insertI_vc (q : List Int) (i : Nat) (a : Int) (cap b bv : Nat) (hi : i ≤ q.length) (hc : q.length ≤ cap) (hm : cap ≤ maxLen) (hs : q.length ≤ 1000) : VC Try.prog G 29 [.v (.slice (some ⟨b, 0, none⟩) q.length cap), .v (.int .i64 (i : Nat)), .v (.slice (some ⟨bv, 0, none⟩) 1 1)] [⟨bv, 3, 1 * 1, cI a⟩, ⟨b, 3, cap * 1, q.flatMap cI⟩] (fun r S => ∃ ad cap', r = .v (.slice ad (q.length + 1) cap') ∧ OwnL 3 1 ((insF q i a).flatMap cI) (insF q i a).length ad cap' S) := by
 refine VC.body Try.func29 rfl Try.ntmps29 (Nat.le_of_ble_eq_true rfl) fun X0 w0 S00 => ?_
 refine sr_ ?_
 refine os_ mv_ ?_
 refine nm_ [0, 1, 2] ?_
 refine sr_ ?_
 refine os_ mv_ ?_
 refine os_ mv_ ?_
 refine OD.still (wants_plain rfl) rfl (still_rs (l := i) rfl ot ⟨_, ot⟩ trivial (by first | exact sl_tail rfl cI_len (fun h => by cases h) Try.runUnderlying22 Try.sizeOf3 (by omega) | exact sl_row (fun _ => rfl) Try.runUnderlying22 Try.sizeOf3 (by omega) | exact sl_rowG (fun h => by cases h) (fun _ => rfl) Try.runUnderlying22 Try.sizeOf3 (by omega) (by omega) | exact sl_list (fun h => by cases h) (fun _ => rfl) Try.runUnderlying22 Try.sizeOf3 (by omega) (by omega))) ?_
 refine OD.wk (Wk.as_ (n := 95) (l' := [(0, _), (1, _), (2, _)]) (S' := (⟨bv, 3, 1, [_]⟩ :: [⟨b, 3, cap * 1, q.flatMap cI⟩])) rfl rfl ⟨lk, lk, lk, trivial⟩) ?_
 refine OD.nil ?_
 refine sr_ ?_
 refine os_ mv_ ?_
 refine os_ ln_ ?_
 refine os_ mv_ ?_
 refine nm_ [0, 1, 2, 7] ?_
 refine CD.seq ?_
 refine sr_ ?_
 refine os_ mv_ ?_
 refine os_ bn_ ?_
 refine nm_ [0, 1, 2, 7, 16] ?_
 refine CD.cond ot (fun hc0 => ?_) (fun hc0 => ?_)
 ·exact absurd hc0 (by simp at *)
 ·have hc0' := hc0
  (try simp only [V.cnd, ne_eq] at hc0')
  refine CD.skip ?_
  refine sr_ ?_
  refine os_ mv_ ?_
  refine os_ ln_ ?_
  refine os_ mv_ ?_
  refine nm_ [0, 1, 2, 7, 8] ?_
  refine CD.seq ?_
  refine sr_ ?_
  refine os_ mv_ ?_
  refine os_ mv_ ?_
  refine os_ bn_ ?_
  refine nm_ [0, 1, 2, 7, 8, 22] ?_
  refine CD.cond ot (fun hc1 => ?_) (fun hc1 => ?_)
  ·have hc1' := hc1
   (try simp only [V.cnd, ne_eq] at hc1')
   obtain rfl : i = q.length := by simp at *; omega
   refine sr_ ?_
   refine os_ mv_ ?_
   refine os_ mv_ ?_
   refine OD.give (k := 0) (t := 24) (sz := 1) (m := 1) rfl lk rfl rfl rfl (Nat.le_refl _) (by decide) ?_
   refine OD.appendG (ls := q) (new := [a]) (Sq := [⟨b, 3, cap * 1, q.flatMap cI⟩]) cI_len cI_one (wants_plain rfl) rfl rfl Try.underlying22 info3_Tw8 rfl (by decide) ot (ownL_row hc hm) (perm_r11 (A := [])) ot (by simp) (by simp [maxLen]; omega) (by simp; omega) (fun b25 cp25 h125 h225 => ?_)
   refine OD.perm (perm_q11 (S1 := [⟨b25, 3, cp25 * 1, List.flatMap cI (q ++ [a])⟩]) (A := [])) ?_
   refine os_ mv_ ?_
   refine OD.wk (Wk.as_ (n := 95) (l' := [(6, _)]) (S' := ([⟨b25, 3, cp25 * 1, List.flatMap cI (q ++ [a])⟩])) rfl rfl ⟨lk, trivial⟩) ?_
   refine OD.nil ?_
   refine CD.ret ?_
   refine ⟨.inr rfl, _, [⟨b25, 3, cp25 * 1, List.flatMap cI (q ++ [a])⟩], List.Sublist.refl _, ret_one Try.results29 (res_tmp (Nat.le_of_ble_eq_true rfl) lk), ?_⟩
   exact ⟨_, _, by rw [List.length_append]; rfl, by rw [insF_end]; exact ownL_row h125 h225⟩
  ·have hc1' := hc1
   (try simp only [V.cnd, ne_eq] at hc1')
   have hlt : i < q.length := by omega
   have hQ : (q.flatMap cI).length = q.length := by rw [fm_len cI_len]; omega
   have hTl : ((q.flatMap cI).take i).length = i := by rw [List.length_take]; omega
   have hRl : ((q.flatMap cI).drop i).length = q.length - i := by rw [List.length_drop]; omega
   have hon : ∀ d ∈ (q.flatMap cI), V.one d = true := fm_one cI_one _
   refine CD.skip ?_
   refine CD.seq ?_
   refine sr_ ?_
   refine os_ mv_ ?_
   refine os_ mv_ ?_
   refine os_ bn_ ?_
   refine os_ mv_ ?_
   refine OD.still (wants_plain rfl) rfl (still_cap rfl rfl ot Try.runUnderlying22) ?_
   refine os_ bn_ ?_
   refine OD.wk (Wk.as_ (n := 95) (l' := [(0, _), (1, _), (2, _), (7, _), (8, _), (31, _)]) (S' := (⟨bv, 3, 1, [_]⟩ :: [⟨b, 3, cap * 1, q.flatMap cI⟩])) rfl rfl ⟨lk, lk, lk, lk, lk, lk, trivial⟩) ?_
   refine OD.nil ?_
   refine CD.cond ot (fun hc2 => ?_) (fun hc2 => ?_)
   ·have hc2' := hc2
    (try simp only [V.cnd, ne_eq] at hc2')
    have hof3 : offs cap (i) 1 0 = i := by unfold offs; rw [if_neg (by omega)]; omega
    have hmn : Nat.min (q.length - i) (q.length + 1 - (i + 1)) = q.length - i := Nat.min_eq_left (by omega)
    refine sr_ ?_
    refine os_ mv_ ?_
    refine os_ mv_ ?_
    refine OD.still (wants_plain rfl) rfl (still_rs (l := 0) (h := i) rfl ot trivial ⟨_, ot⟩ (by first | exact sl_head cI_len (fun h => by cases h) Try.runUnderlying22 Try.sizeOf3 (by omega) | exact sl_row (fun h => by cases h) Try.runUnderlying22 Try.sizeOf3 (by omega) | exact sl_rowG (fun _ => rfl) (fun h => by cases h) Try.runUnderlying22 Try.sizeOf3 (by omega) (by omega) | exact sl_list (fun _ => rfl) (fun h => by cases h) Try.runUnderlying22 Try.sizeOf3 (by omega) (by omega))) ?_
    refine os_ mv_ ?_
    refine os_ mv_ ?_
    refine os_ bn_ ?_
    refine os_ mv_ ?_
    refine os_ bn_ ?_
    refine OD.appendZ (n := i) (m := q.length + 1 - i) (k := 1) (wants_plain rfl) rfl rfl Try.underlying22 Try.underlying3 info3_Tw8 rfl ot rfl rfl (by show i ≤ (q.flatMap cI).length; omega) (Eq.trans ot (congrArg (fun z => D.v (.int .i64 z)) (show ((q.length : Int) + (1 : Nat) - (i : Int)) = ((q.length + 1 - i : Nat) : Int) by omega))) (by omega) (by omega) (by simp only [maxLen]; omega) (by omega) (fun b40 cp40 h140 h240 => ?_)
    have hnn : i + (q.length + 1 - i) = q.length + 1 := by omega
    rw [hnn] at h140 ⊢
    refine os_ mv_ ?_
    refine OD.wk (Wk.as_ (n := 95) (l' := [(0, _), (1, _), (2, _), (7, _), (9, _)]) (S' := (_ :: ⟨bv, 3, 1, [_]⟩ :: [⟨b, 3, cap * 1, q.flatMap cI⟩])) rfl rfl ⟨lk, lk, lk, lk, lk, trivial⟩) ?_
    refine OD.nil ?_
    refine sr_ ?_
    refine os_ mv_ ?_
    refine os_ mv_ ?_
    refine OD.still (wants_plain rfl) rfl (still_rs (l := i) (h := q.length + 1) rfl ot ⟨_, ot⟩ trivial (by first | exact sl_tail rfl cI_len (fun h => by cases h) Try.runUnderlying22 Try.sizeOf3 (by omega) | exact sl_row (fun _ => rfl) Try.runUnderlying22 Try.sizeOf3 (by omega) | exact sl_rowG (fun h => by cases h) (fun _ => rfl) Try.runUnderlying22 Try.sizeOf3 (by omega) (by omega) | exact sl_list (fun h => by cases h) (fun _ => rfl) Try.runUnderlying22 Try.sizeOf3 (by omega) (by omega))) ?_
    have hof : offs cp40 (i) 1 0 = i := by unfold offs; rw [if_neg (by omega)]; omega
    rw [hof]
    refine os_ mv_ ?_
    have hof2 : offs cp40 (i + 1) 1 0 = i + 1 := by unfold offs; rw [if_neg (by omega)]; omega
    refine OD.wk (Wk.toEnd (k := 0) rfl) ?_
    refine OD.copy (k := 0) (k2 := 1) (od := i) (new := cI a) (cs' := setAll ((q.flatMap cI).take i ++ List.replicate (cp40 * 1 - ((q.flatMap cI).take i).length) D.junk) i (cI a)) (wants_plain rfl) rfl rfl Try.underlying22 infsinsertI_vc ot rfl rfl ot rfl rfl (by show List.take (Nat.min 1 (q.length + 1 - i)) (cI a) = _; rw [show Nat.min 1 (q.length + 1 - i) = 1 from Nat.min_eq_left (by omega)]; rfl) (Nat.min_eq_left (by omega : 1 ≤ q.length + 1 - i)).symm (fun d hd => List.all_eq_true.1 (cI_one a) d hd) (by show i + 1 ≤ ((q.flatMap cI).take i ++ List.replicate (cp40 * 1 - ((q.flatMap cI).take i).length) D.junk).length; rw [List.length_append, junk_len, hTl]; omega) rfl ?_
    refine OD.wk (Wk.as_ (n := 95) (l' := [(0, _), (1, _), (7, _), (9, _)]) (S' := (_ :: ⟨bv, 3, 1, [_]⟩ :: [⟨b, 3, cap * 1, q.flatMap cI⟩])) rfl rfl ⟨lk, lk, lk, lk, trivial⟩) ?_
    refine OD.nil ?_
    refine CD.seq ?_
    refine CD.draw (bks (List.eraseIdx _ 0)) (by kernel_rfl) (fun _ h => (List.Sublist.map _ (List.eraseIdx_sublist _ 0)).subset h) ?_
    refine a0_ 0 rfl mv_ ?_
    refine a0_ 1 rfl mv_ ?_
    refine a0_ 2 rfl mv_ ?_
    refine a0_ 3 rfl bn_ ?_
    refine a0_ 4 rfl (still_rs (l := i + 1) (h := q.length + 1) rfl ot ⟨_, ot⟩ trivial (by first | exact sl_tail rfl cI_len (fun h => by cases h) Try.runUnderlying22 Try.sizeOf3 (by omega) | exact sl_row (fun _ => rfl) Try.runUnderlying22 Try.sizeOf3 (by omega) | exact sl_rowG (fun h => by cases h) (fun _ => rfl) Try.runUnderlying22 Try.sizeOf3 (by omega) (by omega) | exact sl_list (fun h => by cases h) (fun _ => rfl) Try.runUnderlying22 Try.sizeOf3 (by omega) (by omega))) ?_
    refine a0_ 5 rfl mv_ ?_
    refine a0_ 6 rfl mv_ ?_
    refine a0_ 7 rfl (still_rs (l := i) (h := q.length) rfl ot ⟨_, ot⟩ trivial (by first | exact sl_tail rfl cI_len (fun h => by cases h) Try.runUnderlying22 Try.sizeOf3 (by omega) | exact sl_row (fun _ => rfl) Try.runUnderlying22 Try.sizeOf3 (by omega) | exact sl_rowG (fun h => by cases h) (fun _ => rfl) Try.runUnderlying22 Try.sizeOf3 (by omega) (by omega) | exact sl_list (fun h => by cases h) (fun _ => rfl) Try.runUnderlying22 Try.sizeOf3 (by omega) (by omega))) ?_
    refine AD0.later rfl ?_
    refine AD.one (i := 8) (by kernel_rfl) ?_
    refine AStep.copy (k := 0) (k2 := 2) (od := offs cp40 (i + 1) 1 0) (oy := offs cap i 1 0) (new := (q.flatMap cI).drop i) (cs' := setAll (setAll ((q.flatMap cI).take i ++ List.replicate (cp40 * 1 - ((q.flatMap cI).take i).length) D.junk) i (cI a)) (i + 1) ((q.flatMap cI).drop i)) rfl (wants_plain rfl) rfl rfl Try.underlying22 infsinsertI_vc ot rfl rfl ot rfl rfl (by show List.take (Nat.min (q.length - i) (q.length + 1 - (i + 1))) (List.drop (offs cap i 1 0) (q.flatMap cI)) = _; rw [hof3, hmn, List.take_of_length_le (by omega)]) (by show _ = Nat.min (q.length - i) (q.length + 1 - (i + 1)); rw [hmn, hRl]) (fun d hd => hon d (List.mem_of_mem_drop hd)) (by show offs cp40 (i + 1) 1 0 + _ ≤ (setAll ((q.flatMap cI).take i ++ List.replicate (cp40 * 1 - ((q.flatMap cI).take i).length) D.junk) i (cI a)).length; rw [hof2, hRl, setAll_length, List.length_append, junk_len, hTl]; omega) (by show setAll (setAll ((q.flatMap cI).take i ++ List.replicate (cp40 * 1 - ((q.flatMap cI).take i).length) D.junk) i (cI a)) (offs cp40 (i + 1) 1 0) _ = _; rw [hof2]) (by intro b hb; simp [bks, St.put] at hb ⊢; try first | exact hb | simp [hb] | (rcases hb with hb | hb <;> simp [hb]) | (rcases hb with hb | hb | hb <;> simp [hb])) ?_
    refine AD.wk (y := ⟨95, [(9, _)], (_ :: ⟨bv, 3, 1, [_]⟩ :: [⟨b, 3, cap * 1, q.flatMap cI⟩])⟩) (Wk.as_ rfl rfl ⟨lk, trivial⟩) rfl ?_
    refine AD.done (by kernel_rfl) ?_
    refine sr_ ?_
    refine os_ mv_ ?_
    refine OD.shrink (k := 0) (cs' := (insF q i a).flatMap cI) rfl (by rw [insF_flat cI_len]; exact fill_new hTl rfl (by rw [junk_len, hRl, hTl]; omega)) ?_
    refine os_ mv_ ?_
    refine OD.wk (Wk.as_ (n := 95) (l' := [(6, _)]) (S' := (_ :: ⟨bv, 3, 1, [_]⟩ :: [⟨b, 3, cap * 1, q.flatMap cI⟩])) rfl rfl ⟨lk, trivial⟩) ?_
    refine OD.nil ?_
    refine CD.ret ?_
    refine ⟨.inr rfl, _, [⟨b40, 3, cp40 * 1, (insF q i a).flatMap cI⟩], (List.Sublist.cons_cons _ (List.nil_sublist _)), ret_one Try.results29 (res_tmp (Nat.le_of_ble_eq_true rfl) lk), ?_⟩
    exact ⟨_, _, rfl, ownL_row (by rw [insF_len hi]; exact h140) h240⟩
   ·have hc2' := hc2
    (try simp only [V.cnd, ne_eq] at hc2')
    have hof3 : offs cap (i) 1 0 = i := by unfold offs; rw [if_neg (by omega)]; omega
    have hof2 : offs cap (i + 1) 1 0 = i + 1 := by unfold offs; rw [if_neg (by omega)]; omega
    have hmn : Nat.min (q.length + 1 - i) (q.length + 1 - (i + 1)) = q.length - i := by rw [show q.length + 1 - (i + 1) = q.length - i from by omega]; exact Nat.min_eq_right (by omega)
    refine CD.skip ?_
    refine sr_ ?_
    refine os_ mv_ ?_
    refine os_ mv_ ?_
    refine os_ mv_ ?_
    refine os_ bn_ ?_
    refine OD.still (wants_plain rfl) rfl (still_rs (l := 0) (h := q.length + 1) rfl ot trivial ⟨_, ot⟩ (by first | exact sl_head cI_len (fun h => by cases h) Try.runUnderlying22 Try.sizeOf3 (by omega) | exact sl_row (fun h => by cases h) Try.runUnderlying22 Try.sizeOf3 (by omega) | exact sl_rowG (fun _ => rfl) (fun h => by cases h) Try.runUnderlying22 Try.sizeOf3 (by omega) (by omega) | exact sl_list (fun _ => rfl) (fun h => by cases h) Try.runUnderlying22 Try.sizeOf3 (by omega) (by omega))) ?_
    refine os_ mv_ ?_
    refine OD.wk (Wk.as_ (n := 95) (l' := [(0, _), (1, _), (2, _), (7, _), (8, _)]) (S' := (⟨bv, 3, 1, [_]⟩ :: [⟨b, 3, cap * 1, q.flatMap cI⟩])) rfl rfl ⟨lk, lk, lk, lk, lk, trivial⟩) ?_
    refine OD.nil ?_
    refine CD.seq ?_
    refine sr_ ?_
    refine os_ mv_ ?_
    refine os_ mv_ ?_
    refine os_ mv_ ?_
    refine os_ mv_ ?_
    refine os_ bn_ ?_
    refine OD.still (wants_plain rfl) rfl (still_rs (l := i + 1) (h := q.length + 1) rfl ot ⟨_, ot⟩ trivial (by first | exact sl_tail rfl cI_len (fun h => by cases h) Try.runUnderlying22 Try.sizeOf3 (by omega) | exact sl_row (fun _ => rfl) Try.runUnderlying22 Try.sizeOf3 (by omega) | exact sl_rowG (fun h => by cases h) (fun _ => rfl) Try.runUnderlying22 Try.sizeOf3 (by omega) (by omega) | exact sl_list (fun h => by cases h) (fun _ => rfl) Try.runUnderlying22 Try.sizeOf3 (by omega) (by omega))) ?_
    refine OD.wk (Wk.toEnd (k := 1) rfl) ?_
    refine OD.overlaps (r := 4) (k := 0) (k2 := 1) (wants_plain rfl) rfl rfl Try.func44 (by kernel_rfl) (by kernel_rfl) (by kernel_rfl) (by kernel_rfl) Try.underlying22 Try.sizeOf3 ot rfl rfl ot rfl rfl (by decide) (by show cap * 1 ≠ 0; omega) ?_
    refine os_ un_ ?_
    refine OD.wk (Wk.as_ (n := 95) (l' := [(0, _), (1, _), (2, _), (7, _), (8, _), (68, _)]) (S' := [⟨bv, 3, 1, [_]⟩, _]) rfl rfl ⟨lk, lk, lk, lk, lk, lk, trivial⟩) ?_
    refine OD.nil ?_
    refine CD.cond ot (fun hc3 => ?_) (fun hc3 => ?_)
    ·have hc3' := hc3
     (try simp only [V.cnd, ne_eq] at hc3')
     refine CD.seq ?_
     refine CD.draw (bks (List.eraseIdx _ 1)) (by kernel_rfl) (fun _ h => (List.Sublist.map _ (List.eraseIdx_sublist _ 1)).subset h) ?_
     refine a0_ 0 rfl mv_ ?_
     refine a0_ 1 rfl mv_ ?_
     refine a0_ 2 rfl mv_ ?_
     refine a0_ 3 rfl bn_ ?_
     refine a0_ 4 rfl (still_rs (l := i + 1) (h := q.length + 1) rfl ot ⟨_, ot⟩ trivial (by first | exact sl_tail rfl cI_len (fun h => by cases h) Try.runUnderlying22 Try.sizeOf3 (by omega) | exact sl_row (fun _ => rfl) Try.runUnderlying22 Try.sizeOf3 (by omega) | exact sl_rowG (fun h => by cases h) (fun _ => rfl) Try.runUnderlying22 Try.sizeOf3 (by omega) (by omega) | exact sl_list (fun h => by cases h) (fun _ => rfl) Try.runUnderlying22 Try.sizeOf3 (by omega) (by omega))) ?_
     refine a0_ 5 rfl mv_ ?_
     refine a0_ 6 rfl mv_ ?_
     refine a0_ 7 rfl (still_rs (l := i) (h := q.length + 1) rfl ot ⟨_, ot⟩ trivial (by first | exact sl_tail rfl cI_len (fun h => by cases h) Try.runUnderlying22 Try.sizeOf3 (by omega) | exact sl_row (fun _ => rfl) Try.runUnderlying22 Try.sizeOf3 (by omega) | exact sl_rowG (fun h => by cases h) (fun _ => rfl) Try.runUnderlying22 Try.sizeOf3 (by omega) (by omega) | exact sl_list (fun h => by cases h) (fun _ => rfl) Try.runUnderlying22 Try.sizeOf3 (by omega) (by omega))) ?_
     refine AD0.later rfl ?_
     refine AD.one (i := 8) (by kernel_rfl) ?_
     refine AStep.copy (k := 1) (k2 := 1) (od := offs cap (i + 1) 1 0) (oy := offs cap i 1 0) (new := (q.flatMap cI).drop i) (cs' := setAll ((q.flatMap cI) ++ List.replicate (cap * 1 - (q.flatMap cI).length) D.junk) (i + 1) ((q.flatMap cI).drop i)) rfl (wants_plain rfl) rfl rfl Try.underlying22 infsinsertI_vc ot rfl rfl ot rfl rfl (by show List.take (Nat.min (q.length + 1 - i) (q.length + 1 - (i + 1))) (List.drop (offs cap i 1 0) ((q.flatMap cI) ++ List.replicate (cap * 1 - (q.flatMap cI).length) D.junk)) = _; rw [hof3, hmn, List.drop_append_of_le_length (by omega), List.take_left' hRl]) (by show _ = Nat.min (q.length + 1 - i) (q.length + 1 - (i + 1)); rw [hmn, hRl]) (fun d hd => hon d (List.mem_of_mem_drop hd)) (by show offs cap (i + 1) 1 0 + _ ≤ ((q.flatMap cI) ++ List.replicate (cap * 1 - (q.flatMap cI).length) D.junk).length; rw [hof2, hRl, List.length_append, junk_len, hQ]; omega) (by show setAll ((q.flatMap cI) ++ List.replicate (cap * 1 - (q.flatMap cI).length) D.junk) (offs cap (i + 1) 1 0) _ = _; rw [hof2]) (by intro b hb; simp [bks, St.put] at hb ⊢; try first | exact hb | simp [hb] | (rcases hb with hb | hb <;> simp [hb]) | (rcases hb with hb | hb | hb <;> simp [hb])) ?_
     refine AD.wk (y := ⟨95, [(0, _), (1, _), (2, _)], [⟨bv, 3, 1, [_]⟩, _]⟩) (Wk.as_ rfl rfl ⟨lk, lk, lk, trivial⟩) rfl ?_
     refine AD.done (by kernel_rfl) ?_
     refine sr_ ?_
     refine os_ mv_ ?_
     refine os_ mv_ ?_
     refine OD.still (wants_plain rfl) rfl (still_rs (l := i) (h := q.length + 1) rfl ot ⟨_, ot⟩ trivial (by first | exact sl_tail rfl cI_len (fun h => by cases h) Try.runUnderlying22 Try.sizeOf3 (by omega) | exact sl_row (fun _ => rfl) Try.runUnderlying22 Try.sizeOf3 (by omega) | exact sl_rowG (fun h => by cases h) (fun _ => rfl) Try.runUnderlying22 Try.sizeOf3 (by omega) (by omega) | exact sl_list (fun h => by cases h) (fun _ => rfl) Try.runUnderlying22 Try.sizeOf3 (by omega) (by omega))) ?_
     refine os_ mv_ ?_
     refine OD.copy (k := 1) (k2 := 0) (od := offs cap i 1 0) (new := cI a) (cs' := setAll (setAll ((q.flatMap cI) ++ List.replicate (cap * 1 - (q.flatMap cI).length) D.junk) (i + 1) ((q.flatMap cI).drop i)) i (cI a)) (wants_plain rfl) rfl rfl Try.underlying22 infsinsertI_vc ot rfl rfl ot rfl rfl (by show List.take (Nat.min 1 (q.length + 1 - i)) (cI a) = _; rw [show Nat.min 1 (q.length + 1 - i) = 1 from Nat.min_eq_left (by omega)]; rfl) (Nat.min_eq_left (by omega : 1 ≤ q.length + 1 - i)).symm (fun d hd => List.all_eq_true.1 (cI_one a) d hd) (by show offs cap i 1 0 + 1 ≤ (setAll ((q.flatMap cI) ++ List.replicate (cap * 1 - (q.flatMap cI).length) D.junk) (i + 1) ((q.flatMap cI).drop i)).length; rw [hof3, setAll_length, List.length_append, junk_len, hQ]; omega) (by show setAll (setAll ((q.flatMap cI) ++ List.replicate (cap * 1 - (q.flatMap cI).length) D.junk) (i + 1) ((q.flatMap cI).drop i)) (offs cap i 1 0) _ = _; rw [hof3]) ?_
     refine OD.wk (Wk.as_ (n := 95) (l' := [(0, _)]) (S' := [⟨bv, 3, 1, [_]⟩, _]) rfl rfl ⟨lk, trivial⟩) ?_
     refine OD.nil ?_
     refine sr_ ?_
     refine os_ mv_ ?_
     refine OD.shrink (k := 1) (cs' := (insF q i a).flatMap cI) rfl (by rw [insF_flat cI_len]; show _ <+: setAll (setAll ((q.flatMap cI) ++ _) (i + 1) ((q.flatMap cI).drop i)) i (cI a); rw [show (q.flatMap cI) ++ List.replicate (cap * 1 - (q.flatMap cI).length) D.junk = ((q.flatMap cI).take i ++ (q.flatMap cI).drop i) ++ List.replicate (cap * 1 - (q.flatMap cI).length) D.junk from by rw [List.take_append_drop]]; exact fill_in hTl rfl (by rw [junk_len, hQ]; omega)) ?_
     refine os_ mv_ ?_
     refine OD.wk (Wk.as_ (n := 95) (l' := [(6, _)]) (S' := [⟨bv, 3, 1, [_]⟩, _]) rfl rfl ⟨lk, trivial⟩) ?_
     refine OD.nil ?_
     refine CD.ret ?_
     refine ⟨.inr rfl, _, [⟨b, 3, cap * 1, (insF q i a).flatMap cI⟩], (List.Sublist.cons _ (List.Sublist.refl _)), ret_one Try.results29 (res_tmp (Nat.le_of_ble_eq_true rfl) lk), ?_⟩
     exact ⟨_, _, rfl, ownL_row (by rw [insF_len hi]; omega) hm⟩
    ·exact absurd hc3 (by simp at *)

set_option maxHeartbeats 4000000 in
set_option maxRecDepth 100000 in
theorem insertK_v (a : K) (bv : Nat) : VC Try.prog G 28 [.v (.slice none 0 0), .v (.int .i64 (0 : Nat)), .v (.slice (some ⟨bv, 0, none⟩) 1 1)] [⟨bv, 31, 1 * 1, cK a⟩] (fun r S => ∃ ad cap', r = .v (.slice ad 1 cap') ∧ OwnL 31 1 ((insF ([] : List K) 0 a).flatMap cK) (insF ([] : List K) 0 a).length ad cap' S) := by
 refine VC.body Try.func28 rfl Try.ntmps28 (Nat.le_of_ble_eq_true rfl) fun X0 w0 S00 => ?_
 refine sr_ ?_
 refine os_ mv_ ?_
 refine nm_ [0, 1, 2] ?_
 refine sr_ ?_
 refine os_ mv_ ?_
 refine os_ mv_ ?_
 refine OD.still (wants_plain rfl) rfl (still_nslice rfl ot ⟨_, _, ot, rfl⟩ rfl Try.runUnderlying42 Try.sizeOf31) ?_
 refine OD.wk (Wk.as_ (n := 95) (l' := [(0, _), (1, _), (2, _)]) (S' := (⟨bv, 31, 1, [_]⟩ :: [])) rfl rfl ⟨lk, lk, lk, trivial⟩) ?_
 refine OD.nil ?_
 refine sr_ ?_
 refine os_ mv_ ?_
 refine os_ ln_ ?_
 refine os_ mv_ ?_
 refine nm_ [0, 1, 2, 7] ?_
 refine CD.seq ?_
 refine sr_ ?_
 refine os_ mv_ ?_
 refine os_ bn_ ?_
 refine nm_ [0, 1, 2, 7, 16] ?_
 refine CD.cond ot (fun hc0 => ?_) (fun hc0 => ?_)
 ·exact absurd hc0 (by simp at *)
 ·have hc0' := hc0
  (try simp only [V.cnd, ne_eq] at hc0')
  refine CD.skip ?_
  refine sr_ ?_
  refine os_ mv_ ?_
  refine os_ ln_ ?_
  refine os_ mv_ ?_
  refine nm_ [0, 1, 2, 7, 8] ?_
  refine CD.seq ?_
  refine sr_ ?_
  refine os_ mv_ ?_
  refine os_ mv_ ?_
  refine os_ bn_ ?_
  refine nm_ [0, 1, 2, 7, 8, 22] ?_
  refine CD.cond ot (fun hc1 => ?_) (fun hc1 => ?_)
  ·have hc1' := hc1
   (try simp only [V.cnd, ne_eq] at hc1')
   refine sr_ ?_
   refine os_ mv_ ?_
   refine os_ mv_ ?_
   refine OD.give (k := 0) (t := 24) (sz := 1) (m := 1) rfl lk rfl rfl rfl (Nat.le_refl _) (by decide) ?_
   refine OD.appendG (ls := ([] : List K)) (new := [a]) (Sq := []) cK_len cK_one (wants_plain rfl) rfl rfl Try.underlying42 info31_Tw8 rfl (by decide) ot ownL_nil (perm_r11 (A := [])) ot (by simp) (by simp [maxLen]) (by simp) (fun b25 cp25 h125 h225 => ?_)
   refine OD.perm (perm_q11 (S1 := [⟨b25, 31, cp25 * 1, List.flatMap cK (([] : List K) ++ [a])⟩]) (A := [])) ?_
   refine os_ mv_ ?_
   refine OD.wk (Wk.as_ (n := 95) (l' := [(6, _)]) (S' := ([⟨b25, 31, cp25 * 1, List.flatMap cK (([] : List K) ++ [a])⟩])) rfl rfl ⟨lk, trivial⟩) ?_
   refine OD.nil ?_
   refine CD.ret ?_
   refine ⟨.inr rfl, _, [⟨b25, 31, cp25 * 1, List.flatMap cK (([] : List K) ++ [a])⟩], List.Sublist.refl _, ret_one Try.results28 (res_tmp (Nat.le_of_ble_eq_true rfl) lk), ?_⟩
   exact ⟨_, _, rfl, ownL_row h125 h225⟩
  ·exact absurd hc1 (by simp at *)

/-- .. into a list of one's own, nil or a row. -/
theorem insertK_vw (q : List K) (i : Nat) (a : K) (ad : Option Addr) (cap : Nat) (Sq : List Blk) (bv : Nat) (hi : i ≤ q.length) (hs : q.length ≤ 1000) (ho : OwnL 31 1 (q.flatMap cK) q.length ad cap Sq) : VC Try.prog G 28 [.v (.slice ad q.length cap), .v (.int .i64 (i : Nat)), .v (.slice (some ⟨bv, 0, none⟩) 1 1)] (⟨bv, 31, 1 * 1, cK a⟩ :: Sq) (fun r S => ∃ ad cap', r = .v (.slice ad (q.length + 1) cap') ∧ OwnL 31 1 ((insF q i a).flatMap cK) (insF q i a).length ad cap' S) := by
  rcases ho with ⟨h1, h2, rfl, rfl, rfl⟩ | ⟨b, rfl, h1, h2, rfl⟩
  · obtain rfl := List.length_eq_zero_iff.1 h1
    obtain rfl : i = 0 := Nat.le_zero.1 hi
    exact insertK_v a bv
  · exact insertK_vc q i a cap b bv hi h1 h2 hs

set_option maxHeartbeats 4000000 in
set_option maxRecDepth 100000 in
theorem insertI_v (a : Int) (bv : Nat) : VC Try.prog G 29 [.v (.slice none 0 0), .v (.int .i64 (0 : Nat)), .v (.slice (some ⟨bv, 0, none⟩) 1 1)] [⟨bv, 3, 1 * 1, cI a⟩] (fun r S => ∃ ad cap', r = .v (.slice ad 1 cap') ∧ OwnL 3 1 ((insF ([] : List Int) 0 a).flatMap cI) (insF ([] : List Int) 0 a).length ad cap' S) := by
 refine VC.body Try.func29 rfl Try.ntmps29 (Nat.le_of_ble_eq_true rfl) fun X0 w0 S00 => ?_
 refine sr_ ?_
 refine os_ mv_ ?_
 refine nm_ [0, 1, 2] ?_
 refine sr_ ?_
 refine os_ mv_ ?_
 refine os_ mv_ ?_
 refine OD.still (wants_plain rfl) rfl (still_nslice rfl ot ⟨_, _, ot, rfl⟩ rfl Try.runUnderlying22 Try.sizeOf3) ?_
 refine OD.wk (Wk.as_ (n := 95) (l' := [(0, _), (1, _), (2, _)]) (S' := (⟨bv, 3, 1, [_]⟩ :: [])) rfl rfl ⟨lk, lk, lk, trivial⟩) ?_
 refine OD.nil ?_
 refine sr_ ?_
 refine os_ mv_ ?_
 refine os_ ln_ ?_
 refine os_ mv_ ?_
 refine nm_ [0, 1, 2, 7] ?_
 refine CD.seq ?_
 refine sr_ ?_
 refine os_ mv_ ?_
 refine os_ bn_ ?_
 refine nm_ [0, 1, 2, 7, 16] ?_
 refine CD.cond ot (fun hc0 => ?_) (fun hc0 => ?_)
 ·exact absurd hc0 (by simp at *)
 ·have hc0' := hc0
  (try simp only [V.cnd, ne_eq] at hc0')
  refine CD.skip ?_
  refine sr_ ?_
  refine os_ mv_ ?_
  refine os_ ln_ ?_
  refine os_ mv_ ?_
  refine nm_ [0, 1, 2, 7, 8] ?_
  refine CD.seq ?_
  refine sr_ ?_
  refine os_ mv_ ?_
  refine os_ mv_ ?_
  refine os_ bn_ ?_
  refine nm_ [0, 1, 2, 7, 8, 22] ?_
  refine CD.cond ot (fun hc1 => ?_) (fun hc1 => ?_)
  ·have hc1' := hc1
   (try simp only [V.cnd, ne_eq] at hc1')
   refine sr_ ?_
   refine os_ mv_ ?_
   refine os_ mv_ ?_
   refine OD.give (k := 0) (t := 24) (sz := 1) (m := 1) rfl lk rfl rfl rfl (Nat.le_refl _) (by decide) ?_
   refine OD.appendG (ls := ([] : List Int)) (new := [a]) (Sq := []) cI_len cI_one (wants_plain rfl) rfl rfl Try.underlying22 info3_Tw8 rfl (by decide) ot ownL_nil (perm_r11 (A := [])) ot (by simp) (by simp [maxLen]) (by simp) (fun b25 cp25 h125 h225 => ?_)
   refine OD.perm (perm_q11 (S1 := [⟨b25, 3, cp25 * 1, List.flatMap cI (([] : List Int) ++ [a])⟩]) (A := [])) ?_
   refine os_ mv_ ?_
   refine OD.wk (Wk.as_ (n := 95) (l' := [(6, _)]) (S' := ([⟨b25, 3, cp25 * 1, List.flatMap cI (([] : List Int) ++ [a])⟩])) rfl rfl ⟨lk, trivial⟩) ?_
   refine OD.nil ?_
   refine CD.ret ?_
   refine ⟨.inr rfl, _, [⟨b25, 3, cp25 * 1, List.flatMap cI (([] : List Int) ++ [a])⟩], List.Sublist.refl _, ret_one Try.results29 (res_tmp (Nat.le_of_ble_eq_true rfl) lk), ?_⟩
   exact ⟨_, _, rfl, ownL_row h125 h225⟩
  ·exact absurd hc1 (by simp at *)

/-- .. into a list of one's own, nil or a row. -/
theorem insertI_vw (q : List Int) (i : Nat) (a : Int) (ad : Option Addr) (cap : Nat) (Sq : List Blk) (bv : Nat) (hi : i ≤ q.length) (hs : q.length ≤ 1000) (ho : OwnL 3 1 (q.flatMap cI) q.length ad cap Sq) : VC Try.prog G 29 [.v (.slice ad q.length cap), .v (.int .i64 (i : Nat)), .v (.slice (some ⟨bv, 0, none⟩) 1 1)] (⟨bv, 3, 1 * 1, cI a⟩ :: Sq) (fun r S => ∃ ad cap', r = .v (.slice ad (q.length + 1) cap') ∧ OwnL 3 1 ((insF q i a).flatMap cI) (insF q i a).length ad cap' S) := by
  rcases ho with ⟨h1, h2, rfl, rfl, rfl⟩ | ⟨b, rfl, h1, h2, rfl⟩
  · obtain rfl := List.length_eq_zero_iff.1 h1
    obtain rfl : i = 0 := Nat.le_zero.1 hi
    exact insertI_v a bv
  · exact insertI_vc q i a cap b bv hi h1 h2 hs

end Go.Proofs.Ythnobhekodiciaa.Tw

namespace Go.Proofs.Ythnobhekodiciaa.Tw
open Go.RowKit V Go.Proofs.Ythnobhekodiciaa.Tr Pk
set_option linter.unusedVariables false
set_option linter.unusedSimpArgs false

noncomputable def insE (t : TreeL) (k : K) (row : Int) (h : Nat) : TreeL × Int := if refF t k = 0 then (if row < 0 then (noT, 3) else if thereB t k h = true then (noT, 9) else if 4000 < (insT t h k row).pages.length then (noT, 10) else (insT t h k row, 0)) else (noT, refF t k)
theorem flat_cI {ls : List Int} {r : D} {S : List Blk} (h : RetL cI 3 1 ls r S) : flatD r = true ∧ ∀ B ∈ S, ∀ d ∈ B.cs, flatD d = true := by
 obtain ⟨ad, cap, rfl, ho⟩ := h
 refine ⟨rfl, fun B hB d hd => ?_⟩
 rcases ho with ⟨_, _, _, _, rfl⟩ | ⟨b, _, _, _, rfl⟩
 ·cases hB
 ·rw [List.mem_singleton] at hB; subst hB
  obtain ⟨n, _, hn⟩ := List.mem_flatMap.1 hd
  rw [cI, List.mem_singleton] at hn; subst hn; rfl
theorem not_there {t : TreeL} {h : Nat} (v : Valid t h) {k : K} (hf : thereB t k h = false) : ∀ x ∈ allE t h, x.1 ≠ k := fun x hx e => by
 have : thereB t k h = true := (thereB_iff v k).2 ((there_iff v k).2 ⟨x.2, by rw [← e]; exact hx⟩)
 rw [hf] at this; cases this
theorem split_vcp {G : List (Nat × List Value)} (L : List PgO) (b : Nat) (root i : Int) (ad : Option Addr) (cap : Nat) (Sx : List Blk) (hi : 0 ≤ i ∧ i < L.length) (p : PgL) (hpp : (L[i.toNat]'(by omega)).p = p) (hn : L.length ≤ 10000) (hox : OwnP L ad cap Sx) (hok : ∀ o ∈ L, okO o) (h5 : p.keys.length = 5) (hkl : p.leaf = true → p.kids.length = 5) (hkn : p.leaf = false → p.kids.length = 6) (hks : ∀ k ∈ p.keys, k.length ≤ 100) (hh : p.high.length ≤ 100) :
 VC Try.prog G 30 [.v (.pointer (some ⟨b, 0, none⟩)), .v (.int .i64 i)] (⟨b, 26, 2, [.v (.slice ad L.length cap), .v (.int .i64 root)]⟩ :: (Sx ++ L.flatMap bO)) (RetS L b root i.toNat p) := by
 subst hpp; exact split_vc L b root i ad cap Sx hi hn hox hok h5 hkl hkn hks hh
theorem root_ins {t u : TreeL} {k up : K} {row kid : Int} {h : Nat} (e : pendF t k row h (h + 1) = (u, some (up, kid))) (hr : u.root = t.root) : insT t h k row = ⟨u.pages ++ [⟨false, [up], [t.root, kid], [], -1⟩], u.pages.length⟩ := by
 unfold insT; rw [← pend_top, e]; show (⟨u.pages ++ [⟨false, [up], [u.root, kid], [], -1⟩], u.pages.length⟩ : TreeL) = _; rw [hr]
theorem few_ins {t u : TreeL} {k up : K} {row kid : Int} {h m : Nat} (hm : m ≤ h) (e : pendF t k row h m = (u, some (up, kid))) (h4 : (putP (u.pg (nodeF t k h t.root m)) up kid).keys.length ≤ 4) : insT t h k row = u.set (nodeF t k h t.root m) (putP (u.pg (nodeF t k h t.root m)) up kid) := by
 have := pend_next hm e
 rw [putT_few h4] at this
 unfold insT; rw [pend_none (h - m) (m + 1) (by omega) (by omega) this]; rfl
theorem full_ins {t u : TreeL} {k up : K} {row kid : Int} {h m : Nat} (hm : m ≤ h) (e : pendF t k row h m = (u, some (up, kid))) (h4 : ¬ (putP (u.pg (nodeF t k h t.root m)) up kid).keys.length ≤ 4) :
  pendF t k row h (m + 1) = (addT u (nodeF t k h t.root m) (lowP (putP (u.pg (nodeF t k h t.root m)) up kid) u.pages.length) (highP (putP (u.pg (nodeF t k h t.root m)) up kid)), some (upK (putP (u.pg (nodeF t k h t.root m)) up kid), (u.pages.length : Int))) := by
 rw [pend_next hm e, putT_full h4]
variable {G : List (Nat × List Value)}

theorem info44_Twf : (Try.prog.info? 44).map (fun i => (i.zero, i.size, i.bytes)) = some (some (.agg #[.bool false, .slice none 0 0, .slice none 0 0, .slice none 0 0, .int .i64 0]), 5, 88) := by kernel_rfl

theorem places26_Twf : ∀ w, ((#[{ name := "Pages", type := 24, offset := 0, embedded := false, tag := "", pkgPath := "", byteOffset := 0 }, { name := "Root", type := 3, offset := 1, embedded := false, tag := "", pkgPath := "", byteOffset := 24 }] : Array Field).mapM fun f => do pure (f.offset, ← sizeOf f.type) : Sem (Array (Nat × Nat))).run Try.prog w = .ok #[(0, 1), (1, 1)] w := fun w => by simp [Try.sizeOf24, Try.sizeOf3]

theorem places44_Twf : ∀ w, ((#[{ name := "Leaf", type := 4, offset := 0, embedded := false, tag := "", pkgPath := "", byteOffset := 0 }, { name := "Keys", type := 42, offset := 1, embedded := false, tag := "", pkgPath := "", byteOffset := 8 }, { name := "Kids", type := 22, offset := 2, embedded := false, tag := "", pkgPath := "", byteOffset := 32 }, { name := "High", type := 31, offset := 3, embedded := false, tag := "", pkgPath := "", byteOffset := 56 }, { name := "Next", type := 3, offset := 4, embedded := false, tag := "", pkgPath := "", byteOffset := 80 }] : Array Field).mapM fun f => do pure (f.offset, ← sizeOf f.type) : Sem (Array (Nat × Nat))).run Try.prog w = .ok #[(0, 1), (1, 1), (2, 1), (3, 1), (4, 1)] w := fun w => by simp [Try.sizeOf22, Try.sizeOf3, Try.sizeOf31, Try.sizeOf4, Try.sizeOf42]

set_option maxHeartbeats 4000000 in
set_option maxRecDepth 100000 in
theorem insert_vc (t : TreeL) (h : Nat) (k : K) (row : Int) (hb : ∀ p ∈ t.pages, p.keys.length ≤ maxLen ∧ p.kids.length ≤ maxLen) (hv : checkF t = 0 → Valid t h) : VC Try.prog G 14 [.agg [.list 5 (t.pages.flatMap cP) t.pages.length, .v (.int .i64 t.root)], .list 1 (k.flatMap cB) k.length, .v (.int .i64 row)] [] (RetE (insE t k row h)) := by
 refine VC.body Try.func14 rfl Try.ntmps14 (Nat.le_of_ble_eq_true rfl) fun X0 w0 S00 => ?_
 have hcv := checked_vp (G := G) t k hb
 unfold cT at hcv
 have hmx : maxLen = 9223372036854775807 := rfl
 refine sr_ ?_
 refine OD.box (ds := [_, _]) (wants_plain rfl) rfl rfl ot rfl rfl (fun b3 => ?_)
 refine OD.alloc (ds := [_, _]) (wants_plain rfl) rfl rfl Try.zeroValue26 rfl (fun b6 => ?_)
 refine os_ mv_ ?_
 refine OD.wk (Wk.as_ (n := 131) (l' := [(1, _), (2, _), (3, _), (6, _)]) (S' := [⟨b6, 26, 2, [_, _]⟩, ⟨b3, 26, 2, [_, _]⟩]) rfl rfl ⟨lk, lk, lk, lk, trivial⟩) ?_
 refine OD.nil ?_
 refine CD.seq ?_
 refine sr_ ?_
 refine os_ (lab_ 1 [_, _]) ?_
 refine os_ mv_ ?_
 refine OD.callP (wants_plain rfl) rfl rfl rfl Try.call22 (hcv) ⟨ot, ot, trivial⟩ ?_
 refine os_ mv_ ?_
 refine OD.wk (Wk.as_ (n := 131) (l' := [(1, _), (2, _), (3, _), (6, _), (8, _)]) (S' := [⟨b6, 26, 2, [_, _]⟩, ⟨b3, 26, 2, [_, _]⟩]) rfl rfl ⟨lk, lk, lk, lk, lk, trivial⟩) ?_
 refine OD.nil ?_
 refine sr_ ?_
 refine os_ mv_ ?_
 refine os_ bn_ ?_
 refine nm_ [1, 2, 3, 6, 8, 23] ?_
 refine CD.cond ot (fun hc0 => ?_) (fun hc0 => ?_)
 ·have hc0' := hc0
  (try simp only [V.cnd, ne_eq] at hc0')
  have hn : ¬ refF t k = 0 := by simpa using hc0
  refine sr_ ?_
  refine OD.still (wants_plain rfl) rfl (still_bld (pl := []) (ds := [_, _]) rfl Try.zeroValue26 Try.runUnderlying26 places26_Twf trivial rfl rfl) ?_
  refine os_ mv_ ?_
  refine OD.store (k := 0) (cs' := [_, _]) (wants_plain rfl) rfl rfl ot rfl rfl ot rfl rfl Try.sizeOf26 rfl rfl rfl ?_
  refine os_ mv_ ?_
  refine OD.wk (Wk.as_ (n := 131) (l' := [(6, _), (7, _)]) (S' := [⟨b6, 26, 2, [_, _]⟩, ⟨b3, 26, 2, [_, _]⟩]) rfl rfl ⟨lk, lk, trivial⟩) ?_
  refine OD.nil ?_
  refine CD.ret ?_
  refine ⟨.inr rfl, _, [], List.nil_sublist _, ret_two Try.results14 (res_cells (k := 0) (ds := [_, _]) (Nat.le_of_ble_eq_true rfl) lk rfl rfl Try.isAgg26 Try.sizeOf26 rfl rfl) (res_tmp (Nat.le_of_ble_eq_true rfl) lk), ?_⟩
  unfold insE; rw [if_neg hn]; exact retE_no _
 ·have hc0' := hc0
  (try simp only [V.cnd, ne_eq] at hc0')
  have hz : refF t k = 0 := by simpa using hc0
  obtain ⟨hc, hkq⟩ := refF_zero hz
  have v := hv hc
  have hkl0 := keyQ_len hkq
  have hfv := find_vp (G := G) t h v k (by omega) (valid_path v k)
  unfold cT at hfv
  have hhigh0 := v.high
  have hmost0 := v.most
  refine CD.skip ?_
  refine CD.seq ?_
  refine sr_ ?_
  refine os_ mv_ ?_
  refine os_ bn_ ?_
  refine nm_ [1, 2, 3, 6, 27] ?_
  refine CD.cond ot (fun hc1 => ?_) (fun hc1 => ?_)
  ·have hc1' := hc1
   (try simp only [V.cnd, ne_eq] at hc1')
   have hrow : row < 0 := by omega
   refine sr_ ?_
   refine OD.still (wants_plain rfl) rfl (still_bld (pl := []) (ds := [_, _]) rfl Try.zeroValue26 Try.runUnderlying26 places26_Twf trivial rfl rfl) ?_
   refine OD.store (k := 0) (cs' := [_, _]) (wants_plain rfl) rfl rfl ot rfl rfl ot rfl rfl Try.sizeOf26 rfl rfl rfl ?_
   refine os_ mv_ ?_
   refine OD.wk (Wk.as_ (n := 131) (l' := [(6, _), (7, _)]) (S' := [⟨b6, 26, 2, [_, _]⟩, ⟨b3, 26, 2, [_, _]⟩]) rfl rfl ⟨lk, lk, trivial⟩) ?_
   refine OD.nil ?_
   refine CD.ret ?_
   refine ⟨.inr rfl, _, [], List.nil_sublist _, ret_two Try.results14 (res_cells (k := 0) (ds := [_, _]) (Nat.le_of_ble_eq_true rfl) lk rfl rfl Try.isAgg26 Try.sizeOf26 rfl rfl) (res_tmp (Nat.le_of_ble_eq_true rfl) lk), ?_⟩
   unfold insE; rw [if_pos hz, if_pos hrow]; exact retE_no _
  ·have hc1' := hc1
   (try simp only [V.cnd, ne_eq] at hc1')
   have hrow : 0 ≤ row := by omega
   refine CD.skip ?_
   refine CD.seq ?_
   refine sr_ ?_
   refine os_ (lab_ 1 [_, _]) ?_
   refine os_ mv_ ?_
   refine OD.callP (wants_plain rfl) rfl rfl rfl Try.call23 (hfv) ⟨ot, ot, trivial⟩ ?_
   refine os_ mv_ ?_
   refine os_ ex_ ?_
   refine os_ ex_ ?_
   refine os_ ex_ ?_
   refine os_ mv_ ?_
   refine os_ mv_ ?_
   refine os_ mv_ ?_
   refine OD.wk (Wk.as_ (n := 131) (l' := [(1, _), (2, _), (3, _), (6, _), (11, _)]) (S' := [⟨b6, 26, 2, [_, _]⟩, ⟨b3, 26, 2, [_, _]⟩]) rfl rfl ⟨lk, lk, lk, lk, lk, trivial⟩) ?_
   refine OD.nil ?_
   refine sr_ ?_
   refine os_ mv_ ?_
   refine nm_ [1, 2, 3, 6, 36] ?_
   refine CD.cond ot (fun hc2 => ?_) (fun hc2 => ?_)
   ·have hc2' := hc2
    (try simp only [V.cnd, ne_eq] at hc2')
    have hth : thereB t k h = true := hc2
    refine sr_ ?_
    refine OD.still (wants_plain rfl) rfl (still_bld (pl := []) (ds := [_, _]) rfl Try.zeroValue26 Try.runUnderlying26 places26_Twf trivial rfl rfl) ?_
    refine OD.store (k := 0) (cs' := [_, _]) (wants_plain rfl) rfl rfl ot rfl rfl ot rfl rfl Try.sizeOf26 rfl rfl rfl ?_
    refine os_ mv_ ?_
    refine OD.wk (Wk.as_ (n := 131) (l' := [(6, _), (7, _)]) (S' := [⟨b6, 26, 2, [_, _]⟩, ⟨b3, 26, 2, [_, _]⟩]) rfl rfl ⟨lk, lk, trivial⟩) ?_
    refine OD.nil ?_
    refine CD.ret ?_
    refine ⟨.inr rfl, _, [], List.nil_sublist _, ret_two Try.results14 (res_cells (k := 0) (ds := [_, _]) (Nat.le_of_ble_eq_true rfl) lk rfl rfl Try.isAgg26 Try.sizeOf26 rfl rfl) (res_tmp (Nat.le_of_ble_eq_true rfl) lk), ?_⟩
    unfold insE; rw [if_pos hz, if_neg (by omega), if_pos hth]; exact retE_no _
   ·have hc2' := hc2
    (try simp only [V.cnd, ne_eq] at hc2')
    have hth : thereB t k h = false := hc2
    have hne := not_there v hth
    refine CD.skip ?_
    refine sr_ ?_
    refine os_ (lab_ 1 [_, _]) ?_
    refine OD.call (wants_plain rfl) rfl rfl rfl Try.call24 (own_vc t h v) ⟨ot, trivial⟩ (perm_none _) ?_
    rintro _ _ ⟨L, ad, cap, Sx, rfl, hox, hok, hL, rfl⟩
    refine OD.perm (S' := ⟨b6, 26, 2, [.v (.slice none 0 0), .v (.int .i64 0)]⟩ :: ⟨b3, 26, 2, [.list 5 (t.pages.flatMap cP) t.pages.length, .v (.int .i64 t.root)]⟩ :: (Sx ++ L.flatMap bO)) (perm_q11 (A := [_, _])) ?_
    refine OD.alloc (ds := [_, _]) (wants_plain rfl) rfl rfl Try.zeroValue26 rfl (fun b12 => ?_)
    refine OD.store (k := 0) (cs' := [_, _]) (wants_plain rfl) rfl rfl ot rfl rfl ot rfl rfl Try.sizeOf26 rfl rfl rfl ?_
    refine OD.wk (Wk.as_ (n := 131) (l' := [(1, _), (2, _), (6, _), (12, _)]) (S' := (⟨b12, 26, 2, [_, _]⟩ :: ⟨b6, 26, 2, [_, _]⟩ :: ⟨b3, 26, 2, [_, _]⟩ :: (Sx ++ (L.flatMap bO)))) rfl rfl ⟨lk, lk, lk, lk, trivial⟩) ?_
    refine OD.nil ?_
    refine sr_ ?_
    refine os_ (lab_ 0 [_, _]) ?_
    refine os_ mv_ ?_
    refine OD.lookC (wants_plain rfl) rfl rfl rfl Try.call25 (path_vc t h v k) (fun r S => flat_cI) ⟨⟨_, ot, (by have := view_T (root := t.root) hox hok (fun B hB => List.mem_cons_of_mem ⟨b12, 26, 2, [.v (.slice ad L.length cap), .v (.int .i64 t.root)]⟩ (List.mem_cons_of_mem ⟨b6, 26, 2, [.v (.slice none 0 0), .v (.int .i64 0)]⟩ (List.mem_cons_of_mem ⟨b3, 26, 2, [.list 5 (t.pages.flatMap cP) t.pages.length, .v (.int .i64 t.root)]⟩ hB))); rw [hL] at this; exact this)⟩, ⟨_, ot, view_same⟩, trivial⟩ ?_
    rintro _ Sw ⟨aw, cw, rfl, how⟩
    refine OD.giveL (t := 42) (Sq := Sw) lk how (fm_len cI_len _) (List.Perm.refl _) ?_
    refine os_ mv_ ?_
    refine OD.wk (Wk.as_ (n := 131) (l' := [(1, _), (2, _), (6, _), (12, _), (13, _)]) (S' := (⟨b12, 26, 2, [_, _]⟩ :: ⟨b6, 26, 2, [_, _]⟩ :: ⟨b3, 26, 2, [_, _]⟩ :: (Sx ++ (L.flatMap bO)))) rfl rfl ⟨lk, lk, lk, lk, lk, trivial⟩) ?_
    refine OD.nil ?_
    refine sr_ ?_
    refine os_ mv_ ?_
    refine OD.callP (wants_plain rfl) rfl rfl rfl Try.call26 (cloneB_vp k (by omega)) ⟨ot, trivial⟩ ?_
    refine os_ mv_ ?_
    refine os_ mv_ ?_
    refine os_ mv_ ?_
    refine OD.wk (Wk.as_ (n := 131) (l' := [(6, _), (12, _), (13, _), (14, _), (15, _)]) (S' := (⟨b12, 26, 2, [_, _]⟩ :: ⟨b6, 26, 2, [_, _]⟩ :: ⟨b3, 26, 2, [_, _]⟩ :: (Sx ++ (L.flatMap bO)))) rfl rfl ⟨lk, lk, lk, lk, lk, trivial⟩) ?_
    refine OD.nil ?_
    refine CD.cut (fun y__ => ∃ (L : List PgO), ∃ (ad : Option Addr), ∃ (cap : Nat), ∃ (Sx : List Blk), ∃ (root : Int), (OwnP L ad cap Sx) ∧ (∀ o ∈ L, okO o) ∧ (insT t h k row = ⟨L.map PgO.p, root⟩) ∧ (L.length ≤ 10000) ∧ y__ = (⟨131, [(6, .v (.pointer (some ⟨b6, 0, none⟩))), (12, .v (.pointer (some ⟨b12, 0, none⟩)))], (⟨b12, 26, 2, [.v (.slice ad L.length cap), .v (.int .i64 root)]⟩ :: ⟨b6, 26, 2, [.v (.slice none 0 0), .v (.int .i64 0)]⟩ :: (Sx ++ L.flatMap bO))⟩ : St)) ?_ ?_
    ·skip
     refine sr_ ?_
     refine os_ mv_ ?_
     refine os_ ln_ ?_
     refine OD.still (wants_plain rfl) rfl (still_bin (r := .int .i64 ((h : Nat) : Int)) rfl ot opd_const (bin_sub (by rw [path_len, show (((h + 1 : Nat) : Int) - 1) = (h : Int) from by omega]; exact wrap_i64 (by omega) (by omega)))) ?_
     refine os_ mv_ ?_
     refine OD.wk (Wk.as_ (n := 131) (l' := [(6, _), (12, _), (13, _), (14, _), (15, _), (16, _)]) (S' := (⟨b12, 26, 2, [_, _]⟩ :: ⟨b6, 26, 2, [_, _]⟩ :: ⟨b3, 26, 2, [_, _]⟩ :: (Sx ++ (L.flatMap bO)))) rfl rfl ⟨lk, lk, lk, lk, lk, lk, trivial⟩) ?_
     refine OD.nil ?_
     refine CD.block ?_
     refine CD.wk (Wk.asS (n := 131) (l' := [(6, .v (.pointer (some ⟨b6, 0, none⟩))), (12, .v (.pointer (some ⟨b12, 0, none⟩))), (13, .list 1 ((pathF t k h t.root).flatMap cI) (pathF t k h t.root).length), (14, .list 1 (k.flatMap cB) k.length), (15, .v (.int .i64 row)), (16, .v (.int .i64 ((h : Int) - ((0) : Nat))))]) (S' := (⟨b12, 26, 2, [.v (.slice ad L.length cap), .v (.int .i64 t.root)]⟩ :: ⟨b6, 26, 2, [.v (.slice none 0 0), .v (.int .i64 0)]⟩ :: (Sx ++ L.flatMap bO))) rfl (by repeat (first | exact List.Sublist.refl _ | apply List.Sublist.cons_cons | apply List.Sublist.cons)) ⟨lq_, lq_, lq_, lq_, lq_, lq_, trivial⟩) (CD.loop (fun (gh__ : Nat × K × Int × List PgO × Option Addr × Nat × List Blk) y__ => match gh__ with | (m, up, kid, L, ad, cap, Sx) => (m ≤ h + 1) ∧ (pendF t k row h m = (⟨L.map PgO.p, t.root⟩, some (up, kid))) ∧ (OwnP L ad cap Sx) ∧ (∀ o ∈ L, okO o) ∧ y__ = (⟨131, [(6, .v (.pointer (some ⟨b6, 0, none⟩))), (12, .v (.pointer (some ⟨b12, 0, none⟩))), (13, .list 1 ((pathF t k h t.root).flatMap cI) (pathF t k h t.root).length), (14, .list 1 (up.flatMap cB) up.length), (15, .v (.int .i64 kid)), (16, .v (.int .i64 ((h : Int) - (m : Nat))))], (⟨b12, 26, 2, [.v (.slice ad L.length cap), .v (.int .i64 t.root)]⟩ :: ⟨b6, 26, 2, [.v (.slice none 0 0), .v (.int .i64 0)]⟩ :: (Sx ++ L.flatMap bO))⟩ : St)) (fun (gh__ : Nat × K × Int × List PgO × Option Addr × Nat × List Blk) => match gh__ with | (m, up, kid, L, ad, cap, Sx) => h + 1 - m) (0, k, row, L, ad, cap, Sx) ⟨(Nat.zero_le _), (by unfold pendF; rw [if_pos rfl, hL]), hox, hok, rfl⟩ ?_)
     rintro ⟨m, up, kid, L, ad, cap, Sx⟩ _ ⟨hm0, he, hox, hok, rfl⟩
     refine CD.seq ?_
     refine CD.block ?_
     refine CD.seq ?_
     refine sr_ ?_
     refine os_ mv_ ?_
     refine os_ bn_ ?_
     refine nm_ [6, 12, 13, 14, 15, 16, 52] ?_
     refine CD.cond ot (fun hc3 => ?_) (fun hc3 => ?_)
     ·have hc3' := hc3
      (try simp only [V.cnd, ne_eq] at hc3')
      obtain rfl : m = h + 1 := by omega
      obtain ⟨s1, s2, s3, s4⟩ := pend_size v hne hkl0 hrow (by omega) he
      have hLm : L.length ≤ t.pages.length + (h + 1) := by rw [← List.length_map (f := PgO.p)]; exact s2
      have hul := pend_up v hne hkl0 hrow (by omega) he
      refine sr_ ?_
      refine os_ (fa_ 0) ?_
      refine os_ (lb_ 0) ?_
      refine os_ mv_ ?_
      refine OD.bldS (pl := numD 0 [_]) (zvs := [.slice none 0 0]) (ds := [_]) (wants_plain rfl) rfl rfl Try.zeroValue31 Try.runUnderlying42 Try.sizeOf31 rfl rfl (by kernel_rfl) ⟨rfl, ot, trivial⟩ (by exact rfl) (fill_full (by exact rfl) (by exact rfl) (by exact rfl)) (fun b56 => ?_)
      refine os_ (fa_ 1) ?_
      refine os_ (lb_ 1) ?_
      refine os_ mv_ ?_
      refine OD.bldS (pl := numD 0 [_, _]) (zvs := [.int .i64 0, .int .i64 0]) (ds := [_, _]) (wants_plain rfl) rfl rfl Try.zeroValue3 Try.runUnderlying22 Try.sizeOf3 rfl rfl (by kernel_rfl) ⟨rfl, ot, rfl, ot, trivial⟩ (by exact rfl) (fill_full (by exact rfl) (by exact rfl) (by exact rfl)) (fun b60 => ?_)
      refine OD.still (wants_plain rfl) rfl (still_bld (pl := [(1, _), (2, _), (4, _)]) (ds := [_, _, _, _, _]) rfl Try.zeroValue44 Try.runUnderlying44 places44_Twf ⟨rfl, ot, rfl, ot, rfl, opd_const, trivial⟩ rfl rfl) ?_
      refine OD.bldS (pl := numD 0 [_]) (zvs := [.bool false, .slice none 0 0, .slice none 0 0, .slice none 0 0, .int .i64 0]) (ds := [_, _, _, _, _]) (wants_plain rfl) rfl rfl Try.zeroValue44 Try.runUnderlying24 Try.sizeOf44 rfl rfl (by kernel_rfl) ⟨rfl, ot, trivial⟩ (by exact rfl) (fill_full (by exact rfl) (by exact rfl) (by exact rfl)) (fun b62 => ?_)
      refine OD.cover0 (cs' := gO (⟨⟨false, [up], [t.root, kid], [], -1⟩, some ⟨b56, 0, none⟩, 1, [⟨b56, 31, 1 * 1, List.flatMap cK [up]⟩], some ⟨b60, 0, none⟩, 2, [⟨b60, 3, 2 * 1, List.flatMap cI [t.root, kid]⟩]⟩ : PgO)) rfl ⟨view_same, view_same, view_same, view_nil, view_same, trivial⟩ ?_
      refine OD.give (k := 0) (t := 62) (sz := 5) (m := 1) rfl lk rfl rfl rfl (Nat.le_refl _) (by decide) ?_
      refine OD.appendG (ls := L) (new := [(⟨⟨false, [up], [t.root, kid], [], -1⟩, some ⟨b56, 0, none⟩, 1, [⟨b56, 31, 1 * 1, List.flatMap cK [up]⟩], some ⟨b60, 0, none⟩, 2, [⟨b60, 3, 2 * 1, List.flatMap cI [t.root, kid]⟩]⟩ : PgO)]) (Sq := Sx) gO_len gO_one (wants_plain rfl) rfl rfl Try.underlying24 info44_Twf rfl (by decide) ot hox (perm_r12 (A := [_, _, _, _])) ot (by simp) (by simp only [maxLen, List.length_cons, List.length_nil] at *; omega) (by simp only [List.length_cons, List.length_nil] at *; omega) (fun b63 cp63 h163 h263 => ?_)
      refine os_ (fa_ 0) ?_
      refine OD.store (k := 3) (cs' := [_, _]) (wants_plain rfl) rfl rfl ot rfl rfl ot rfl rfl Try.sizeOf24 rfl rfl rfl ?_
      refine OD.wk (Wk.as_ (n := 131) (l' := [(6, _), (12, _)]) (S' := (_ :: _ :: _ :: ⟨b12, 26, 2, [_, _]⟩ :: ⟨b6, 26, 2, [_, _]⟩ :: (L.flatMap bO))) rfl rfl ⟨lk, lk, trivial⟩) ?_
      refine OD.nil ?_
      refine sr_ ?_
      refine os_ (fa_ 0) ?_
      refine os_ (lb_ 3) ?_
      refine os_ ln_ ?_
      refine OD.still (wants_plain rfl) rfl (still_bin (r := .int .i64 (L.length : Nat)) rfl ot opd_const (bin_sub (by rw [List.length_append, show (((L.length + [(⟨⟨false, [up], [t.root, kid], [], -1⟩, some ⟨b56, 0, none⟩, 1, [⟨b56, 31, 1 * 1, List.flatMap cK [up]⟩], some ⟨b60, 0, none⟩, 2, [⟨b60, 3, 2 * 1, List.flatMap cI [t.root, kid]⟩]⟩ : PgO)].length : Nat) : Int) - 1) = (L.length : Int) from by simp]; exact wrap_i64 (by omega) (by omega)))) ?_
      refine os_ (fa_ 1) ?_
      refine OD.store (k := 3) (cs' := [_, _]) (wants_plain rfl) rfl rfl ot rfl rfl ot rfl rfl Try.sizeOf3 rfl rfl rfl ?_
      have hX : ((⟨b60, 3, 2 * 1, List.flatMap cI [t.root, kid]⟩ : Blk) :: ⟨b56, 31, 1 * 1, List.flatMap cK [up]⟩ :: L.flatMap bO).Perm ((L ++ [(⟨⟨false, [up], [t.root, kid], [], -1⟩, some ⟨b56, 0, none⟩, 1, [⟨b56, 31, 1 * 1, List.flatMap cK [up]⟩], some ⟨b60, 0, none⟩, 2, [⟨b60, 3, 2 * 1, List.flatMap cI [t.root, kid]⟩]⟩ : PgO)]).flatMap bO) := by rw [bO_snoc]; exact (List.Perm.swap _ _ _).trans (List.perm_append_comm (l₁ := [_, _]))
      refine OD.perm (S' := ⟨b12, 26, 2, [.v (.slice (some ⟨b63, 0, none⟩) (L ++ [(⟨⟨false, [up], [t.root, kid], [], -1⟩, some ⟨b56, 0, none⟩, 1, [⟨b56, 31, 1 * 1, List.flatMap cK [up]⟩], some ⟨b60, 0, none⟩, 2, [⟨b60, 3, 2 * 1, List.flatMap cI [t.root, kid]⟩]⟩ : PgO)]).length cp63), .v (.int .i64 (L.length : Nat))]⟩ :: ⟨b6, 26, 2, [.v (.slice none 0 0), .v (.int .i64 0)]⟩ :: (([⟨b63, 44, cp63 * 5, List.flatMap gO (L ++ [(⟨⟨false, [up], [t.root, kid], [], -1⟩, some ⟨b56, 0, none⟩, 1, [⟨b56, 31, 1 * 1, List.flatMap cK [up]⟩], some ⟨b60, 0, none⟩, 2, [⟨b60, 3, 2 * 1, List.flatMap cI [t.root, kid]⟩]⟩ : PgO)])⟩] : List Blk) ++ (L ++ [(⟨⟨false, [up], [t.root, kid], [], -1⟩, some ⟨b56, 0, none⟩, 1, [⟨b56, 31, 1 * 1, List.flatMap cK [up]⟩], some ⟨b60, 0, none⟩, 2, [⟨b60, 3, 2 * 1, List.flatMap cI [t.root, kid]⟩]⟩ : PgO)]).flatMap bO)) (by exact (List.perm_middle (l₁ := [_, _, _])).trans (List.Perm.cons _ ((List.perm_middle (l₁ := [_, _, _])).trans (List.Perm.cons _ (List.Perm.cons _ hX))))) ?_
      refine OD.wk (Wk.as_ (n := 131) (l' := [(6, _), (12, _)]) (S' := (⟨b12, 26, 2, [_, _]⟩ :: ⟨b6, 26, 2, [_, _]⟩ :: ([⟨b63, 44, cp63 * 5, List.flatMap gO (L ++ [(⟨⟨false, [up], [t.root, kid], [], -1⟩, some ⟨b56, 0, none⟩, 1, [⟨b56, 31, 1 * 1, List.flatMap cK [up]⟩], some ⟨b60, 0, none⟩, 2, [⟨b60, 3, 2 * 1, List.flatMap cI [t.root, kid]⟩]⟩ : PgO)])⟩] ++ ((L ++ [(⟨⟨false, [up], [t.root, kid], [], -1⟩, some ⟨b56, 0, none⟩, 1, [⟨b56, 31, 1 * 1, List.flatMap cK [up]⟩], some ⟨b60, 0, none⟩, 2, [⟨b60, 3, 2 * 1, List.flatMap cI [t.root, kid]⟩]⟩ : PgO)]).flatMap bO)))) rfl rfl ⟨lk, lk, trivial⟩) ?_
      refine OD.nil ?_
      refine CD.exit ?_
      refine ⟨(⟨131, [(6, .v (.pointer (some ⟨b6, 0, none⟩))), (12, .v (.pointer (some ⟨b12, 0, none⟩)))], (⟨b12, 26, 2, [.v (.slice ((some ⟨b63, 0, none⟩)) ((L ++ [(⟨⟨false, [up], [t.root, kid], [], -1⟩, some ⟨b56, 0, none⟩, 1, [⟨b56, 31, 1 * 1, List.flatMap cK [up]⟩], some ⟨b60, 0, none⟩, 2, [⟨b60, 3, 2 * 1, List.flatMap cI [t.root, kid]⟩]⟩ : PgO)])).length (cp63)), .v (.int .i64 ((L.length : Nat)))]⟩ :: ⟨b6, 26, 2, [.v (.slice none 0 0), .v (.int .i64 0)]⟩ :: (([⟨b63, 44, cp63 * 5, List.flatMap gO (L ++ [(⟨⟨false, [up], [t.root, kid], [], -1⟩, some ⟨b56, 0, none⟩, 1, [⟨b56, 31, 1 * 1, List.flatMap cK [up]⟩], some ⟨b60, 0, none⟩, 2, [⟨b60, 3, 2 * 1, List.flatMap cI [t.root, kid]⟩]⟩ : PgO)])⟩]) ++ ((L ++ [(⟨⟨false, [up], [t.root, kid], [], -1⟩, some ⟨b56, 0, none⟩, 1, [⟨b56, 31, 1 * 1, List.flatMap cK [up]⟩], some ⟨b60, 0, none⟩, 2, [⟨b60, 3, 2 * 1, List.flatMap cI [t.root, kid]⟩]⟩ : PgO)])).flatMap bO))⟩ : St), Wk.asS (n := 131) rfl (by repeat (first | exact List.Sublist.refl _ | apply List.Sublist.cons_cons | apply List.Sublist.cons)) ⟨lq_, lq_, trivial⟩, (L ++ [(⟨⟨false, [up], [t.root, kid], [], -1⟩, some ⟨b56, 0, none⟩, 1, [⟨b56, 31, 1 * 1, List.flatMap cK [up]⟩], some ⟨b60, 0, none⟩, 2, [⟨b60, 3, 2 * 1, List.flatMap cI [t.root, kid]⟩]⟩ : PgO)]), (some ⟨b63, 0, none⟩), cp63, [⟨b63, 44, cp63 * 5, List.flatMap gO (L ++ [(⟨⟨false, [up], [t.root, kid], [], -1⟩, some ⟨b56, 0, none⟩, 1, [⟨b56, 31, 1 * 1, List.flatMap cK [up]⟩], some ⟨b60, 0, none⟩, 2, [⟨b60, 3, 2 * 1, List.flatMap cI [t.root, kid]⟩]⟩ : PgO)])⟩], (L.length : Nat), (ownL_row h163 h263), (fun o ho => by rcases List.mem_append.1 ho with ho | ho; exact hok o ho; rw [List.mem_singleton] at ho; subst ho; exact ⟨ownL_row (Nat.le_refl _) (show 1 ≤ maxLen by decide), ownL_row (Nat.le_refl _) (show 2 ≤ maxLen by decide)⟩), (by rw [root_ins he rfl]; show (⟨List.map PgO.p L ++ [_], ((List.map PgO.p L).length : Int)⟩ : TreeL) = _; rw [List.map_append, List.length_map]; rfl), (by rw [List.length_append]; simp; omega), rfl⟩
     ·have hc3' := hc3
      (try simp only [V.cnd, ne_eq] at hc3')
      have hm : m ≤ h := by omega
      have hP := pend_ok v hne hkl0 hrow hm he
      obtain ⟨s1, s2, s3, s4⟩ := pend_size v hne hkl0 hrow (by omega) he
      have hLm : L.length ≤ t.pages.length + m := by rw [← List.length_map (f := PgO.p)]; exact s2
      have hrg : 0 ≤ (nodeF t k h t.root m) ∧ (nodeF t k h t.root m) < L.length := by have := hP.rg; rw [← List.length_map (f := PgO.p)]; exact this
      have hj : (nodeF t k h t.root m).toNat < L.length := by omega
      have hpj : L[(nodeF t k h t.root m).toNat].p = (⟨L.map PgO.p, t.root⟩ : TreeL).pg (nodeF t k h t.root m) := map_pg (t := (⟨L.map PgO.p, t.root⟩ : TreeL)) rfl hP.rg hj
      have po : PageOk ((⟨L.map PgO.p, t.root⟩ : TreeL).pg (nodeF t k h t.root m)) (⟨L.map PgO.p, t.root⟩ : TreeL).pages.length := s4 _ (pg_mem hP.rg)
      have full := put_full po hP.out hP.len hP.high hP.nn hP.nnl
      obtain ⟨bx, rfl, hxl, hxc, rfl⟩ := hox.pos (by omega)
      have hoj := hok _ (List.getElem_mem hj)
      obtain ⟨o, ho⟩ : ∃ o, o = L[(nodeF t k h t.root m).toNat] := ⟨_, rfl⟩
      rw [← ho] at hoj hpj
      rcases o with ⟨p, ak, ck, sk, ai, ci, si⟩
      have hpe : p = (⟨L.map PgO.p, t.root⟩ : TreeL).pg (nodeF t k h t.root m) := hpj
      obtain ⟨hk1, hi1⟩ : OwnKs p.keys ak ck sk ∧ OwnI p.kids ai ci si := hoj
      rw [← hpe] at po full
      have hfew := po.few
      have hpl := place_le po up
      have hul := hP.len.2
      have hkids : (if p.leaf = true then placeF p up else placeF p up + 1) ≤ p.kids.length ∧ p.kids.length ≤ 5 := by cases hlf : p.leaf; (have := (po.node hlf).1; rw [if_neg (by decide)]; omega); (have := po.leaf hlf; rw [if_pos rfl]; omega)
      have hW : h - m < (pathF t k h t.root).length := by rw [path_len]; omega
      have hWn : (pathF t k h t.root)[h - m] = (nodeF t k h t.root m) := by have := path_node (t := t) (k := k) (h := h) (i := t.root) hm; exact (List.getElem?_eq_some_iff.1 this).2
      have hhigh := v.high
      have hmost := v.most
      have hperm : (L.flatMap bO).Perm (sk ++ (si ++ ((L.eraseIdx (nodeF t k h t.root m).toNat).flatMap bO))) := by have := perm_at bO hj; rw [← ho] at this; exact this.trans (by rw [show bO ⟨p, ak, ck, sk, ai, ci, si⟩ = sk ++ si from rfl, List.append_assoc])
      refine CD.perm (S' := ⟨b12, 26, 2, [.v (.slice (some ⟨bx, 0, none⟩) L.length cap), .v (.int .i64 t.root)]⟩ :: ⟨b6, 26, 2, [.v (.slice none 0 0), .v (.int .i64 0)]⟩ :: ⟨bx, 44, cap * 5, List.flatMap gO L⟩ :: (sk ++ (si ++ ((L.eraseIdx (nodeF t k h t.root m).toNat).flatMap bO)))) (List.Perm.cons _ (List.Perm.cons _ (List.Perm.cons _ hperm))) ?_
      refine CD.skip ?_
      refine CD.seq ?_
      refine CD.draw (bks _) (by kernel_rfl) (fun _ h => h) ?_
      refine a0_ 0 rfl (fa_ 0) ?_
      refine a0_ 1 rfl (lb_ 0) ?_
      refine a0_ 2 rfl mv_ ?_
      refine a0_ 3 rfl mv_ ?_
      refine a0_ 4 rfl (ix_ 1 (h := by first | exact .l (j := h - m) (by omega) hW | exact .r (j := h - m) (by omega) hW)) ?_
      refine a0_ 5 rfl (still_r1 (mk := Op.load 3) rfl ot (ld_fm0 (d := .v (.int .i64 (nodeF t k h t.root m))) (i := h - m) cI_len Try.isAgg3 hW (by rw [hWn]; rfl))) ?_
      refine a0_ 6 rfl (ix_ 5 (h := by first | exact .l (j := (nodeF t k h t.root m).toNat) (Int.toNat_of_nonneg hrg.1).symm hj | exact .r (j := (nodeF t k h t.root m).toNat) (Int.toNat_of_nonneg hrg.1).symm hj)) ?_
      refine a0_ 7 rfl mv_ ?_
      refine AD0.later rfl ?_
      refine AD.wk (y := ⟨131, [(6, _), (12, _), (13, _), (14, _), (15, _), (16, _), (17, _)], (⟨b12, 26, 2, [_, _]⟩ :: ⟨b6, 26, 2, [_, _]⟩ :: _ :: (sk ++ (si ++ ((L.eraseIdx (nodeF t k h t.root m).toNat).flatMap bO))))⟩) (Wk.as_ rfl rfl ⟨lk, lk, lk, lk, lk, lk, lk, trivial⟩) rfl ?_
      refine AD.done (by kernel_rfl) ?_
      refine sr_ ?_
      refine os_ mv_ ?_
      refine os_ nc_ ?_
      refine OD.still (wants_plain rfl) rfl (still_r1 (mk := Op.load 44) rfl ot (ld_rows (k := 2) (ls := L) (i := (nodeF t k h t.root m).toNat) gO_len rfl rfl rfl Try.isAgg44 Try.sizeOf44 hj)) ?_
      refine os_ mv_ ?_
      refine OD.look (wants_plain rfl) rfl rfl rfl Try.call27 (place_vp p up po.rise (by omega)) rfl ⟨⟨_, ot, (by rw [← ho]; exact view_agg ⟨view_same, view_own hk1 (fm_len cK_len _) (fun B hB => .tail _ (.tail _ (.tail _ (List.mem_append_left _ hB)))), view_own hi1 (fm_len cI_len _) (fun B hB => .tail _ (.tail _ (.tail _ (List.mem_append_right _ (List.mem_append_left _ hB))))), view_same, view_same, trivial⟩)⟩, ⟨_, ot, view_same⟩, trivial⟩ ?_
      refine os_ mv_ ?_
      refine OD.wk (Wk.as_ (n := 131) (l' := [(6, _), (12, _), (13, _), (14, _), (15, _), (16, _), (17, _), (18, _)]) (S' := (⟨b12, 26, 2, [_, _]⟩ :: ⟨b6, 26, 2, [_, _]⟩ :: _ :: (sk ++ (si ++ ((L.eraseIdx (nodeF t k h t.root m).toNat).flatMap bO))))) rfl rfl ⟨lk, lk, lk, lk, lk, lk, lk, lk, trivial⟩) ?_
      refine OD.nil ?_
      refine sr_ ?_
      refine os_ mv_ ?_
      refine os_ mv_ ?_
      refine os_ nc_ ?_
      refine os_ (fa_ 1) ?_
      refine OD.still (wants_plain rfl) rfl (still_r1 (mk := Op.load 42) rfl ot (ld_row (k := 2) (j := 1) (d := .v (.slice ak p.keys.length ck)) (ls := L) gO_len rfl rfl rfl Try.isAgg42 hj (by rw [← ho]; rfl))) ?_
      refine os_ mv_ ?_
      refine os_ mv_ ?_
      refine OD.bldS (pl := numD 0 [_]) (zvs := [.slice none 0 0]) (ds := [_]) (wants_plain rfl) rfl rfl Try.zeroValue31 Try.runUnderlying42 Try.sizeOf31 rfl rfl (by kernel_rfl) ⟨rfl, ot, trivial⟩ (by exact rfl) (fill_full (by exact rfl) (by exact rfl) (by exact rfl)) (fun b89 => ?_)
      refine OD.call (wants_plain rfl) rfl rfl rfl Try.call28 (insertK_vw p.keys (placeF p up) up ak ck sk b89 hpl (by omega) hk1) ⟨ot, ot, ot, trivial⟩ (List.Perm.cons _ (perm_r12 (A := [_, _, _]))) ?_
      rintro _ Sk2 ⟨ak2, ck2, rfl, hk2⟩
      refine OD.perm (perm_q12 (A := [_, _, _])) ?_
      refine os_ nc_ ?_
      refine os_ (fa_ 1) ?_
      refine OD.storeAt (k := 2) (cs' := List.flatMap gO (L.set (nodeF t k h t.root m).toNat (⟨{ p with keys := insF p.keys (placeF p up) up }, ak2, ck2, Sk2, ai, ci, si⟩ : PgO))) (wants_plain rfl) rfl rfl ot rfl rfl ot rfl rfl Try.sizeOf42 rfl (by show 0 + (nodeF t k h t.root m).toNat * 5 + 1 + 1 ≤ (List.flatMap gO L).length; rw [fm_len gO_len]; omega) (by show (L.flatMap gO).set (0 + (nodeF t k h t.root m).toNat * 5 + 1) _ = _; rw [Nat.zero_add]; exact fm_cellset gO_len (by decide) hj (by rw [← ho]; unfold gO; rw [insF_len hpl]; rfl)) ?_
      refine OD.wk (Wk.as_ (n := 131) (l' := [(6, _), (12, _), (13, _), (15, _), (16, _), (17, _), (18, _)]) (S' := (⟨b12, 26, 2, [_, _]⟩ :: ⟨b6, 26, 2, [_, _]⟩ :: _ :: (Sk2 ++ (si ++ ((L.eraseIdx (nodeF t k h t.root m).toNat).flatMap bO))))) rfl rfl ⟨lk, lk, lk, lk, lk, lk, lk, trivial⟩) ?_
      refine OD.nil ?_
      refine CD.cut (fun y__ => y__ = (⟨131, [(6, .v (.pointer (some ⟨b6, 0, none⟩))), (12, .v (.pointer (some ⟨b12, 0, none⟩))), (13, .list 1 ((pathF t k h t.root).flatMap cI) (pathF t k h t.root).length), (15, .v (.int .i64 kid)), (16, .v (.int .i64 ((h : Int) - (m : Nat)))), (17, .v (.pointer (some ⟨bx, 0 + (nodeF t k h t.root m).toNat * 5, none⟩))), (18, .v (.int .i64 (((if p.leaf = true then placeF p up else placeF p up + 1) : Nat) : Int)))], (⟨b12, 26, 2, [.v (.slice (some ⟨bx, 0, none⟩) L.length cap), .v (.int .i64 t.root)]⟩ :: ⟨b6, 26, 2, [.v (.slice none 0 0), .v (.int .i64 0)]⟩ :: ⟨bx, 44, cap * 5, List.flatMap gO (L.set (nodeF t k h t.root m).toNat (⟨{ p with keys := insF p.keys (placeF p up) up }, ak2, ck2, Sk2, ai, ci, si⟩ : PgO))⟩ :: (Sk2 ++ (si ++ ((L.eraseIdx (nodeF t k h t.root m).toNat).flatMap bO))))⟩ : St)) ?_ ?_
      ·skip
       refine sr_ ?_
       refine os_ mv_ ?_
       refine os_ nc_ ?_
       refine os_ (fa_ 0) ?_
       refine OD.still (wants_plain rfl) rfl (still_r1 (mk := Op.load 4) rfl ot (ld_row (k := 2) (j := 0) (d := .v (.bool p.leaf)) (ls := (L.set (nodeF t k h t.root m).toNat (⟨{ p with keys := insF p.keys (placeF p up) up }, ak2, ck2, Sk2, ai, ci, si⟩ : PgO))) gO_len rfl rfl rfl Try.isAgg4 (by rw [List.length_set]; exact hj) (by rw [List.getElem_set_self]; rfl))) ?_
       refine os_ un_ ?_
       refine OD.wk (Wk.as_ (n := 131) (l' := [(6, _), (12, _), (13, _), (15, _), (16, _), (17, _), (18, _), (97, _)]) (S' := (⟨b12, 26, 2, [_, _]⟩ :: ⟨b6, 26, 2, [_, _]⟩ :: _ :: (Sk2 ++ (si ++ ((L.eraseIdx (nodeF t k h t.root m).toNat).flatMap bO))))) rfl rfl ⟨lk, lk, lk, lk, lk, lk, lk, lk, trivial⟩) ?_
       refine OD.nil ?_
       refine CD.cond ot (fun hc4 => ?_) (fun hc4 => ?_)
       ·have hc4' := hc4
        (try simp only [V.cnd, ne_eq] at hc4')
        have hka : (((if p.leaf = true then placeF p up else placeF p up + 1) : Nat) : Int) = (((placeF p up) : Nat) : Int) + 1 := by rw [if_neg (by simpa using hc4)]; rfl
        refine CD.region ?_
        refine os_ mv_ ?_
        refine os_ bn_ ?_
        refine os_ mv_ ?_
        refine nm_ [6, 12, 13, 15, 16, 17, 18] ?_
        refine ⟨(⟨131, [(6, .v (.pointer (some ⟨b6, 0, none⟩))), (12, .v (.pointer (some ⟨b12, 0, none⟩))), (13, .list 1 ((pathF t k h t.root).flatMap cI) (pathF t k h t.root).length), (15, .v (.int .i64 kid)), (16, .v (.int .i64 ((h : Int) - (m : Nat)))), (17, .v (.pointer (some ⟨bx, 0 + (nodeF t k h t.root m).toNat * 5, none⟩))), (18, .v (.int .i64 (((if p.leaf = true then placeF p up else placeF p up + 1) : Nat) : Int)))], (⟨b12, 26, 2, [.v (.slice (some ⟨bx, 0, none⟩) L.length cap), .v (.int .i64 t.root)]⟩ :: ⟨b6, 26, 2, [.v (.slice none 0 0), .v (.int .i64 0)]⟩ :: ⟨bx, 44, cap * 5, List.flatMap gO (L.set (nodeF t k h t.root m).toNat (⟨{ p with keys := insF p.keys (placeF p up) up }, ak2, ck2, Sk2, ai, ci, si⟩ : PgO))⟩ :: (Sk2 ++ (si ++ ((L.eraseIdx (nodeF t k h t.root m).toNat).flatMap bO))))⟩ : St), Wk.asS (n := 131) rfl (by repeat (first | exact List.Sublist.refl _ | apply List.Sublist.cons_cons | apply List.Sublist.cons)) ⟨(by (repeat (first | exact look_hit | (apply look_at; focus (first | rfl | (rw [hka]; done) | (simp; done))) | (apply look_miss; focus rfl))); done), (by (repeat (first | exact look_hit | (apply look_at; focus (first | rfl | (rw [hka]; done) | (simp; done))) | (apply look_miss; focus rfl))); done), (by (repeat (first | exact look_hit | (apply look_at; focus (first | rfl | (rw [hka]; done) | (simp; done))) | (apply look_miss; focus rfl))); done), (by (repeat (first | exact look_hit | (apply look_at; focus (first | rfl | (rw [hka]; done) | (simp; done))) | (apply look_miss; focus rfl))); done), (by (repeat (first | exact look_hit | (apply look_at; focus (first | rfl | (rw [hka]; done) | (simp; done))) | (apply look_miss; focus rfl))); done), (by (repeat (first | exact look_hit | (apply look_at; focus (first | rfl | (rw [hka]; done) | (simp; done))) | (apply look_miss; focus rfl))); done), (by (repeat (first | exact look_hit | (apply look_at; focus (first | rfl | (rw [hka]; done) | (simp; done))) | (apply look_miss; focus rfl))); done), trivial⟩, rfl⟩
       ·have hc4' := hc4
        (try simp only [V.cnd, ne_eq] at hc4')
        have hka : (((if p.leaf = true then placeF p up else placeF p up + 1) : Nat) : Int) = (((placeF p up) : Nat) : Int) := by rw [if_pos (by simpa using hc4)]
        refine CD.skip ?_
        refine ⟨(⟨131, [(6, .v (.pointer (some ⟨b6, 0, none⟩))), (12, .v (.pointer (some ⟨b12, 0, none⟩))), (13, .list 1 ((pathF t k h t.root).flatMap cI) (pathF t k h t.root).length), (15, .v (.int .i64 kid)), (16, .v (.int .i64 ((h : Int) - (m : Nat)))), (17, .v (.pointer (some ⟨bx, 0 + (nodeF t k h t.root m).toNat * 5, none⟩))), (18, .v (.int .i64 (((if p.leaf = true then placeF p up else placeF p up + 1) : Nat) : Int)))], (⟨b12, 26, 2, [.v (.slice (some ⟨bx, 0, none⟩) L.length cap), .v (.int .i64 t.root)]⟩ :: ⟨b6, 26, 2, [.v (.slice none 0 0), .v (.int .i64 0)]⟩ :: ⟨bx, 44, cap * 5, List.flatMap gO (L.set (nodeF t k h t.root m).toNat (⟨{ p with keys := insF p.keys (placeF p up) up }, ak2, ck2, Sk2, ai, ci, si⟩ : PgO))⟩ :: (Sk2 ++ (si ++ ((L.eraseIdx (nodeF t k h t.root m).toNat).flatMap bO))))⟩ : St), Wk.asS (n := 131) rfl (by repeat (first | exact List.Sublist.refl _ | apply List.Sublist.cons_cons | apply List.Sublist.cons)) ⟨(by (repeat (first | exact look_hit | (apply look_at; focus (first | rfl | (rw [hka]; done) | (simp; done))) | (apply look_miss; focus rfl))); done), (by (repeat (first | exact look_hit | (apply look_at; focus (first | rfl | (rw [hka]; done) | (simp; done))) | (apply look_miss; focus rfl))); done), (by (repeat (first | exact look_hit | (apply look_at; focus (first | rfl | (rw [hka]; done) | (simp; done))) | (apply look_miss; focus rfl))); done), (by (repeat (first | exact look_hit | (apply look_at; focus (first | rfl | (rw [hka]; done) | (simp; done))) | (apply look_miss; focus rfl))); done), (by (repeat (first | exact look_hit | (apply look_at; focus (first | rfl | (rw [hka]; done) | (simp; done))) | (apply look_miss; focus rfl))); done), (by (repeat (first | exact look_hit | (apply look_at; focus (first | rfl | (rw [hka]; done) | (simp; done))) | (apply look_miss; focus rfl))); done), (by (repeat (first | exact look_hit | (apply look_at; focus (first | rfl | (rw [hka]; done) | (simp; done))) | (apply look_miss; focus rfl))); done), trivial⟩, rfl⟩
      rintro _ ⟨rfl⟩
      refine sr_ ?_
      refine os_ mv_ ?_
      refine os_ mv_ ?_
      refine os_ nc_ ?_
      refine os_ (fa_ 2) ?_
      refine OD.still (wants_plain rfl) rfl (still_r1 (mk := Op.load 22) rfl ot (ld_row (k := 2) (j := 2) (d := .v (.slice ai p.kids.length ci)) (ls := (L.set (nodeF t k h t.root m).toNat (⟨{ p with keys := insF p.keys (placeF p up) up }, ak2, ck2, Sk2, ai, ci, si⟩ : PgO))) gO_len rfl rfl rfl Try.isAgg22 (by rw [List.length_set]; exact hj) (by rw [List.getElem_set_self]; rfl))) ?_
      refine os_ mv_ ?_
      refine os_ mv_ ?_
      refine OD.bldS (pl := numD 0 [_]) (zvs := [.int .i64 0]) (ds := [_]) (wants_plain rfl) rfl rfl Try.zeroValue3 Try.runUnderlying22 Try.sizeOf3 rfl rfl (by kernel_rfl) ⟨rfl, ot, trivial⟩ (by exact rfl) (fill_full (by exact rfl) (by exact rfl) (by exact rfl)) (fun b107 => ?_)
      refine OD.call (wants_plain rfl) rfl rfl rfl Try.call29 (insertI_vw p.kids (if p.leaf = true then placeF p up else placeF p up + 1) kid ai ci si b107 hkids.1 (by omega) hi1) ⟨ot, ot, ot, trivial⟩ (List.Perm.cons _ (perm_r23 (A := [_, _, _]))) ?_
      rintro _ Si2 ⟨ai2, ci2, rfl, hi2⟩
      refine OD.perm (perm_q23 (A := [_, _, _])) ?_
      refine os_ nc_ ?_
      refine os_ (fa_ 2) ?_
      refine OD.storeAt (k := 2) (cs' := List.flatMap gO (L.set (nodeF t k h t.root m).toNat (⟨(putP p up kid), ak2, ck2, Sk2, ai2, ci2, Si2⟩ : PgO))) (wants_plain rfl) rfl rfl ot rfl rfl ot rfl rfl Try.sizeOf22 rfl (by show 0 + (nodeF t k h t.root m).toNat * 5 + 2 + 1 ≤ (List.flatMap gO (L.set (nodeF t k h t.root m).toNat (⟨{ p with keys := insF p.keys (placeF p up) up }, ak2, ck2, Sk2, ai, ci, si⟩ : PgO))).length; rw [fm_len gO_len, List.length_set]; omega) (by show (List.flatMap gO (L.set (nodeF t k h t.root m).toNat (⟨{ p with keys := insF p.keys (placeF p up) up }, ak2, ck2, Sk2, ai, ci, si⟩ : PgO))).set (0 + (nodeF t k h t.root m).toNat * 5 + 2) _ = _; rw [Nat.zero_add, fm_cellset gO_len (a' := (⟨(putP p up kid), ak2, ck2, Sk2, ai2, ci2, Si2⟩ : PgO)) (by decide) (by rw [List.length_set]; exact hj) (by rw [List.getElem_set_self]; show gO (⟨(putP p up kid), ak2, ck2, Sk2, ai2, ci2, Si2⟩ : PgO) = (gO (⟨{ p with keys := insF p.keys (placeF p up) up }, ak2, ck2, Sk2, ai, ci, si⟩ : PgO)).set 2 _; unfold gO; rw [show ((⟨(putP p up kid), ak2, ck2, Sk2, ai2, ci2, Si2⟩ : PgO)).p.kids.length = p.kids.length + 1 from insF_len hkids.1]; rfl), List.set_set]) ?_
      have hpm : (Sk2 ++ (Si2 ++ ((L.eraseIdx (nodeF t k h t.root m).toNat).flatMap bO))).Perm ((L.set (nodeF t k h t.root m).toNat (⟨(putP p up kid), ak2, ck2, Sk2, ai2, ci2, Si2⟩ : PgO)).flatMap bO) := by have := (perm_put bO hj (⟨(putP p up kid), ak2, ck2, Sk2, ai2, ci2, Si2⟩ : PgO)).symm; rw [show bO (⟨(putP p up kid), ak2, ck2, Sk2, ai2, ci2, Si2⟩ : PgO) = Sk2 ++ Si2 from rfl, List.append_assoc] at this; exact this
      refine OD.perm (S' := ⟨b12, 26, 2, [.v (.slice (some ⟨bx, 0, none⟩) (L.set (nodeF t k h t.root m).toNat (⟨(putP p up kid), ak2, ck2, Sk2, ai2, ci2, Si2⟩ : PgO)).length cap), .v (.int .i64 t.root)]⟩ :: ⟨b6, 26, 2, [.v (.slice none 0 0), .v (.int .i64 0)]⟩ :: (([⟨bx, 44, cap * 5, List.flatMap gO (L.set (nodeF t k h t.root m).toNat (⟨(putP p up kid), ak2, ck2, Sk2, ai2, ci2, Si2⟩ : PgO))⟩] : List Blk) ++ (L.set (nodeF t k h t.root m).toNat (⟨(putP p up kid), ak2, ck2, Sk2, ai2, ci2, Si2⟩ : PgO)).flatMap bO)) (by rw [List.length_set]; exact List.Perm.cons _ (List.Perm.cons _ (List.Perm.cons _ hpm))) ?_
      have hox2 : OwnP (L.set (nodeF t k h t.root m).toNat (⟨(putP p up kid), ak2, ck2, Sk2, ai2, ci2, Si2⟩ : PgO)) (some ⟨bx, 0, none⟩) cap [⟨bx, 44, cap * 5, List.flatMap gO (L.set (nodeF t k h t.root m).toNat (⟨(putP p up kid), ak2, ck2, Sk2, ai2, ci2, Si2⟩ : PgO))⟩] := ownL_row (by rw [List.length_set]; exact hxl) hxc
      have hok2 : ∀ o ∈ (L.set (nodeF t k h t.root m).toNat (⟨(putP p up kid), ak2, ck2, Sk2, ai2, ci2, Si2⟩ : PgO)), okO o := fun x hx => by rcases List.mem_or_eq_of_mem_set hx with hx | rfl; exact hok x hx; exact ⟨hk2, hi2⟩
      refine OD.wk (Wk.as_ (n := 131) (l' := [(6, _), (12, _), (13, _), (16, _), (17, _)]) (S' := (⟨b12, 26, 2, [_, _]⟩ :: ⟨b6, 26, 2, [_, _]⟩ :: ([⟨bx, 44, cap * 5, List.flatMap gO (L.set (nodeF t k h t.root m).toNat (⟨(putP p up kid), ak2, ck2, Sk2, ai2, ci2, Si2⟩ : PgO))⟩] ++ ((L.set (nodeF t k h t.root m).toNat (⟨(putP p up kid), ak2, ck2, Sk2, ai2, ci2, Si2⟩ : PgO)).flatMap bO)))) rfl rfl ⟨lk, lk, lk, lk, lk, trivial⟩) ?_
      refine OD.nil ?_
      refine CD.seq ?_
      refine sr_ ?_
      refine os_ mv_ ?_
      refine os_ nc_ ?_
      refine os_ (fa_ 1) ?_
      refine OD.still (wants_plain rfl) rfl (still_r1 (mk := Op.load 42) rfl ot (ld_row (k := 2) (j := 1) (d := .v (.slice ak2 (putP p up kid).keys.length ck2)) (ls := (L.set (nodeF t k h t.root m).toNat (⟨(putP p up kid), ak2, ck2, Sk2, ai2, ci2, Si2⟩ : PgO))) gO_len rfl rfl rfl Try.isAgg42 (by rw [List.length_set]; exact hj) (by rw [List.getElem_set_self]; rfl))) ?_
      refine os_ ln_ ?_
      refine os_ bn_ ?_
      refine OD.wk (Wk.as_ (n := 131) (l' := [(6, _), (12, _), (13, _), (16, _), (116, _)]) (S' := (⟨b12, 26, 2, [_, _]⟩ :: ⟨b6, 26, 2, [_, _]⟩ :: ([⟨bx, 44, cap * 5, List.flatMap gO (L.set (nodeF t k h t.root m).toNat (⟨(putP p up kid), ak2, ck2, Sk2, ai2, ci2, Si2⟩ : PgO))⟩] ++ ((L.set (nodeF t k h t.root m).toNat (⟨(putP p up kid), ak2, ck2, Sk2, ai2, ci2, Si2⟩ : PgO)).flatMap bO)))) rfl rfl ⟨lk, lk, lk, lk, lk, trivial⟩) ?_
      refine OD.nil ?_
      refine CD.cond ot (fun hc5 => ?_) (fun hc5 => ?_)
      ·have hc5' := hc5
       (try simp only [V.cnd, ne_eq] at hc5')
       have h4 : (putP p up kid).keys.length ≤ 4 := by have := of_decide_eq_true hc5; omega
       refine CD.exit ?_
       refine ⟨(⟨131, [(6, .v (.pointer (some ⟨b6, 0, none⟩))), (12, .v (.pointer (some ⟨b12, 0, none⟩)))], (⟨b12, 26, 2, [.v (.slice ((some ⟨bx, 0, none⟩)) ((L.set (nodeF t k h t.root m).toNat (⟨(putP p up kid), ak2, ck2, Sk2, ai2, ci2, Si2⟩ : PgO))).length (cap)), .v (.int .i64 (t.root))]⟩ :: ⟨b6, 26, 2, [.v (.slice none 0 0), .v (.int .i64 0)]⟩ :: (([⟨bx, 44, cap * 5, List.flatMap gO (L.set (nodeF t k h t.root m).toNat (⟨(putP p up kid), ak2, ck2, Sk2, ai2, ci2, Si2⟩ : PgO))⟩]) ++ ((L.set (nodeF t k h t.root m).toNat (⟨(putP p up kid), ak2, ck2, Sk2, ai2, ci2, Si2⟩ : PgO))).flatMap bO))⟩ : St), Wk.asS (n := 131) rfl (by repeat (first | exact List.Sublist.refl _ | apply List.Sublist.cons_cons | apply List.Sublist.cons)) ⟨lq_, lq_, trivial⟩, (L.set (nodeF t k h t.root m).toNat (⟨(putP p up kid), ak2, ck2, Sk2, ai2, ci2, Si2⟩ : PgO)), (some ⟨bx, 0, none⟩), cap, [⟨bx, 44, cap * 5, List.flatMap gO (L.set (nodeF t k h t.root m).toNat (⟨(putP p up kid), ak2, ck2, Sk2, ai2, ci2, Si2⟩ : PgO))⟩], t.root, hox2, hok2, (by rw [few_ins hm he (by rw [← hpe]; exact h4), ← hpe, List.map_set]; rfl), (by rw [List.length_set]; omega), rfl⟩
      ·have hc5' := hc5
       (try simp only [V.cnd, ne_eq] at hc5')
       have h4 : ¬ (putP p up kid).keys.length ≤ 4 := by have := of_decide_eq_false hc5; omega
       have h5 : (putP p up kid).keys.length = 5 := by have := full.few; omega
       refine CD.skip ?_
       refine CD.region ?_
       refine os_ mv_ ?_
       refine os_ mv_ ?_
       refine os_ (ix_ 1 (h := by first | exact .l (j := h - m) (by omega) hW | exact .r (j := h - m) (by omega) hW)) ?_
       refine OD.still (wants_plain rfl) rfl (still_r1 (mk := Op.load 3) rfl ot (ld_fm0 (d := .v (.int .i64 (nodeF t k h t.root m))) (i := h - m) cI_len Try.isAgg3 hW (by rw [hWn]; rfl))) ?_
       have hll : (L.set (nodeF t k h t.root m).toNat (⟨(putP p up kid), ak2, ck2, Sk2, ai2, ci2, Si2⟩ : PgO)).length = L.length := List.length_set ..
       refine OD.call (wants_plain rfl) rfl rfl rfl Try.call30 (split_vcp (L.set (nodeF t k h t.root m).toNat (⟨(putP p up kid), ak2, ck2, Sk2, ai2, ci2, Si2⟩ : PgO)) b12 t.root (nodeF t k h t.root m) (some ⟨bx, 0, none⟩) cap [⟨bx, 44, cap * 5, List.flatMap gO (L.set (nodeF t k h t.root m).toNat (⟨(putP p up kid), ak2, ck2, Sk2, ai2, ci2, Si2⟩ : PgO))⟩] (by rw [hll]; exact hrg) (putP p up kid) (by rw [List.getElem_set_self]) (by rw [hll]; omega) hox2 hok2 h5 (fun hl => by have := full.leaf hl; omega) (fun hl => by have := (full.node hl).1; omega) (fun x hx => (full.klen x hx).2) full.hlen) ⟨ot, ot, trivial⟩ (List.Perm.cons _ (List.perm_append_singleton _ _).symm) ?_
       rintro _ _ ⟨rfl, L3, ad3, cap3, Sx3, hox3, hok3, hL3, rfl⟩
       refine OD.perm (S' := ⟨b12, 26, 2, [.v (.slice ad3 L3.length cap3), .v (.int .i64 t.root)]⟩ :: ⟨b6, 26, 2, [.v (.slice none 0 0), .v (.int .i64 0)]⟩ :: (Sx3 ++ L3.flatMap bO)) (List.Perm.cons _ (List.perm_append_singleton _ _)) ?_
       have he3 : pendF t k row h (m + 1) = (⟨L3.map PgO.p, t.root⟩, some (upK (putP p up kid), ((L.set (nodeF t k h t.root m).toNat (⟨(putP p up kid), ak2, ck2, Sk2, ai2, ci2, Si2⟩ : PgO)).length : Int))) := by rw [full_ins hm he (by rw [← hpe]; exact h4), ← hpe, hL3, hll]; unfold addT; show (({ pages := (List.map PgO.p L).set _ _ ++ _, root := t.root } : TreeL), _) = _; rw [List.map_set, List.set_set, List.length_map]
       refine os_ mv_ ?_
       refine os_ ex_ ?_
       refine os_ ex_ ?_
       refine os_ mv_ ?_
       refine os_ mv_ ?_
       refine OD.wk (Wk.as_ (n := 131) (l' := [(6, _), (12, _), (13, _), (14, _), (15, _), (16, _)]) (S' := (⟨b12, 26, 2, [_, _]⟩ :: ⟨b6, 26, 2, [_, _]⟩ :: (Sx3 ++ (L3.flatMap bO)))) rfl rfl ⟨lk, lk, lk, lk, lk, lk, trivial⟩) ?_
       refine OD.nil ?_
       refine CD.region ?_
       refine os_ mv_ ?_
       refine os_ bn_ ?_
       refine os_ mv_ ?_
       refine nm_ [6, 12, 13, 14, 15, 16] ?_
       refine ⟨((m + 1), (upK (putP p up kid)), ((L.set (nodeF t k h t.root m).toNat (⟨(putP p up kid), ak2, ck2, Sk2, ai2, ci2, Si2⟩ : PgO)).length : Int), L3, ad3, cap3, Sx3), ⟨131, [(6, .v (.pointer (some ⟨b6, 0, none⟩))), (12, .v (.pointer (some ⟨b12, 0, none⟩))), (13, .list 1 ((pathF t k h t.root).flatMap cI) (pathF t k h t.root).length), (14, .list 1 (((upK (putP p up kid))).flatMap cB) ((upK (putP p up kid))).length), (15, .v (.int .i64 (((L.set (nodeF t k h t.root m).toNat (⟨(putP p up kid), ak2, ck2, Sk2, ai2, ci2, Si2⟩ : PgO)).length : Int)))), (16, .v (.int .i64 ((h : Int) - (((m + 1)) : Nat))))], (⟨b12, 26, 2, [.v (.slice ad3 L3.length cap3), .v (.int .i64 t.root)]⟩ :: ⟨b6, 26, 2, [.v (.slice none 0 0), .v (.int .i64 0)]⟩ :: (Sx3 ++ L3.flatMap bO))⟩, ?_, Wk.asS (n := 131) rfl (by repeat (first | exact List.Sublist.refl _ | apply List.Sublist.cons_cons | apply List.Sublist.cons)) ⟨lq_, lq_, lq_, lq_, lq_, lq_, trivial⟩, (by omega), he3, hox3, hok3, rfl⟩
       first | omega | (simp only []; omega)
    rintro _ ⟨L, ad, cap, Sx, root, hox, hok, hins, hLm, rfl⟩
    refine CD.seq ?_
    refine CD.seq ?_
    refine CD.region ?_
    refine os_ (fa_ 0) ?_
    refine os_ (lb_ 0) ?_
    refine os_ ln_ ?_
    refine os_ bn_ ?_
    refine nm_ [6, 12, 128] ?_
    refine CD.cond ot (fun hc6 => ?_) (fun hc6 => ?_)
    ·have hc6' := hc6
     (try simp only [V.cnd, ne_eq] at hc6')
     refine sr_ ?_
     refine OD.still (wants_plain rfl) rfl (still_bld (pl := []) (ds := [_, _]) rfl Try.zeroValue26 Try.runUnderlying26 places26_Twf trivial rfl rfl) ?_
     refine OD.store (k := 1) (cs' := [_, _]) (wants_plain rfl) rfl rfl ot rfl rfl ot rfl rfl Try.sizeOf26 rfl rfl rfl ?_
     refine os_ mv_ ?_
     refine OD.wk (Wk.as_ (n := 131) (l' := [(6, _), (7, _)]) (S' := (⟨b12, 26, 2, [_, _]⟩ :: ⟨b6, 26, 2, [_, _]⟩ :: (Sx ++ (L.flatMap bO)))) rfl rfl ⟨lk, lk, trivial⟩) ?_
     refine OD.nil ?_
     refine CD.ret ?_
     refine ⟨.inr rfl, _, [], List.nil_sublist _, ret_two Try.results14 (res_cells (k := 1) (ds := [_, _]) (Nat.le_of_ble_eq_true rfl) lk rfl rfl Try.isAgg26 Try.sizeOf26 rfl rfl) (res_tmp (Nat.le_of_ble_eq_true rfl) lk), ?_⟩
     unfold insE; rw [if_pos hz, if_neg (by omega), if_neg (by rw [hth]; decide), if_pos (by rw [hins]; show 4000 < (L.map PgO.p).length; rw [List.length_map]; omega)]; exact retE_no _
    ·have hc6' := hc6
     (try simp only [V.cnd, ne_eq] at hc6')
     refine CD.skip ?_
     refine sr_ ?_
     refine os_ (lab_ 0 [_, _]) ?_
     refine OD.store (k := 1) (cs' := [_, _]) (wants_plain rfl) rfl rfl ot rfl rfl ot rfl rfl Try.sizeOf26 rfl rfl rfl ?_
     refine os_ mv_ ?_
     refine OD.wk (Wk.as_ (n := 131) (l' := [(6, _), (7, _)]) (S' := (⟨b12, 26, 2, [_, _]⟩ :: ⟨b6, 26, 2, [_, _]⟩ :: (Sx ++ (L.flatMap bO)))) rfl rfl ⟨lk, lk, trivial⟩) ?_
     refine OD.nil ?_
     refine CD.ret ?_
     refine ⟨.inr rfl, _, (Sx ++ L.flatMap bO), (by repeat (first | exact List.Sublist.refl _ | apply List.Sublist.cons)), ret_two Try.results14 (res_cells (k := 1) (ds := [_, _]) (Nat.le_of_ble_eq_true rfl) lk rfl rfl Try.isAgg26 Try.sizeOf26 rfl rfl) (res_tmp (Nat.le_of_ble_eq_true rfl) lk), ?_⟩
     unfold insE; rw [if_pos hz, if_neg (by omega), if_neg (by rw [hth]; decide), if_neg (by rw [hins]; show ¬ 4000 < (L.map PgO.p).length; rw [List.length_map]; omega)]
     exact ⟨_, rfl, L, ad, cap, Sx, by rw [hins], hox, hok, by rw [hins], rfl⟩

end Go.Proofs.Ythnobhekodiciaa.Tw

namespace Go.Proofs.Ythnobhekodiciaa.Tr
open Go.Lib (compareBytes)
set_option linter.unusedVariables false
set_option linter.unusedSimpArgs false
variable {t : TreeL} {h : Nat} {k : K}

theorem okT_same (hp : ∀ p ∈ t.pages, PageOk p t.pages.length) : ∀ {h h' : Nat} {i : Int} {a b c d : K}, OkT t h i a b → OkT t h' i c d → h = h'
 | 0, 0, _, _, _, _, _, _, _ => rfl
 | 0, h' + 1, i, _, _, _, _, h1, h2 => by have := h1.2.1; rw [h2.2.1] at this; cases this
 | h + 1, 0, i, _, _, _, _, h1, h2 => by have := h1.2.1; rw [h2.2.1] at this; cases this
 | h + 1, h' + 1, i, _, _, _, _, h1, h2 => by
  obtain ⟨p1, p2, p3, p4, p5⟩ := h1
  obtain ⟨q1, q2, q3, q4, q5⟩ := h2
  have hn := ((hp _ (pg_mem p1)).node p2).1
  have := okT_same hp (p5 0 (by omega)) (q5 0 (by omega))
  rw [this]
/-- How high a tree is. -/
noncomputable def hOf (t : TreeL) : Nat := Classical.epsilon fun h => Valid t h
theorem hOf_valid (v : Valid t h) : Valid t (hOf t) := Classical.epsilon_spec (p := fun h => Valid t h) ⟨h, v⟩
theorem hOf_eq (v : Valid t h) : hOf t = h := okT_same v.page (hOf_valid v).ok v.ok
noncomputable def entsOf (t : TreeL) : List (K × Int) := allE t (hOf t)
theorem ids_pow (hp : ∀ p ∈ t.pages, PageOk p t.pages.length) : ∀ {h : Nat} {i : Int} {a b : K}, OkT t h i a b → 2 ^ h ≤ (ids t h i).length
 | 0, i, _, _, _ => by simp [ids]
 | h + 1, i, _, _, ok => by
  obtain ⟨p1, p2, p3, p4, p5⟩ := ok
  have hn := (hp _ (pg_mem p1)).node p2
  have hk : 1 ≤ (t.pg i).keys.length := by
   have := hn.2
   cases hkk : (t.pg i).keys with
   | nil => exact absurd hkk this
   | cons _ _ => simp
  have h0 := ids_pow hp (p5 0 (by omega))
  have h1 := ids_pow hp (p5 1 (by omega))
  have key : ∀ (l : List Int) (h2 : 2 ≤ l.length), 2 ^ h ≤ (ids t h (l[0]'(by omega))).length → 2 ^ h ≤ (ids t h (l[1]'(by omega))).length → 2 ^ h + 2 ^ h ≤ (l.flatMap (ids t h)).length := by
   intro l h2 a0 a1
   match l, h2 with
   | x :: y :: r, _ =>
    simp only [List.flatMap_cons, List.length_append]
    simp only [List.getElem_cons_zero, List.getElem_cons_succ] at a0 a1
    omega
  have := key _ (by omega) h0 h1
  rw [ids, List.length_cons, Nat.pow_succ]; omega
theorem high_11 (v : Valid t h) : h ≤ 11 := by
 have h1 := ids_pow v.page v.ok
 rw [v.all] at h1
 have h2 := v.most
 refine Nat.le_of_not_lt fun h3 => ?_
 have : 2 ^ 12 ≤ 2 ^ h := Nat.pow_le_pow_right (by decide) h3
 omega
/-- A tree that has grown so many times at most. -/
structure GoodT (t : TreeL) (n : Nat) : Prop where
  val : Valid t (hOf t)
  few : t.pages.length ≤ 1 + 13 * n
theorem GoodT.mono {n m : Nat} (g : GoodT t n) (h : n ≤ m) : GoodT t m := ⟨g.val, by have := g.few; omega⟩
theorem good_new : GoodT newT 0 := ⟨hOf_valid new_valid, by decide⟩
theorem good_ins {n : Nat} {row : Int} (g : GoodT t n) (hn : n ≤ 300) (hno : ∀ x ∈ entsOf t, x.1 ≠ k) (hk : 1 ≤ k.length ∧ k.length ≤ 100) (hr : 0 ≤ row) :
  GoodT (insT t (hOf t) k row) (n + 1) ∧ (insT t (hOf t) k row).pages.length ≤ 4000 ∧ ∀ x, x ∈ entsOf (insT t (hOf t) k row) ↔ x = (k, row) ∨ x ∈ entsOf t := by
 have h11 := high_11 g.val
 have hf := g.few
 obtain ⟨h', _, v, ⟨_, hm⟩, he⟩ := ins_valid g.val hno hk hr (by omega)
 refine ⟨⟨hOf_valid v, by omega⟩, v.most, fun x => ?_⟩
 unfold entsOf
 rw [hOf_eq v]; exact he x
theorem good_del {n : Nat} (g : GoodT t n) (ht : thereF t k (hOf t)) : GoodT (delT t (hOf t) k) n ∧ ∀ x, x ∈ entsOf (delT t (hOf t) k) ↔ x ∈ entsOf t ∧ x.1 ≠ k := by
 obtain ⟨v, hl, he⟩ := del_valid g.val ht
 refine ⟨⟨hOf_valid v, by have := g.few; omega⟩, fun x => ?_⟩
 unfold entsOf
 rw [hOf_eq v]; exact he x
end Go.Proofs.Ythnobhekodiciaa.Tr

namespace Go.Proofs.Ythnobhekodiciaa.Tw
open Go.RowKit V Go.Proofs.Ythnobhekodiciaa.Tr Pk
set_option linter.unusedVariables false
set_option linter.unusedSimpArgs false

open Go.Lib (compareBytes)
/-- The key of a number. -/
def keyM (m : Nat) : K := [UInt8.ofNat (97 + m % 9), UInt8.ofNat (97 + m / 9)]
def keyN (n : Int) : K := keyM (pickedF n 90).toNat
theorem keyN_len (n : Int) : (keyN n).length = 2 := rfl
theorem keyN_ok (n : Int) : 1 ≤ (keyN n).length ∧ (keyN n).length ≤ 100 := by rw [keyN_len]; decide
theorem keyQ_ok {k : K} (h : 1 ≤ k.length ∧ k.length ≤ 100) : keyQ k = true := decide_eq_true h
theorem key_w1 (m : Nat) : IntKind.u8.wrap (97 + ((m % 9 : Nat) : Int)) = ((UInt8.ofNat (97 + m % 9)).toNat : Int) := by
 rw [UInt8.toNat_ofNat']; show (97 + ((m % 9 : Nat) : Int)) % 256 = _; omega
theorem key_w2 (m : Nat) : IntKind.u8.wrap (97 + ((m / 9 : Nat) : Int)) = ((UInt8.ofNat (97 + m / 9)).toNat : Int) := by
 rw [UInt8.toNat_ofNat']; show (97 + ((m / 9 : Nat) : Int)) % 256 = _; omega
theorem ref_ok {t : TreeL} {n : Nat} {k : K} (g : GoodT t n) (hk : 1 ≤ k.length ∧ k.length ≤ 100) : refF t k = 0 := refF_ok (check_ok g.val) (keyQ_ok hk)
theorem there_has {t : TreeL} {n : Nat} (g : GoodT t n) (k : K) : thereB t k (hOf t) = true ↔ ∃ row, (k, row) ∈ entsOf t := (thereB_iff g.val k).trans (there_iff g.val k)
theorem there_no {t : TreeL} {n : Nat} (g : GoodT t n) {k : K} : thereB t k (hOf t) = false ↔ ∀ x ∈ entsOf t, x.1 ≠ k := by
 constructor
 ·exact fun h => not_there g.val h
 ·intro h
  cases hq : thereB t k (hOf t) with
  | false => rfl
  | true => obtain ⟨row, hr⟩ := (there_has g k).1 hq; exact absurd rfl (h _ hr)
theorem ins_yes {t : TreeL} {n : Nat} {k : K} {row : Int} (g : GoodT t n) (hk : 1 ≤ k.length ∧ k.length ≤ 100) (hr : 0 ≤ row) (h : thereB t k (hOf t) = true) : insE t k row (hOf t) = (noT, 9) := by
 unfold insE; rw [if_pos (ref_ok g hk), if_neg (by omega), if_pos h]
theorem ins_no {t : TreeL} {n : Nat} {k : K} {row : Int} (g : GoodT t n) (hn : n ≤ 300) (hk : 1 ≤ k.length ∧ k.length ≤ 100) (hr : 0 ≤ row) (h : thereB t k (hOf t) = false) : insE t k row (hOf t) = (insT t (hOf t) k row, 0) := by
 have := (good_ins g hn ((there_no g).1 h) hk hr).2.1
 unfold insE; rw [if_pos (ref_ok g hk), if_neg (by omega), if_neg (by rw [h]; decide), if_neg (by omega)]
theorem del_yes {t : TreeL} {n : Nat} {k : K} (g : GoodT t n) (hk : 1 ≤ k.length ∧ k.length ≤ 100) (h : thereB t k (hOf t) = true) : delF t k (hOf t) = (delT t (hOf t) k, 0) := by
 unfold delF; rw [if_pos (ref_ok g hk), if_pos h]
theorem del_no {t : TreeL} {n : Nat} {k : K} (g : GoodT t n) (hk : 1 ≤ k.length ∧ k.length ≤ 100) (h : thereB t k (hOf t) = false) : delF t k (hOf t) = (noT, 8) := by
 unfold delF; rw [if_pos (ref_ok g hk), if_neg (by rw [h]; decide)]
/-- One number more. -/
noncomputable def stepT (t : TreeL) (i : Nat) (x : Int) : TreeL := if x < 0 then (if thereB t (keyN x) (hOf t) = true then delT t (hOf t) (keyN x) else t) else (if thereB t (keyN x) (hOf t) = true then t else insT t (hOf t) (keyN x) i)
noncomputable def treeN (l : List Int) : Nat → TreeL
 | 0 => newT
 | n + 1 => stepT (treeN l n) n (l.getD n 0)
noncomputable def treeL (l : List Int) : TreeL := treeN l (min l.length 70)
theorem good_step {t : TreeL} {n i : Nat} {x : Int} (g : GoodT t n) (hn : n ≤ 300) : GoodT (stepT t i x) (n + 1) := by
 unfold stepT
 split
 ·split
  ·rename_i h; exact (good_del g ((thereB_iff g.val _).1 h)).1.mono (by omega)
  ·exact g.mono (by omega)
 ·split
  ·exact g.mono (by omega)
  ·rename_i h; exact (good_ins g hn ((there_no g).1 (by simpa using h)) (keyN_ok x) (by omega)).1
theorem good_treeN (l : List Int) : ∀ {n : Nat}, n ≤ 300 → GoodT (treeN l n) n
 | 0, _ => good_new
 | n + 1, h => good_step (good_treeN l (by omega)) (by omega)
theorem good_treeL (l : List Int) : GoodT (treeL l) 70 := (good_treeN l (by omega)).mono (by omega)
theorem good_hb {t : TreeL} {n : Nat} (g : GoodT t n) : ∀ p ∈ t.pages, p.keys.length ≤ maxLen ∧ p.kids.length ≤ maxLen := valid_hb g.val
variable {G : List (Nat × List Value)}
theorem check_g {t : TreeL} {n : Nat} (g : GoodT t n) : VP Try.prog G 19 [.agg (cT t)] (.v (.int .i64 0)) := by have := check_vp (G := G) t (good_hb g); rwa [check_ok g.val] at this
set_option maxHeartbeats 4000000 in
set_option maxRecDepth 100000 in
theorem key_vpN (n : Int) (h1 : -9223372036854775808 ≤ n) (h2 : n ≤ 9223372036854775807) : VP Try.prog G 15 [.v (.int .i64 n)] (.list 1 ((keyN n).flatMap cB) (keyN n).length) := by
 refine VC.body Try.func15 rfl Try.ntmps15 (Nat.le_of_ble_eq_true rfl) fun X0 w0 S00 => ?_
 have hmx : maxLen = 9223372036854775807 := rfl
 have hpb := pickedF_bd n (by decide : (1 : Int) ≤ 90)
 obtain ⟨m, hm⟩ := Int.eq_ofNat_of_zero_le hpb.1
 have hm90 : m < 90 := by omega
 have hpk := picked_vp G n 90 h1 h2 (by decide)
 rw [hm] at hpk
 have hkm : keyN n = keyM m := by unfold keyN; rw [hm]; rfl
 rw [hkm]
 refine sr_ ?_
 refine os_ mv_ ?_
 refine nm_ [0] ?_
 refine sr_ ?_
 refine os_ mv_ ?_
 refine OD.callP (wants_plain rfl) rfl rfl rfl Try.call12 (hpk) ⟨ot, opd_const, trivial⟩ ?_
 refine os_ mv_ ?_
 refine OD.wk (Wk.as_ (n := 15) (l' := [(3, _)]) (S' := []) rfl rfl ⟨lk, trivial⟩) ?_
 refine OD.nil ?_
 refine sr_ ?_
 refine os_ mv_ ?_
 refine OD.still (wants_plain rfl) rfl (still_bin (r := .int .i64 ((m % 9 : Nat) : Int)) rfl ot opd_const (bin_rem (a := (m : Int)) (b := 9) (by omega))) ?_
 refine OD.still (wants_plain rfl) rfl (still_bin (r := .int .i64 (97 + ((m % 9 : Nat) : Int))) rfl opd_const ot (bin_add (wrap_i64 (by omega) (by omega)))) ?_
 refine OD.still (wants_plain rfl) rfl (still_conv (r := .int .u8 ((UInt8.ofNat (97 + m % 9)).toNat : Int)) rfl ot (conv_int Try.runUnderlying3 Try.runUnderlying5 (key_w1 m))) ?_
 refine os_ mv_ ?_
 refine OD.still (wants_plain rfl) rfl (still_bin (r := .int .i64 ((m / 9 : Nat) : Int)) rfl ot opd_const (bin_quo (a := (m : Int)) (b := 9) (by omega) (wrap_i64 (by show -9223372036854775808 ≤ ((m / 9 : Nat) : Int); omega) (by show ((m / 9 : Nat) : Int) ≤ 9223372036854775807; omega)))) ?_
 refine OD.still (wants_plain rfl) rfl (still_bin (r := .int .i64 (97 + ((m / 9 : Nat) : Int))) rfl opd_const ot (bin_add (wrap_i64 (by omega) (by omega)))) ?_
 refine OD.still (wants_plain rfl) rfl (still_conv (r := .int .u8 ((UInt8.ofNat (97 + m / 9)).toNat : Int)) rfl ot (conv_int Try.runUnderlying3 Try.runUnderlying5 (key_w2 m))) ?_
 refine OD.bldS (pl := numD 0 [_, _]) (zvs := [.int .u8 0, .int .u8 0]) (ds := [_, _]) (wants_plain rfl) rfl rfl Try.zeroValue5 Try.runUnderlying31 Try.sizeOf5 rfl rfl (by kernel_rfl) ⟨rfl, ot, rfl, ot, trivial⟩ (by exact rfl) (fill_full (by exact rfl) (by exact rfl) (by exact rfl)) (fun b14 => ?_)
 refine OD.perm (perm_q11 (S1 := [⟨b14, 5, 2 * 1, List.flatMap cB ([UInt8.ofNat (97 + m % 9), UInt8.ofNat (97 + m / 9)])⟩]) (A := [])) ?_
 refine os_ mv_ ?_
 refine OD.wk (Wk.as_ (n := 15) (l' := [(2, _)]) (S' := ([⟨b14, 5, 2 * 1, List.flatMap cB ([UInt8.ofNat (97 + m % 9), UInt8.ofNat (97 + m / 9)])⟩])) rfl rfl ⟨lk, trivial⟩) ?_
 refine OD.nil ?_
 refine CD.giveL (t := 2) (Sq := [⟨b14, 5, 2 * 1, List.flatMap cB ([UInt8.ofNat (97 + m % 9), UInt8.ofNat (97 + m / 9)])⟩]) lk (ownL_row (g := cB) (sz := 1) (e := 5) (ls := [UInt8.ofNat (97 + m % 9), UInt8.ofNat (97 + m / 9)]) (Nat.le_refl _) (show 2 ≤ maxLen by decide)) (fm_len cB_len _) (perm_r11 (A := [])) ?_
 refine CD.ret ?_
 refine ⟨.inr rfl, _, [], List.nil_sublist _, ret_one Try.results15 (res_tmp (Nat.le_of_ble_eq_true rfl) lk), ?_⟩
 exact ⟨rfl, rfl⟩

end Go.Proofs.Ythnobhekodiciaa.Tw

namespace Go.Proofs.Ythnobhekodiciaa.Tw
open Go.RowKit V Go.Proofs.Ythnobhekodiciaa.Tr Pk
set_option linter.unusedVariables false
set_option linter.unusedSimpArgs false

/-- Numbers as they are told. -/
abbrev WfI (l : List Int) : Prop := ∀ x ∈ l, -9223372036854775808 ≤ x ∧ x ≤ 9223372036854775807
theorem treeN_succ {l : List Int} {i : Nat} (hi : i < l.length) : treeN l (i + 1) = stepT (treeN l i) i l[i] := by
 show stepT (treeN l i) i (l.getD i 0) = _
 rw [List.getD_eq_getElem?_getD, List.getElem?_eq_getElem hi]; rfl
variable {G : List (Nat × List Value)}

end Go.Proofs.Ythnobhekodiciaa.Tw

namespace Go.Proofs.Ythnobhekodiciaa.Tw
open Go.RowKit V Go.Proofs.Ythnobhekodiciaa.Tr Pk
set_option linter.unusedVariables false
set_option linter.unusedSimpArgs false

open Go.Lib (compareBytes)
theorem rd_ints {H : Type} {enc : TypeId × Value → H} {w : World} {base b' : Nat} {sp : Nat → Bool} {held : Bool} {v : Value} {d : DataW H} {p : List MemPlace} (hval : Value.okWide Try.prog w .any b' 22 v) (h : DataW.Trod enc Try.prog w base sp held 22 v d p) :
  ∃ l : List Int, Rep w (fun _ => False) (.list 1 (l.flatMap cI) l.length) v ∧ (l.length ≤ maxLen ∧ WfI l) ∧ True := by
 obtain ⟨l, h1, h2, h3⟩ := rd_slice Try.underlying22 (by kernel_rfl) (by decide) (rd_int Try.underlying3) cI_len hval h
 exact ⟨l, h1, ⟨h3, h2⟩, trivial⟩
variable {G : List (Nat × List Value)}

end Go.Proofs.Ythnobhekodiciaa.Tw

namespace Go.Proofs.Ythnobhekodiciaa.Tr
open Go.Lib (compareBytes)
set_option linter.unusedVariables false
set_option linter.unusedSimpArgs false
variable {t u : TreeL} {h : Nat} {k : K}

theorem fm_sub {α β : Type} {f g : α → List β} : ∀ {l : List α}, (∀ a ∈ l, (f a).Sublist (g a)) → (l.flatMap f).Sublist (l.flatMap g)
 | [], _ => List.Sublist.refl _
 | a :: l, h => by
  rw [List.flatMap_cons, List.flatMap_cons]
  exact (h a List.mem_cons_self).append (fm_sub fun b hb => h b (List.mem_cons_of_mem _ hb))
theorem lvl_sub : ∀ {d h : Nat}, d ≤ h → ∀ (i : Int), (lvl t d i).Sublist (ids t h i)
 | 0, 0, _, i => List.Sublist.refl _
 | 0, h + 1, _, i => by
  rw [lvl, ids]; exact List.Sublist.cons_cons _ (List.nil_sublist _)
 | d + 1, 0, hd, i => by omega
 | d + 1, h + 1, hd, i => by
  rw [lvl, ids]; exact List.Sublist.cons _ (fm_sub fun c _ => lvl_sub (by omega) c)
theorem ids_lvl : ∀ {h : Nat} {i x : Int}, x ∈ ids t h i → ∃ d, d ≤ h ∧ x ∈ lvl t d i
 | 0, i, x, hx => ⟨0, Nat.le_refl _, hx⟩
 | h + 1, i, x, hx => by
  rw [ids] at hx
  rcases List.mem_cons.1 hx with rfl | hx
  ·exact ⟨0, by omega, by simp [lvl]⟩
  ·obtain ⟨c, hc, hx⟩ := List.mem_flatMap.1 hx
   obtain ⟨d, hd, hx⟩ := ids_lvl hx
   exact ⟨d + 1, by omega, by rw [lvl]; exact List.mem_flatMap.2 ⟨c, hc, hx⟩⟩
theorem nodup_few {α : Type} [DecidableEq α] : ∀ {a b : List α}, a.Nodup → (∀ x ∈ a, x ∈ b) → a.length ≤ b.length
 | [], _, _, _ => Nat.zero_le _
 | x :: a, b, hn, hs => by
  obtain ⟨h1, h2⟩ := List.nodup_cons.1 hn
  have hx := hs x List.mem_cons_self
  have := nodup_few (b := b.erase x) h2 fun y hy => (List.mem_erase_of_ne (fun (e : y = x) => h1 (by rw [← e]; exact hy))).2 (hs y (List.mem_cons_of_mem _ hy))
  rw [List.length_erase_of_mem hx] at this
  have := List.length_pos_of_mem hx
  rw [List.length_cons]; omega
theorem all_ids (v : Valid t h) {x : Int} (hx : 0 ≤ x ∧ x < t.pages.length) : x ∈ ids t h t.root := by
 refine Classical.byContradiction fun hn => ?_
 have h1 : (x :: ids t h t.root).Nodup := List.nodup_cons.2 ⟨hn, v.once⟩
 have := nodup_few (b := (List.range t.pages.length).map Int.ofNat) h1 fun y hy => by
  have hy : 0 ≤ y ∧ y < t.pages.length := by
   rcases List.mem_cons.1 hy with rfl | hy
   ·exact hx
   ·exact v.ok.ids y hy
  exact List.mem_map.2 ⟨y.toNat, List.mem_range.2 (by omega), by show ((y.toNat : Nat) : Int) = y; omega⟩
 rw [List.length_cons, v.all, List.length_map, List.length_range] at this; omega

open Classical in
theorem check_pageB (h : ¬ PagesOk t) : checkF t = 11 := by
 unfold checkF; split
 ·rfl
 ·first | rfl | rw [if_pos h]
open Classical in
theorem check_noneB (hw : wlkF t (t.pages.length + 1) t.root [] [] 0 ([], []) = none) : checkF t = 11 := by
 unfold checkF; split
 ·rfl
 ·split
  ·rfl
  ·rw [hw]
open Classical in
theorem check_segB {d : Nat} {m : List Int} {lv : List (List Int)} (hw : wlkF t (t.pages.length + 1) t.root [] [] 0 ([], []) = some (d, m, lv)) (h : ¬ ∀ l ∈ lv, Seg t l (-1)) : checkF t = 11 := by
 unfold checkF; split
 ·rfl
 ·split
  ·rfl
  ·rw [hw]
   show (if m.length ≠ t.pages.length then _ else if ∀ l ∈ lv, Seg t l (-1) then (0 : Int) else 11) = 11
   split
   ·rfl
   ·first | rfl | rw [if_neg h]

/-- One page is another one. -/
theorem setp_pg {x : Int} (hx : 0 ≤ x ∧ x < t.pages.length) (q : PgL) : (t.set x q).pg x = q := by
  unfold TreeL.pg TreeL.set
  rw [List.getD_eq_getElem?_getD, List.getElem?_set_self (by omega)]; rfl
theorem setp_ne {x y : Int} (hx : 0 ≤ x) (hy : 0 ≤ y) (hne : y ≠ x) (q : PgL) : (t.set x q).pg y = t.pg y := by
 unfold TreeL.pg TreeL.set
 rw [List.getD_eq_getElem?_getD, List.getD_eq_getElem?_getD, List.getElem?_set_ne (by omega)]
theorem setp_len (x : Int) (q : PgL) : (t.set x q).pages.length = t.pages.length := by unfold TreeL.set; simp
theorem bad_page {x : Int} (hx : 0 ≤ x ∧ x < t.pages.length) {q : PgL} (h : ¬ PageOk q t.pages.length) : checkF (t.set x q) = 11 :=
 check_pageB fun hp => h (by
  have := hp q (by have h1 := pg_mem (t := t.set x q) (i := x) (by rw [setp_len]; exact hx); rwa [setp_pg hx q] at h1)
  rwa [setp_len] at this)
theorem bad_leaf (v : Valid t h) {x : Int} (hx : 0 ≤ x ∧ x < t.pages.length) : checkF (t.set x { t.pg x with leaf := !(t.pg x).leaf }) = 11 := bad_page hx fun po => by
 have p0 := v.page _ (pg_mem hx)
 cases hl : (t.pg x).leaf with
 | true => have h1 := p0.leaf hl; have h2 := (po.node (by simp [hl])).1; simp only at h2; omega
 | false => have h1 := (p0.node hl).1; have h2 := po.leaf (by simp [hl]); simp only at h2; omega
theorem bad_kids (v : Valid t h) {x : Int} (hx : 0 ≤ x ∧ x < t.pages.length) : checkF (t.set x { t.pg x with kids := (t.pg x).kids ++ [0] }) = 11 := bad_page hx fun po => by
 have p0 := v.page _ (pg_mem hx)
 cases hl : (t.pg x).leaf with
 | true => have h1 := p0.leaf hl; have h2 := po.leaf hl; simp only [List.length_append, List.length_cons, List.length_nil] at h2; omega
 | false => have h1 := (p0.node hl).1; have h2 := (po.node hl).1; simp only [List.length_append, List.length_cons, List.length_nil] at h2; omega

/-! ### A page that leads to itself -/
theorem kids_same {go go' : Int → K → K → Met → Option (Nat × Met)} {low : K} {p p' : PgL} (hk : p.keys = p'.keys) (hh : p.high = p'.high) (hg : ∀ c lo hi s, go c lo hi s = go' c lo hi s) : ∀ (cs : List Int) (k : Nat) (deep : Option Nat) (s : Met), kidsF go low p cs k deep s = kidsF go' low p' cs k deep s
 | [], _, _, _ => rfl
 | c :: cs, k, deep, s => by
  rw [kidsF, kidsF]
  have e1 : loK low p k = loK low p' k := by unfold loK; rw [hk]
  have e2 : hiK p k = hiK p' k := by unfold hiK; rw [hk, hh]
  rw [e1, e2, hg]
  cases go' c (loK low p' k) (hiK p' k) s with
  | none => rfl
  | some r => obtain ⟨d, s'⟩ := r; simp only; split; exact kids_same hk hh hg cs (k + 1) (some d) s'; rfl
theorem wlk_same (hs : ∀ j, (u.pg j).leaf = (t.pg j).leaf ∧ (u.pg j).keys = (t.pg j).keys ∧ (u.pg j).kids = (t.pg j).kids ∧ (u.pg j).high = (t.pg j).high) : ∀ (f : Nat) (i : Int) (low high : K) (level : Nat) (s : Met), wlkF u f i low high level s = wlkF t f i low high level s
 | 0, _, _, _, _, _ => rfl
 | f + 1, i, low, high, level, s => by
  obtain ⟨h1, h2, h3, h4⟩ := hs i
  rw [wlkF, wlkF, h1, h2, h3, h4, kids_same h2 h4 (fun c lo hi s => wlk_same hs f c lo hi (level + 1) s)]
theorem seg_self {x : Int} : ∀ {l : List Int}, x ∈ l → l.Nodup → 0 ≤ x → (u.pg x).next = x → ¬ Seg u l (-1)
 | [], hm, _, _, _, _ => by cases hm
 | [a], hm, _, h0, hx, hs => by
  rw [List.mem_singleton] at hm; subst hm
  have : (u.pg x).next = -1 := hs
  omega
 | a :: b :: r, hm, hn, h0, hx, hs => by
  obtain ⟨s1, s2⟩ := hs
  rcases List.mem_cons.1 hm with rfl | hm
  ·rw [hx] at s1
   subst s1
   exact (List.nodup_cons.1 hn).1 List.mem_cons_self
  ·exact seg_self hm (List.nodup_cons.1 hn).2 h0 hx s2
theorem bad_next (v : Valid t h) {x : Int} (hx : 0 ≤ x ∧ x < t.pages.length) : checkF (t.set x { t.pg x with next := x }) = 11 := by
 obtain ⟨lv, e, l, mm⟩ := wlk_ok v.page (f := t.pages.length + 1) (level := 0) (s := ([], [])) (by have := v.high; omega) v.ok (fun x _ hx => by cases hx) v.once
 obtain ⟨u, hu⟩ : ∃ u, u = t.set x { t.pg x with next := x } := ⟨_, rfl⟩
 rw [← hu]
 have hul : u.pages.length = t.pages.length := by rw [hu, setp_len]
 have hur : u.root = t.root := by rw [hu]; rfl
 have hux : u.pg x = { t.pg x with next := x } := by rw [hu]; exact setp_pg hx _
 have hs : ∀ j, (u.pg j).leaf = (t.pg j).leaf ∧ (u.pg j).keys = (t.pg j).keys ∧ (u.pg j).kids = (t.pg j).kids ∧ (u.pg j).high = (t.pg j).high := fun j => by
  by_cases ej : j.toNat = x.toNat
  ·have e1 : u.pg j = u.pg x := by unfold TreeL.pg; rw [ej]
   have e2 : t.pg j = t.pg x := by unfold TreeL.pg; rw [ej]
   rw [e1, e2, hux]; exact ⟨rfl, rfl, rfl, rfl⟩
  ·have : u.pg j = t.pg j := by
    rw [hu]; unfold TreeL.pg TreeL.set
    rw [List.getD_eq_getElem?_getD, List.getD_eq_getElem?_getD]
    show ((t.pages.set x.toNat _)[j.toNat]?).getD noPg = _
    rw [List.getElem?_set_ne (fun e => ej e.symm), List.getD_eq_getElem?_getD]
   rw [this]; exact ⟨rfl, rfl, rfl, rfl⟩
 have hw : wlkF u (u.pages.length + 1) u.root [] [] 0 ([], []) = some (0 + h, ([] ++ ids t h t.root, lv)) := by
  rw [hul, hur, wlk_same hs]; exact e
 refine check_segB hw fun hall => ?_
 obtain ⟨d, hd, hxd⟩ := ids_lvl (all_ids v hx)
 have hlv : d < lv.length := by rw [l]; show d < max 0 (0 + h + 1); omega
 have e3 := mm d
 rw [List.getD_eq_getElem?_getD, List.getElem?_eq_getElem hlv] at e3
 have e2 : lv[d] = lvlAt t h 0 t.root d := by simpa using e3
 unfold lvlAt at e2
 rw [if_pos (by omega), Nat.sub_zero] at e2
 have := hall lv[d] (List.getElem_mem hlv)
 rw [e2] at this
 exact seg_self hxd (v.once.sublist (lvl_sub hd _)) hx.1 (by rw [hux]) this

/-! ### A page whose bound is another one -/
theorem kids_none {x : Int} {h level : Nat} {low : K} {p : PgL} (go : Int → K → K → Met → Option (Nat × Met))
  (hok : ∀ (c : Int) (lo hi : K) (s : Met), OkT t h c lo hi → (∀ y ∈ ids t h c, y ∉ s.1) → (ids t h c).Nodup → x ∉ ids t h c → ∃ lv, go c lo hi s = some (level + 1 + h, (s.1 ++ ids t h c, lv)))
  (hbad : ∀ (c : Int) (lo hi : K) (s : Met), OkT t h c lo hi → (∀ y ∈ ids t h c, y ∉ s.1) → (ids t h c).Nodup → x ∈ ids t h c → go c lo hi s = none) :
  ∀ (cs : List Int) (k : Nat) (deep : Option Nat) (s : Met), (∀ j (hj : j < cs.length), OkT t h cs[j] (loK low p (k + j)) (hiK p (k + j))) → (cs.flatMap (ids t h)).Nodup → (∀ y ∈ cs.flatMap (ids t h), y ∉ s.1) → x ∈ cs.flatMap (ids t h) → kidsF go low p cs k deep s = none
 | [], _, _, _, _, _, _, hx => by simp at hx
 | c :: cs, k, deep, s, hk, hn, hd, hx => by
  rw [List.flatMap_cons] at hn hd hx
  obtain ⟨n1, n2, n3⟩ := List.nodup_append.1 hn
  have hc : OkT t h c (loK low p k) (hiK p k) := hk 0 (by simp)
  rw [kidsF]
  by_cases hxc : x ∈ ids t h c
  ·rw [hbad c _ _ s hc (fun y hy => hd y (List.mem_append_left _ hy)) n1 hxc]
  ·obtain ⟨lv, e⟩ := hok c (loK low p k) (hiK p k) s hc (fun y hy => hd y (List.mem_append_left _ hy)) n1 hxc
   rw [e]
   simp only
   split
   ·refine kids_none go hok hbad cs (k + 1) _ _ (fun j hj => ?_) n2 (fun y hy hm => ?_) ((List.mem_append.1 hx).resolve_left hxc)
    ·have := hk (j + 1) (by simp; omega)
     rw [show k + (j + 1) = k + 1 + j by omega] at this
     simpa using this
    ·rcases List.mem_append.1 hm with hm | hm
     ·exact hd y (List.mem_append_right _ hy) hm
     ·exact n3 y hm y hy rfl
   ·rfl
theorem wlk_bad {x : Int} (hpt : ∀ p ∈ t.pages, PageOk p t.pages.length) (hpu : ∀ p ∈ u.pages, PageOk p u.pages.length) (hul : t.pages.length ≤ u.pages.length) (hsame : ∀ y, 0 ≤ y → y ≠ x → u.pg y = t.pg y) (hbad : (u.pg x).high ≠ (t.pg x).high) :
  ∀ {h f : Nat} {i : Int} {low high : K} {level : Nat} {s : Met}, h < f → OkT t h i low high → (∀ y ∈ ids t h i, y ∉ s.1) → (ids t h i).Nodup → x ∈ ids t h i → wlkF u f i low high level s = none
 | h, 0, _, _, _, _, _, hf, _, _, _, _ => by omega
 | 0, f + 1, i, low, high, level, s, hf, ok, hd, hn, hx => by
  rw [ids, List.mem_singleton] at hx
  subst hx
  rw [wlkF, if_neg (hd x (ids_head 0 x)), if_pos (.inl (by rw [← ok.2.2.1]; exact hbad))]
 | h + 1, f + 1, i, low, high, level, s, hf, ok, hd, hn, hx => by
  have ok' := ok
  obtain ⟨q1, q2, q3, q4, q5⟩ := ok
  rw [wlkF, if_neg (hd i (ids_head _ i))]
  by_cases hix : i = x
  ·subst hix
   rw [if_pos (.inl (by rw [← q3]; exact hbad))]
  ·have hpi := hsame i q1.1 hix
   rw [ids] at hd hn hx
   obtain ⟨n1, n2⟩ := List.nodup_cons.1 hn
   have hxk := (List.mem_cons.1 hx).resolve_left fun e => hix e.symm
   rw [hpi]
   split
   ·rfl
   ·rw [if_neg (by rw [q2]; decide)]
    refine kids_none (t := t) (x := x) (h := h) (level := level) (fun c lo hi s => wlkF u f c lo hi (level + 1) s) (fun c lo hi s okc hdc hnc hxc => ?_) (fun c lo hi s okc hdc hnc hxc => ?_) (t.pg i).kids 0 none _ (fun j hj => by rw [Nat.zero_add]; exact q5 j hj) n2 (fun y hy hm => ?_) hxk
    ·have hfr : ∀ j ∈ ids t h c, u.pg j = t.pg j := fun j hj => hsame j (okc.ids j hj).1 fun e => hxc (e ▸ hj)
     have hid := (frame h c hfr).1
     obtain ⟨lv, e, _, _⟩ := wlk_ok hpu (h := h) (f := f) (level := level + 1) (by omega) (okc.frame hul hfr) (by rw [hid]; exact hdc) (by rw [hid]; exact hnc)
     rw [hid] at e
     exact ⟨lv, e⟩
    ·exact wlk_bad hpt hpu hul hsame hbad (by omega) okc hdc hnc hxc
    ·rcases List.mem_append.1 hm with hm | hm
     ·exact hd y (List.mem_cons_of_mem _ hy) hm
     ·rw [List.mem_singleton] at hm; subst hm; exact n1 hy
theorem bad_high (v : Valid t h) {x : Int} (hx : 0 ≤ x ∧ x < t.pages.length) {q : K} (hq : q ≠ (t.pg x).high) : checkF (t.set x { t.pg x with high := q }) = 11 := by
 by_cases hp : PagesOk (t.set x { t.pg x with high := q })
 ·refine check_noneB ?_
  have hl : (t.set x { t.pg x with high := q }).pages.length = t.pages.length := setp_len _ _
  exact wlk_bad (t := t) (x := x) v.page hp (by rw [hl]; exact Nat.le_refl _) (fun y hy hne => setp_ne hx.1 hy hne _) (by rw [setp_pg hx]; exact hq) (by rw [hl]; have := v.high; omega) v.ok (fun y _ hm => by cases hm) v.once (all_ids v hx)
 ·exact check_pageB hp

end Go.Proofs.Ythnobhekodiciaa.Tr
