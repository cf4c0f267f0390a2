/-
  What the proof of BoundsNone leans on, part 3 of 6: walks of the program's functions at the level of values, and plain facts of what they compute.
-/
import Derived.Test.YtfooincnmobemaaDoorPBoundsNone2
namespace Go.Proofs.YtfooincnmobemaaDoor.Pc
open Go.RowKit V Pk Vl Go.Proofs.YtfooincnmobemaaDoor.Nm
set_option linter.unusedVariables false
set_option linter.unusedSimpArgs false

variable {G : List (Nat × List Value)}
def typesC : List Value := [.string ⟨#[]⟩, .string ⟨#[66, 79, 79, 76]⟩, .string ⟨#[73, 78, 84]⟩, .string ⟨#[84, 69, 88, 84]⟩]
def typeS (k : Int) : ByteArray := [⟨#[]⟩, ⟨#[66, 79, 79, 76]⟩, ⟨#[73, 78, 84]⟩, ⟨#[84, 69, 88, 84]⟩].getD k.toNat ⟨#[]⟩
theorem types_at {k : Int} (h1 : 1 ≤ k) (h2 : k ≤ 3) : typesC[0 + k.toNat * 1]? = some (.string (typeS k)) := by
 have h : k = 1 ∨ k = 2 ∨ k = 3 := by omega
 rcases h with rfl | rfl | rfl <;> rfl
/-- A column, shown. -/
def colT (c : ColL) : List Tk := [c.n, typeS c.k].map wordT
def showL (l : List ColL) : List Tk := [⟨#[67, 82, 69, 65, 84, 69]⟩, ⟨#[84, 65, 66, 76, 69]⟩, ⟨#[116]⟩].map wordT ++ listL (l.map colT)
theorem show_len {l : List ColL} (h : l.length ≤ 6) : (showL l).length ≤ 100 ∧ (listL (l.map colT)).length ≤ 80 := by
 have h1 := pre_len (ts := l.map colT) (fun x hx => by obtain ⟨c, _, rfl⟩ := List.mem_map.1 hx; show 2 ≤ 10; decide) (l.map colT).length
 have h2 : (listL (l.map colT)).length ≤ 80 := by unfold listL; rw [List.length_append]; rw [List.length_map] at h1 ⊢; simp only [List.length_cons, List.length_nil]; omega
 refine ⟨?_, h2⟩
 unfold showL
 rw [List.length_append]; simp only [List.length_map, List.length_cons, List.length_nil]; omega
theorem list_pos (ts : List (List Tk)) : 0 < (listL ts).length := by unfold listL; rw [List.length_append]; simp

theorem info105_Pc3 : (Tryd.prog.info? 105).map (fun i => (i.zero, i.size, i.bytes)) = some (some (.slice none 0 0), 1, 24) := by kernel_rfl

theorem info120_Pc3 : (Tryd.prog.info? 120).map (fun i => (i.zero, i.size, i.bytes)) = some (some (.agg #[.int .i64 0, .string ⟨#[]⟩, .int .i64 0]), 3, 32) := by kernel_rfl

set_option maxHeartbeats 4000000 in
set_option maxRecDepth 100000 in
theorem show_vp (ht : (2, typesC) ∈ G) (l : List ColL) (h6 : l.length ≤ 6) (hk : ∀ c ∈ l, 1 ≤ c.k ∧ c.k ≤ 3) : VP Tryd.prog G 68 [.agg (stD l)] (.list 3 ((showL l).flatMap cT) (showL l).length) := by
 refine VC.body Tryd.func68 rfl Tryd.ntmps68 (Nat.le_of_ble_eq_true rfl) fun X0 w0 S00 => ?_
 have hmx : maxLen = 9223372036854775807 := rfl
 unfold stD
 refine CD.seq ?_
 refine CD.region ?_
 refine OD.box (ds := [_, _, _, _, _, _, _, _, _, _, _, _]) (wants_plain rfl) rfl rfl ot rfl rfl (fun b1 => ?_)
 refine OD.still (wants_plain rfl) rfl (still_as rfl opd_const) ?_
 refine OD.wk (Wk.as_ (n := 107) (l' := [(1, _)]) (S' := [⟨b1, 94, 12, [_, _, _, _, _, _, _, _, _, _, _, _]⟩]) rfl rfl ⟨lk, trivial⟩) ?_
 refine OD.nil ?_
 refine CD.seq ?_
 refine CD.seq ?_
 refine CD.region ?_
 refine OD.still (wants_plain rfl) rfl (still_r1 (mk := fun y => Op.fieldAddr 94 y 0) rfl ot (by first | exact fa_ptr (off := 0) Tryd.runUnderlying94 rfl Tryd.sizeOf3 rfl | exact fa_iptr (off := 0) Tryd.runUnderlying94 rfl Tryd.sizeOf3 rfl)) ?_
 refine OD.still (wants_plain rfl) rfl (still_r1 (mk := Op.load 3) rfl ot (by first | exact ld_blk (k := 0) rfl rfl Tryd.isAgg3 rfl | exact ld_fm cC_len Tryd.isAgg3 (by first | assumption | omega) rfl | exact ld_fm0 cC_len Tryd.isAgg3 (by first | assumption | omega) rfl | exact ld_row (k := 0) cC_len rfl rfl rfl Tryd.isAgg3 (by first | assumption | omega) rfl | exact ld_row0 (k := 0) cC_len rfl rfl rfl Tryd.isAgg3 (by first | assumption | omega) rfl | exact ld_i Tryd.isAgg3 rfl | exact ld_tab ht Tryd.isAgg3 (types_at (hk _ (List.getElem_mem hlt)).1 (hk _ (List.getElem_mem hlt)).2))) ?_
 refine OD.wk (Wk.as_ (n := 107) (l' := [(1, _), (10, _)]) (S' := [⟨b1, 94, 12, [_, _, _, _, _, _, _, _, _, _, _, _]⟩]) rfl rfl ⟨lk, lk, trivial⟩) ?_
 refine OD.nil ?_
 refine CD.block ?_
 refine CD.seq ?_
 refine CD.region ?_
 refine OD.still (wants_plain rfl) rfl (still_bin rfl ot opd_const bin_eql) ?_
 refine OD.still (wants_plain rfl) rfl (still_as rfl ot) ?_
 refine OD.wk (Wk.as_ (n := 107) (l' := [(1, _), (10, _), (11, _)]) (S' := [⟨b1, 94, 12, [_, _, _, _, _, _, _, _, _, _, _, _]⟩]) rfl rfl ⟨lk, lk, lk, trivial⟩) ?_
 refine OD.nil ?_
 refine CD.cond ot (fun hc0 => ?_) (fun hc0 => ?_)
 ·have hc0' := hc0
  (try simp only [V.cnd, ne_eq] at hc0')
  refine CD.seq ?_
  refine CD.region ?_
  refine OD.still (wants_plain rfl) rfl (still_as rfl opd_const) ?_
  refine OD.wk (Wk.as_ (n := 107) (l' := [(1, _), (3, _)]) (S' := (⟨b1, 94, 12, [_, _, _, _, _, _, _, _, _, _, _, _]⟩ :: [])) rfl rfl ⟨lk, lk, trivial⟩) ?_
  refine OD.nil ?_
  refine CD.seq ?_
  refine CD.seq ?_
  refine CD.region ?_
  refine OD.still (wants_plain rfl) rfl (still_r1 (mk := fun y => Op.fieldAddr 94 y 2) rfl ot (by first | exact fa_ptr (off := 2) Tryd.runUnderlying94 rfl Tryd.sizeOf30 rfl | exact fa_iptr (off := 2) Tryd.runUnderlying94 rfl Tryd.sizeOf30 rfl)) ?_
  refine OD.still (wants_plain rfl) rfl (still_r1 (mk := Op.load 30) rfl ot (by first | exact ld_blk (k := 0) rfl rfl Tryd.isAgg30 rfl | exact ld_fm cC_len Tryd.isAgg30 (by first | assumption | omega) rfl | exact ld_fm0 cC_len Tryd.isAgg30 (by first | assumption | omega) rfl | exact ld_row (k := 0) cC_len rfl rfl rfl Tryd.isAgg30 (by first | assumption | omega) rfl | exact ld_row0 (k := 0) cC_len rfl rfl rfl Tryd.isAgg30 (by first | assumption | omega) rfl | exact ld_i Tryd.isAgg30 rfl | exact ld_tab ht Tryd.isAgg30 (types_at (hk _ (List.getElem_mem hlt)).1 (hk _ (List.getElem_mem hlt)).2))) ?_
  refine OD.still (wants_plain rfl) rfl (still_r1 (mk := fun y => .call { callee := .builtin .len, args := #[y], argTypes := #[30] }) rfl ot (by first | exact len_list rfl Tryd.runUnderlying30 | exact len_row rfl Tryd.runUnderlying30)) ?_
  refine OD.still (wants_plain rfl) rfl (still_mv rfl opd_const) ?_
  refine OD.wk (Wk.as_ (n := 107) (l' := [(1, _), (3, _), (14, _), (15, _), (16, _)]) (S' := (⟨b1, 94, 12, [_, _, _, _, _, _, _, _, _, _, _, _]⟩ :: [])) rfl rfl ⟨lk, lk, lk, lk, lk, trivial⟩) ?_
  refine OD.nil ?_
  refine CD.block ?_
  refine CD.wk (Wk.asS (n := 107) (l' := [(1, .v (.pointer (some ⟨b1, 0, none⟩))), (3, .v (.slice none ((l.take (0)).map colT).length (0))), (14, .list 2 (l.flatMap cC) l.length), (15, .v (.int .i64 (l.length : Nat))), (16, .v (.int .i64 ((0) : Nat)))]) (S' := ((⟨b1, 94, 12, [.v (.int .i64 1), .v (.string ⟨#[116]⟩), .list 2 (l.flatMap cC) l.length, nilD, nilD, .v (.bool false), nilD, .v (.string ⟨#[]⟩), .v (.bool false), .v (.int .i64 (-1)), .v (.string ⟨#[]⟩), nilD]⟩ : Blk) :: ([]))) rfl (by repeat (first | exact List.Sublist.refl _ | apply List.Sublist.cons_cons | apply List.Sublist.cons)) ⟨(by (repeat (first | exact look_hit | (apply look_at; focus (first | rfl | (simp; done) | (congr 2; omega) | (apply row_eq; exact map_step colT hlt) | (apply row_eq; simp; done))) | (apply look_miss; focus rfl))); done), (by (repeat (first | exact look_hit | (apply look_at; focus (first | rfl | (simp; done) | (congr 2; omega) | (apply row_eq; exact map_step colT hlt) | (apply row_eq; simp; done))) | (apply look_miss; focus rfl))); done), (by (repeat (first | exact look_hit | (apply look_at; focus (first | rfl | (simp; done) | (congr 2; omega) | (apply row_eq; exact map_step colT hlt) | (apply row_eq; simp; done))) | (apply look_miss; focus rfl))); done), (by (repeat (first | exact look_hit | (apply look_at; focus (first | rfl | (simp; done) | (congr 2; omega) | (apply row_eq; exact map_step colT hlt) | (apply row_eq; simp; done))) | (apply look_miss; focus rfl))); done), (by (repeat (first | exact look_hit | (apply look_at; focus (first | rfl | (simp; done) | (congr 2; omega) | (apply row_eq; exact map_step colT hlt) | (apply row_eq; simp; done))) | (apply look_miss; focus rfl))); done), trivial⟩) (CD.loop (fun (gh__ : Nat × Option Addr × Nat × List Blk) y__ => match gh__ with | (i, adx, cpx, Sx) => (i ≤ l.length) ∧ (OwnL 105 1 (((l.take i).map colT).flatMap cK) ((l.take i).map colT).length adx cpx Sx) ∧ y__ = (⟨107, [(1, .v (.pointer (some ⟨b1, 0, none⟩))), (3, .v (.slice adx ((l.take i).map colT).length cpx)), (14, .list 2 (l.flatMap cC) l.length), (15, .v (.int .i64 (l.length : Nat))), (16, .v (.int .i64 (i : Nat)))], ((⟨b1, 94, 12, [.v (.int .i64 1), .v (.string ⟨#[116]⟩), .list 2 (l.flatMap cC) l.length, nilD, nilD, .v (.bool false), nilD, .v (.string ⟨#[]⟩), .v (.bool false), .v (.int .i64 (-1)), .v (.string ⟨#[]⟩), nilD]⟩ : Blk) :: Sx)⟩ : St)) (fun (gh__ : Nat × Option Addr × Nat × List Blk) => match gh__ with | (i, adx, cpx, Sx) => l.length - i) (0, none, 0, []) ⟨(Nat.zero_le _), (OwnL.cast ownL_nil (by first | rfl | simp)), rfl⟩ ?_)
  rintro ⟨i, adx, cpx, Sx⟩ _ ⟨hi, hox, rfl⟩
  refine CD.seq ?_
  refine CD.region ?_
  refine OD.still (wants_plain rfl) rfl (still_bin rfl ot ot bin_lss) ?_
  refine OD.wk (Wk.as_ (n := 107) (l' := [(1, _), (3, _), (14, _), (15, _), (16, _), (17, _)]) (S' := (⟨b1, 94, 12, [_, _, _, _, _, _, _, _, _, _, _, _]⟩ :: Sx)) rfl rfl ⟨lk, lk, lk, lk, lk, lk, trivial⟩) ?_
  refine OD.nil ?_
  refine CD.seq ?_
  refine CD.cond ot (fun hc1 => ?_) (fun hc1 => ?_)
  ·have hc1' := hc1
   (try simp only [V.cnd, ne_eq] at hc1')
   have hlt : i < l.length := by omega
   have hki := hk _ (List.getElem_mem hlt)
   refine CD.skip ?_
   refine CD.seq ?_
   refine CD.block ?_
   refine CD.seq ?_
   refine CD.region ?_
   refine OD.still (wants_plain rfl) rfl (still_r2 (mk := Op.indexAddr 30) rfl ot ot (by first | exact ix_list Tryd.runUnderlying30 Tryd.sizeOf58 rfl (by first | assumption | omega) | exact ix_list (j := Int.toNat _) Tryd.runUnderlying30 Tryd.sizeOf58 (Int.toNat_of_nonneg (by omega)).symm (by omega) | exact ix_row Tryd.runUnderlying30 Tryd.sizeOf58 rfl (by first | assumption | omega) | exact ix_row (j := Int.toNat _) Tryd.runUnderlying30 Tryd.sizeOf58 (Int.toNat_of_nonneg (by omega)).symm (by omega))) ?_
   refine OD.still (wants_plain rfl) rfl (still_r1 (mk := Op.load 58) rfl ot (by first | exact ld_blks (k := 0) (ds := [_, _]) rfl rfl Tryd.isAgg58 Tryd.sizeOf58 rfl rfl | exact ld_fms cC_len Tryd.isAgg58 Tryd.sizeOf58 (by first | assumption | omega) | exact ld_rows (k := 0) cC_len rfl rfl rfl Tryd.isAgg58 Tryd.sizeOf58 (by first | assumption | omega) | exact ld_is (ds := [_, _]) Tryd.isAgg58 Tryd.sizeOf58 rfl rfl)) ?_
   refine OD.alloc (ds := [_, _]) (wants_plain rfl) rfl rfl Tryd.zeroValue58 rfl (fun b5 => ?_)
   refine OD.store (k := 0) (cs' := [_, _]) (wants_plain rfl) rfl rfl ot rfl rfl ot rfl rfl Tryd.sizeOf58 rfl rfl rfl ?_
   refine OD.wk (Wk.as_ (n := 107) (l' := [(1, _), (3, _), (5, _), (14, _), (15, _), (16, _)]) (S' := (⟨b5, 58, 2, [_, _]⟩ :: ⟨b1, 94, 12, [_, _, _, _, _, _, _, _, _, _, _, _]⟩ :: Sx)) rfl rfl ⟨lk, lk, lk, lk, lk, lk, trivial⟩) ?_
   refine OD.nil ?_
   refine CD.draw (bks (List.take 2 _)) (by kernel_rfl) (fun _ h => (List.Sublist.map _ (List.take_sublist _ _)).subset h) ?_
   refine AD0.take (i := 0) rfl (by kernel_rfl) (by kernel_rfl) (by kernel_rfl) (by repeat (first | exact NP.body | apply NP.then | apply NP.cut | apply NP.inBlock | apply NP.round)) (wants_plain rfl) rfl (still_mv rfl ot) (by exact trivial) ?_
   refine AD0.take (i := 1) rfl (by kernel_rfl) (by kernel_rfl) (by kernel_rfl) (by repeat (first | exact NP.body | apply NP.then | apply NP.cut | apply NP.inBlock | apply NP.round)) (wants_plain rfl) rfl (still_r1 (mk := fun y => Op.fieldAddr 58 y 0) rfl ot (by first | exact fa_ptr (off := 0) Tryd.runUnderlying58 rfl Tryd.sizeOf9 rfl | exact fa_iptr (off := 0) Tryd.runUnderlying58 rfl Tryd.sizeOf9 rfl)) (by exact trivial) ?_
   refine AD0.take (i := 2) rfl (by kernel_rfl) (by kernel_rfl) (by kernel_rfl) (by repeat (first | exact NP.body | apply NP.then | apply NP.cut | apply NP.inBlock | apply NP.round)) (wants_plain rfl) rfl (still_r1 (mk := Op.load 9) rfl ot (by first | exact ld_blk (k := 0) rfl rfl Tryd.isAgg9 rfl | exact ld_fm cC_len Tryd.isAgg9 (by first | assumption | omega) rfl | exact ld_fm0 cC_len Tryd.isAgg9 (by first | assumption | omega) rfl | exact ld_row (k := 0) cC_len rfl rfl rfl Tryd.isAgg9 (by first | assumption | omega) rfl | exact ld_row0 (k := 0) cC_len rfl rfl rfl Tryd.isAgg9 (by first | assumption | omega) rfl | exact ld_row (k := 1) cC_len rfl rfl rfl Tryd.isAgg9 (by first | assumption | omega) rfl | exact ld_row0 (k := 1) cC_len rfl rfl rfl Tryd.isAgg9 (by first | assumption | omega) rfl | exact ld_i Tryd.isAgg9 rfl | exact ld_tab ht Tryd.isAgg9 (types_at (hk _ (List.getElem_mem hlt)).1 (hk _ (List.getElem_mem hlt)).2))) (by first | exact trivial | exact safe_blk (k0 := 0) rfl rfl | exact safe_blk (k0 := 1) rfl rfl) ?_
   refine AD0.take (i := 3) rfl (by kernel_rfl) (by kernel_rfl) (by kernel_rfl) (by repeat (first | exact NP.body | apply NP.then | apply NP.cut | apply NP.inBlock | apply NP.round)) (wants_plain rfl) rfl (still_r1 (mk := fun y => Op.fieldAddr 58 y 1) rfl ot (by first | exact fa_ptr (off := 1) Tryd.runUnderlying58 rfl Tryd.sizeOf3 rfl | exact fa_iptr (off := 1) Tryd.runUnderlying58 rfl Tryd.sizeOf3 rfl)) (by exact trivial) ?_
   refine AD0.take (i := 4) rfl (by kernel_rfl) (by kernel_rfl) (by kernel_rfl) (by repeat (first | exact NP.body | apply NP.then | apply NP.cut | apply NP.inBlock | apply NP.round)) (wants_plain rfl) rfl (still_r1 (mk := Op.load 3) rfl ot (by first | exact ld_blk (k := 0) rfl rfl Tryd.isAgg3 rfl | exact ld_fm cC_len Tryd.isAgg3 (by first | assumption | omega) rfl | exact ld_fm0 cC_len Tryd.isAgg3 (by first | assumption | omega) rfl | exact ld_row (k := 0) cC_len rfl rfl rfl Tryd.isAgg3 (by first | assumption | omega) rfl | exact ld_row0 (k := 0) cC_len rfl rfl rfl Tryd.isAgg3 (by first | assumption | omega) rfl | exact ld_row (k := 1) cC_len rfl rfl rfl Tryd.isAgg3 (by first | assumption | omega) rfl | exact ld_row0 (k := 1) cC_len rfl rfl rfl Tryd.isAgg3 (by first | assumption | omega) rfl | exact ld_i Tryd.isAgg3 rfl | exact ld_tab ht Tryd.isAgg3 (types_at (hk _ (List.getElem_mem hlt)).1 (hk _ (List.getElem_mem hlt)).2))) (by first | exact trivial | exact safe_blk (k0 := 0) rfl rfl | exact safe_blk (k0 := 1) rfl rfl) ?_
   refine AD0.take (i := 5) rfl (by kernel_rfl) (by kernel_rfl) (by kernel_rfl) (by repeat (first | exact NP.body | apply NP.then | apply NP.cut | apply NP.inBlock | apply NP.round)) (wants_plain rfl) rfl (still_r2 (mk := Op.indexAddr 127) rfl opd_glob ot (by first | exact ix_arr Tryd.runUnderlying127 Tryd.sizeOf9 rfl (by first | assumption | omega) | exact ix_arr (j := Int.toNat _) Tryd.runUnderlying127 Tryd.sizeOf9 (Int.toNat_of_nonneg (by omega)).symm (by omega))) (by exact trivial) ?_
   refine AD0.take (i := 6) rfl (by kernel_rfl) (by kernel_rfl) (by kernel_rfl) (by repeat (first | exact NP.body | apply NP.then | apply NP.cut | apply NP.inBlock | apply NP.round)) (wants_plain rfl) rfl (still_r1 (mk := Op.load 9) rfl ot (by first | exact ld_blk (k := 0) rfl rfl Tryd.isAgg9 rfl | exact ld_blk (k := 1) rfl rfl Tryd.isAgg9 rfl | exact ld_fm cC_len Tryd.isAgg9 (by first | assumption | omega) rfl | exact ld_fm0 cC_len Tryd.isAgg9 (by first | assumption | omega) rfl | exact ld_row (k := 0) cC_len rfl rfl rfl Tryd.isAgg9 (by first | assumption | omega) rfl | exact ld_row0 (k := 0) cC_len rfl rfl rfl Tryd.isAgg9 (by first | assumption | omega) rfl | exact ld_row (k := 1) cC_len rfl rfl rfl Tryd.isAgg9 (by first | assumption | omega) rfl | exact ld_row0 (k := 1) cC_len rfl rfl rfl Tryd.isAgg9 (by first | assumption | omega) rfl | exact ld_i Tryd.isAgg9 rfl | exact ld_tab ht Tryd.isAgg9 (types_at (hk _ (List.getElem_mem hlt)).1 (hk _ (List.getElem_mem hlt)).2))) (by first | exact trivial | exact safe_blk (k0 := 0) rfl rfl | exact safe_blk (k0 := 1) rfl rfl) ?_
   refine AD0.later rfl ?_
   refine AD.one (i := 7) (by kernel_rfl) ?_
   refine AStep.bldS (pl := numD 0 [_, _]) (zvs := [.string ⟨#[]⟩, .string ⟨#[]⟩]) (ds := [_, _]) rfl (wants_plain rfl) rfl rfl Tryd.zeroValue9 Tryd.runUnderlying81 Tryd.sizeOf9 rfl rfl (by kernel_rfl) ⟨rfl, ot, rfl, ot, trivial⟩ (by exact rfl) (fill_full (by exact rfl) (by exact rfl) (by exact rfl)) (fun b27 => ?_)
   refine AD.give (k := 0) (t := 27) (sz := 1) (m := 2) rfl lk rfl rfl rfl (Nat.le_refl _) (by decide) ?_
   refine AD.one (i := 8) (by kernel_rfl) ?_
   refine AStep.callP rfl (wants_plain rfl) rfl rfl rfl Tryd.call84 (all_vp [l[i].n, typeS l[i].k] (by show 2 ≤ 10; decide)) ⟨ot, trivial⟩ ?_
   refine AD.one (i := 9) (by kernel_rfl) ?_
   refine AStep.bldS (pl := numD 0 [_]) (zvs := [.slice none 0 0]) (ds := [_]) rfl (wants_plain rfl) rfl rfl Tryd.zeroValue105 Tryd.runUnderlying125 Tryd.sizeOf105 rfl rfl (by kernel_rfl) ⟨rfl, ot, trivial⟩ (by exact rfl) (fill_full (by exact rfl) (by exact rfl) (by exact rfl)) (fun b29 => ?_)
   refine AD.give (k := 0) (t := 29) (sz := 1) (m := 1) rfl lk rfl rfl rfl (Nat.le_refl _) (by decide) ?_
   refine AD.one (i := 10) (by kernel_rfl) ?_
   refine AStep.appendOwn (Sq := Sx) (R := [_, _]) rfl (wants_plain rfl) rfl rfl Tryd.underlying125 info105_Pc3 rfl (by decide) ot hox (List.perm_append_comm (l₁ := [_, _])) (fm_len cK_len _) ot (fm_one cK_one [colT l[i]]) (by decide) (by rw [List.length_map, List.length_take]; omega) (by rw [List.length_map, List.length_take]; omega) (by intro b hb; simp [bks, St.put] at hb ⊢; try first | exact hb | simp [hb] | (rcases hb with hb | hb <;> simp [hb]) | (rcases hb with hb | hb | hb <;> simp [hb])) (fun b30 cp30 h130 h230 => ?_)
   refine AD.perm (perm_q11 (S1 := [⟨b30, 105, cp30 * 1, List.flatMap cK ((l.take i).map colT) ++ List.flatMap cK [colT l[i]]⟩]) (A := [_, _])) ?_
   rw [show List.flatMap cK ((l.take i).map colT) ++ List.flatMap cK [colT l[i]] = List.flatMap cK ((l.take i).map colT ++ [colT l[i]]) from List.flatMap_append.symm, show ((l.take i).map colT).length + 1 = ((l.take i).map colT ++ [colT l[i]]).length from by rw [List.length_append]; rfl]
   refine AD.take (i := 11) rfl (by kernel_rfl) (by kernel_rfl) (by kernel_rfl) (by repeat (first | exact NP.body | apply NP.then | apply NP.cut | apply NP.inBlock | apply NP.round)) (wants_plain rfl) rfl (still_as rfl ot) (by exact trivial) (by intro h; cases h) ?_
   refine AD.wk (y := ⟨107, [(1, _), (3, _), (14, _), (15, _), (16, _)], (⟨b5, 58, 2, [_, _]⟩ :: ⟨b1, 94, 12, [_, _, _, _, _, _, _, _, _, _, _, _]⟩ :: [⟨b30, 105, cp30 * 1, List.flatMap cK ((l.take i).map colT ++ [colT l[i]])⟩])⟩) (Wk.as_ rfl rfl ⟨lk, lk, lk, lk, lk, trivial⟩) rfl ?_
   refine AD.done (by kernel_rfl) ?_
   refine CD.region ?_
   refine OD.still (wants_plain rfl) rfl (still_bin rfl ot opd_const (bin_add (wrap_i64 (by omega) (by omega)))) ?_
   refine OD.still (wants_plain rfl) rfl (still_mv rfl ot) ?_
   refine OD.wk (Wk.as_ (n := 107) (l' := [(1, _), (3, _), (14, _), (15, _), (16, _)]) (S' := (⟨b5, 58, 2, [_, _]⟩ :: ⟨b1, 94, 12, [_, _, _, _, _, _, _, _, _, _, _, _]⟩ :: [⟨b30, 105, cp30 * 1, List.flatMap cK ((l.take i).map colT ++ [colT l[i]])⟩])) rfl rfl ⟨lk, lk, lk, lk, lk, trivial⟩) ?_
   refine OD.nil ?_
   refine ⟨((i + 1), (some ⟨b30, 0, none⟩), cp30, [⟨b30, 105, cp30 * 1, List.flatMap cK ((l.take i).map colT ++ [colT l[i]])⟩]), ⟨107, [(1, .v (.pointer (some ⟨b1, 0, none⟩))), (3, .v (.slice ((some ⟨b30, 0, none⟩)) ((l.take ((i + 1))).map colT).length cp30)), (14, .list 2 (l.flatMap cC) l.length), (15, .v (.int .i64 (l.length : Nat))), (16, .v (.int .i64 (((i + 1)) : Nat)))], ((⟨b1, 94, 12, [.v (.int .i64 1), .v (.string ⟨#[116]⟩), .list 2 (l.flatMap cC) l.length, nilD, nilD, .v (.bool false), nilD, .v (.string ⟨#[]⟩), .v (.bool false), .v (.int .i64 (-1)), .v (.string ⟨#[]⟩), nilD]⟩ : Blk) :: ([⟨b30, 105, cp30 * 1, List.flatMap cK ((l.take i).map colT ++ [colT l[i]])⟩]))⟩, ?_, Wk.asS (n := 107) rfl (by repeat (first | exact List.Sublist.refl _ | apply List.Sublist.cons_cons | apply List.Sublist.cons)) ⟨(by (repeat (first | exact look_hit | (apply look_at; focus (first | rfl | (simp; done) | (congr 2; omega) | (apply row_eq; exact map_step colT hlt) | (apply row_eq; simp; done))) | (apply look_miss; focus rfl))); done), (by (repeat (first | exact look_hit | (apply look_at; focus (first | rfl | (simp; done) | (congr 2; omega) | (apply row_eq; exact map_step colT hlt) | (apply row_eq; simp; done))) | (apply look_miss; focus rfl))); done), (by (repeat (first | exact look_hit | (apply look_at; focus (first | rfl | (simp; done) | (congr 2; omega) | (apply row_eq; exact map_step colT hlt) | (apply row_eq; simp; done))) | (apply look_miss; focus rfl))); done), (by (repeat (first | exact look_hit | (apply look_at; focus (first | rfl | (simp; done) | (congr 2; omega) | (apply row_eq; exact map_step colT hlt) | (apply row_eq; simp; done))) | (apply look_miss; focus rfl))); done), (by (repeat (first | exact look_hit | (apply look_at; focus (first | rfl | (simp; done) | (congr 2; omega) | (apply row_eq; exact map_step colT hlt) | (apply row_eq; simp; done))) | (apply look_miss; focus rfl))); done), trivial⟩, (by omega), (OwnL.cast (ownL_row (by rw [List.length_append]; exact h130) h230) (by exact map_step colT hlt)), rfl⟩
   first | omega | (simp only []; omega)
  ·have hc1' := hc1
   (try simp only [V.cnd, ne_eq] at hc1')
   have hend := map_end colT (show l.length ≤ i by omega)
   have hlv := list_vp (G := G) (l.map colT) (by rw [List.length_map]; omega) (fun x hx => by obtain ⟨c, _, rfl⟩ := List.mem_map.1 hx; show 2 ≤ 10; decide)
   have hsl := (show_len h6).2
   rw [← hend] at hlv hsl
   refine CD.exit ?_
   refine CD.seq ?_
   refine CD.region ?_
   refine OD.still (wants_plain rfl) rfl (still_r1 (mk := fun y => Op.fieldAddr 94 y 1) rfl ot (by first | exact fa_ptr (off := 1) Tryd.runUnderlying94 rfl Tryd.sizeOf9 rfl | exact fa_iptr (off := 1) Tryd.runUnderlying94 rfl Tryd.sizeOf9 rfl)) ?_
   refine OD.still (wants_plain rfl) rfl (still_r1 (mk := Op.load 9) rfl ot (by first | exact ld_blk (k := 0) rfl rfl Tryd.isAgg9 rfl | exact ld_fm cC_len Tryd.isAgg9 (by first | assumption | omega) rfl | exact ld_fm0 cC_len Tryd.isAgg9 (by first | assumption | omega) rfl | exact ld_row (k := 0) cC_len rfl rfl rfl Tryd.isAgg9 (by first | assumption | omega) rfl | exact ld_row0 (k := 0) cC_len rfl rfl rfl Tryd.isAgg9 (by first | assumption | omega) rfl | exact ld_i Tryd.isAgg9 rfl | exact ld_tab ht Tryd.isAgg9 (types_at (hk _ (List.getElem_mem hlt)).1 (hk _ (List.getElem_mem hlt)).2))) ?_
   refine OD.bldS (pl := numD 0 [_, _, _]) (zvs := [.string ⟨#[]⟩, .string ⟨#[]⟩, .string ⟨#[]⟩]) (ds := [_, _, _]) (wants_plain rfl) rfl rfl Tryd.zeroValue9 Tryd.runUnderlying81 Tryd.sizeOf9 rfl rfl (by kernel_rfl) ⟨rfl, opd_const, rfl, opd_const, rfl, ot, trivial⟩ (by exact rfl) (fill_full (by exact rfl) (by exact rfl) (by exact rfl)) (fun b34 => ?_)
   refine OD.perm (perm_q22 (S2 := [⟨b34, 9, 3 * 1, List.flatMap cS ([⟨#[67, 82, 69, 65, 84, 69]⟩, ⟨#[84, 65, 66, 76, 69]⟩, ⟨#[116]⟩])⟩]) (A := [_])) ?_
   refine OD.giveL (t := 34) (Sq := [⟨b34, 9, 3 * 1, List.flatMap cS ([⟨#[67, 82, 69, 65, 84, 69]⟩, ⟨#[84, 65, 66, 76, 69]⟩, ⟨#[116]⟩])⟩]) lk (ownL_row (g := cS) (sz := 1) (e := 9) (ls := [⟨#[67, 82, 69, 65, 84, 69]⟩, ⟨#[84, 65, 66, 76, 69]⟩, ⟨#[116]⟩]) (Nat.le_refl _) (show 3 ≤ maxLen by decide)) (fm_len cS_len _) (perm_r22 (A := [_])) ?_
   refine OD.call (wants_plain rfl) rfl rfl rfl Tryd.call84 (all_vc [⟨#[67, 82, 69, 65, 84, 69]⟩, ⟨#[84, 65, 66, 76, 69]⟩, ⟨#[116]⟩] (by show 3 ≤ 10; decide)) ⟨ot, trivial⟩ (perm_none _) ?_; rintro _ S35 ⟨ad35, cp35, rfl, ho35⟩
   refine OD.perm (perm_q22 (A := [_])) ?_
   refine OD.still (wants_plain rfl) rfl (still_mv rfl ot) ?_
   refine OD.giveL (t := 36) (Sq := Sx) lk hox (fm_len cK_len _) (perm_r12 (A := [_])) ?_
   refine OD.callP (wants_plain rfl) rfl rfl rfl Tryd.call85 (hlv) ⟨ot, trivial⟩ ?_
   refine OD.appendG (ls := ([⟨#[67, 82, 69, 65, 84, 69]⟩, ⟨#[84, 65, 66, 76, 69]⟩, ⟨#[116]⟩].map wordT)) (new := (listL ((l.take i).map colT))) (Sq := S35) cT_len cT_one (wants_plain rfl) rfl rfl Tryd.underlying105 info120_Pc3 rfl (by decide) ot ho35 (perm_r11 (A := [_])) ot (list_pos _) (by have hmx : maxLen = 9223372036854775807 := rfl; (try simp only [List.length_map, List.length_cons, List.length_nil]); omega) (by have hmx : maxLen = 9223372036854775807 := rfl; (try simp only [List.length_map, List.length_cons, List.length_nil]); omega) (fun b38 cp38 h138 h238 => ?_)
   refine OD.perm (perm_q11 (S1 := [⟨b38, 120, cp38 * 3, List.flatMap cT (([⟨#[67, 82, 69, 65, 84, 69]⟩, ⟨#[84, 65, 66, 76, 69]⟩, ⟨#[116]⟩].map wordT) ++ (listL ((l.take i).map colT)))⟩]) (A := [_])) ?_
   refine OD.still (wants_plain rfl) rfl (still_as rfl ot) ?_
   refine OD.wk (Wk.as_ (n := 107) (l' := [(2, _)]) (S' := (⟨b1, 94, 12, [_, _, _, _, _, _, _, _, _, _, _, _]⟩ :: [⟨b38, 120, cp38 * 3, List.flatMap cT (([⟨#[67, 82, 69, 65, 84, 69]⟩, ⟨#[84, 65, 66, 76, 69]⟩, ⟨#[116]⟩].map wordT) ++ (listL ((l.take i).map colT)))⟩])) rfl rfl ⟨lk, trivial⟩) ?_
   refine OD.nil ?_
   refine CD.giveL (t := 2) (Sq := [⟨b38, 120, cp38 * 3, List.flatMap cT (([⟨#[67, 82, 69, 65, 84, 69]⟩, ⟨#[84, 65, 66, 76, 69]⟩, ⟨#[116]⟩].map wordT) ++ (listL ((l.take i).map colT)))⟩]) lk (ownL_row h138 h238) (fm_len cT_len _) (perm_r11 (A := [_])) ?_
   refine CD.ret ?_
   refine ⟨.inr rfl, _, [], List.nil_sublist _, ret_one Tryd.results68 (res_tmp (Nat.le_of_ble_eq_true rfl) lk), ?_⟩
   rw [hend]; exact ⟨rfl, rfl⟩
 ·exact absurd hc0 (by simp at hc0)

end Go.Proofs.YtfooincnmobemaaDoor.Pc

namespace Go.Proofs.YtfooincnmobemaaDoor.Pc
open Go.RowKit V Pk Vl Go.Proofs.YtfooincnmobemaaDoor.Nm
set_option linter.unusedVariables false
set_option linter.unusedSimpArgs false

variable {G : List (Nat × List Value)}
theorem name_t : nameF ⟨#[116]⟩ = 0 := small_name (l := [116]) (by decide) (by decide) (fun c hc => by simp only [List.mem_singleton] at hc; subst hc; decide)
theorem colsA_good : ∀ (l pre : List ColL), colsA pre l = 0 → ∀ c ∈ l, 1 ≤ c.k ∧ c.k ≤ 3
 | [], _, _, c, hc => by cases hc
 | a :: l, pre, h, c, hc => by
  have h : (if colF pre a ≠ 0 then colF pre a else colsA (pre ++ [a]) l) = 0 := h
  by_cases h0 : colF pre a = 0
  ·rw [if_neg (by simp [h0])] at h
   rcases List.mem_cons.1 hc with rfl | hc
   ·unfold colF at h0
    by_cases h1 : nameF c.n = 0
    ·rw [if_neg (by simp [h1])] at h0
     by_cases h2 : c.k < 1 ∨ c.k > 3
     ·rw [if_pos h2] at h0; cases h0
     ·omega
    ·rw [if_pos h1] at h0; exact absurd h0 h1
   ·exact colsA_good l _ h c hc
  ·rw [if_pos h0] at h; exact absurd h h0
theorem cols_good {l : List ColL} (h : colsF l = 0) : (1 ≤ l.length ∧ l.length ≤ 6) ∧ ∀ c ∈ l, 1 ≤ c.k ∧ c.k ≤ 3 := by
 unfold colsF at h
 split at h
 ·cases h
 ·exact ⟨by omega, colsA_good l [] h⟩

theorem places94_Pc4 : ∀ w, ((#[{ name := "Kind", type := 3, offset := 0, embedded := false, tag := "", pkgPath := "", byteOffset := 0 }, { name := "Table", type := 9, offset := 1, embedded := false, tag := "", pkgPath := "", byteOffset := 8 }, { name := "Cols", type := 30, offset := 2, embedded := false, tag := "", pkgPath := "", byteOffset := 24 }, { name := "Row", type := 36, offset := 3, embedded := false, tag := "", pkgPath := "", byteOffset := 48 }, { name := "Names", type := 81, offset := 4, embedded := false, tag := "", pkgPath := "", byteOffset := 72 }, { name := "Count", type := 4, offset := 5, embedded := false, tag := "", pkgPath := "", byteOffset := 96 }, { name := "Where", type := 25, offset := 6, embedded := false, tag := "", pkgPath := "", byteOffset := 104 }, { name := "Order", type := 9, offset := 7, embedded := false, tag := "", pkgPath := "", byteOffset := 128 }, { name := "Down", type := 4, offset := 8, embedded := false, tag := "", pkgPath := "", byteOffset := 144 }, { name := "Limit", type := 3, offset := 9, embedded := false, tag := "", pkgPath := "", byteOffset := 152 }, { name := "Set", type := 9, offset := 10, embedded := false, tag := "", pkgPath := "", byteOffset := 160 }, { name := "To", type := 25, offset := 11, embedded := false, tag := "", pkgPath := "", byteOffset := 176 }] : Array Field).mapM fun f => do pure (f.offset, ← sizeOf f.type) : Sem (Array (Nat × Nat))).run Tryd.prog w = .ok #[(0, 1), (1, 1), (2, 1), (3, 1), (4, 1), (5, 1), (6, 1), (7, 1), (8, 1), (9, 1), (10, 1), (11, 1)] w := fun w => by simp [Tryd.sizeOf25, Tryd.sizeOf3, Tryd.sizeOf30, Tryd.sizeOf36, Tryd.sizeOf4, Tryd.sizeOf81, Tryd.sizeOf9]

set_option maxHeartbeats 4000000 in
set_option maxRecDepth 100000 in
theorem check_vp (hm : (3, marksC) ∈ G) (hw : (0, wordsC) ∈ G) (l : List ColL) (hl : l.length ≤ maxLen) (hok : ∀ c ∈ l, c.n.size ≤ maxLen) : VP Tryd.prog G 67 [.agg (stD l)] (.v (.int .i64 (colsF l))) := by
 refine VC.body Tryd.func67 rfl Tryd.ntmps67 (Nat.le_of_ble_eq_true rfl) fun X0 w0 S00 => ?_
 have hmx : maxLen = 9223372036854775807 := rfl
 have hba := bare_vp (G := G) l
 unfold stD at hba
 unfold stD
 have hnv := name_vp hm hw ⟨#[116]⟩ (Nat.le_trans (show (⟨#[116]⟩ : ByteArray).size ≤ 1 from Nat.le_refl _) (by omega))
 rw [name_t] at hnv
 refine CD.seq ?_
 refine CD.region ?_
 refine OD.box (ds := [_, _, _, _, _, _, _, _, _, _, _, _]) (wants_plain rfl) rfl rfl ot rfl rfl (fun b1 => ?_)
 refine OD.still (wants_plain rfl) rfl (still_as rfl opd_const) ?_
 refine OD.wk (Wk.as_ (n := 102) (l' := [(1, _)]) (S' := [⟨b1, 94, 12, [_, _, _, _, _, _, _, _, _, _, _, _]⟩]) rfl rfl ⟨lk, trivial⟩) ?_
 refine OD.nil ?_
 refine CD.seq ?_
 refine CD.region ?_
 refine OD.still (wants_plain rfl) rfl (still_r1 (mk := fun y => Op.fieldAddr 94 y 0) rfl ot (by first | exact fa_ptr (off := 0) Tryd.runUnderlying94 rfl Tryd.sizeOf3 rfl | exact fa_iptr (off := 0) Tryd.runUnderlying94 rfl Tryd.sizeOf3 rfl)) ?_
 refine OD.still (wants_plain rfl) rfl (still_r1 (mk := Op.load 3) rfl ot (by first | exact ld_blk (k := 0) rfl rfl Tryd.isAgg3 rfl | exact ld_i Tryd.isAgg3 rfl)) ?_
 refine OD.still (wants_plain rfl) rfl (still_bld (pl := [(0, _), (9, _)]) (ds := [_, _, _, _, _, _, _, _, _, _, _, _]) rfl Tryd.zeroValue94 Tryd.runUnderlying94 places94_Pc4 ⟨rfl, ot, rfl, opd_const, trivial⟩ rfl rfl) ?_
 refine OD.alloc (ds := [_, _, _, _, _, _, _, _, _, _, _, _]) (wants_plain rfl) rfl rfl Tryd.zeroValue94 rfl (fun b3 => ?_)
 refine OD.store (k := 0) (cs' := [_, _, _, _, _, _, _, _, _, _, _, _]) (wants_plain rfl) rfl rfl ot rfl rfl ot rfl rfl Tryd.sizeOf94 rfl rfl rfl ?_
 refine OD.wk (Wk.as_ (n := 102) (l' := [(1, _), (3, _)]) (S' := [⟨b3, 94, 12, [_, _, _, _, _, _, _, _, _, _, _, _]⟩, ⟨b1, 94, 12, [_, _, _, _, _, _, _, _, _, _, _, _]⟩]) rfl rfl ⟨lk, lk, trivial⟩) ?_
 refine OD.nil ?_
 refine CD.seq ?_
 refine CD.seq ?_
 refine CD.region ?_
 refine OD.still (wants_plain rfl) rfl (still_r1 (mk := fun y => Op.fieldAddr 94 y 0) rfl ot (by first | exact fa_ptr (off := 0) Tryd.runUnderlying94 rfl Tryd.sizeOf3 rfl | exact fa_iptr (off := 0) Tryd.runUnderlying94 rfl Tryd.sizeOf3 rfl)) ?_
 refine OD.still (wants_plain rfl) rfl (still_r1 (mk := Op.load 3) rfl ot (by first | exact ld_blk (k := 1) rfl rfl Tryd.isAgg3 rfl | exact ld_i Tryd.isAgg3 rfl)) ?_
 refine OD.still (wants_plain rfl) rfl (still_bin rfl ot opd_const bin_lss) ?_
 refine OD.wk (Wk.as_ (n := 102) (l' := [(1, _), (3, _), (11, _)]) (S' := [⟨b3, 94, 12, [_, _, _, _, _, _, _, _, _, _, _, _]⟩, ⟨b1, 94, 12, [_, _, _, _, _, _, _, _, _, _, _, _]⟩]) rfl rfl ⟨lk, lk, lk, trivial⟩) ?_
 refine OD.nil ?_
 refine CD.cond ot (fun hc0 => ?_) (fun hc0 => ?_)
 ·have hc0' := hc0
  (try simp only [V.cnd, ne_eq] at hc0')
  refine CD.seq ?_
  refine CD.region ?_
  refine OD.still (wants_plain rfl) rfl (still_r1 (mk := fun y => Op.fieldAddr 94 y 1) rfl ot (by first | exact fa_ptr (off := 1) Tryd.runUnderlying94 rfl Tryd.sizeOf9 rfl | exact fa_iptr (off := 1) Tryd.runUnderlying94 rfl Tryd.sizeOf9 rfl)) ?_
  refine OD.still (wants_plain rfl) rfl (still_r1 (mk := Op.load 9) rfl ot (by first | exact ld_blk (k := 1) rfl rfl Tryd.isAgg9 rfl | exact ld_i Tryd.isAgg9 rfl)) ?_
  refine OD.still (wants_plain rfl) rfl (still_r1 (mk := fun y => Op.fieldAddr 94 y 1) rfl ot (by first | exact fa_ptr (off := 1) Tryd.runUnderlying94 rfl Tryd.sizeOf9 rfl | exact fa_iptr (off := 1) Tryd.runUnderlying94 rfl Tryd.sizeOf9 rfl)) ?_
  refine OD.store (k := 0) (cs' := [_, _, _, _, _, _, _, _, _, _, _, _]) (wants_plain rfl) rfl rfl ot rfl rfl ot rfl rfl Tryd.sizeOf9 rfl rfl rfl ?_
  refine OD.wk (Wk.as_ (n := 102) (l' := [(1, _), (3, _)]) (S' := [⟨b3, 94, 12, [_, _, _, _, _, _, _, _, _, _, _, _]⟩, ⟨b1, 94, 12, [_, _, _, _, _, _, _, _, _, _, _, _]⟩]) rfl rfl ⟨lk, lk, trivial⟩) ?_
  refine OD.nil ?_
  refine CD.seq ?_
  refine CD.region ?_
  refine OD.still (wants_plain rfl) rfl (still_r1 (mk := fun y => Op.fieldAddr 94 y 1) rfl ot (by first | exact fa_ptr (off := 1) Tryd.runUnderlying94 rfl Tryd.sizeOf9 rfl | exact fa_iptr (off := 1) Tryd.runUnderlying94 rfl Tryd.sizeOf9 rfl)) ?_
  refine OD.still (wants_plain rfl) rfl (still_r1 (mk := Op.load 9) rfl ot (by first | exact ld_blk (k := 1) rfl rfl Tryd.isAgg9 rfl | exact ld_i Tryd.isAgg9 rfl)) ?_
  refine OD.callP (wants_plain rfl) rfl rfl rfl Tryd.call60 (hnv) ⟨ot, trivial⟩ ?_
  refine OD.still (wants_plain rfl) rfl (still_as rfl ot) ?_
  refine OD.wk (Wk.as_ (n := 102) (l' := [(1, _), (3, _), (4, _)]) (S' := [⟨b3, 94, 12, [_, _, _, _, _, _, _, _, _, _, _, _]⟩, ⟨b1, 94, 12, [_, _, _, _, _, _, _, _, _, _, _, _]⟩]) rfl rfl ⟨lk, lk, lk, trivial⟩) ?_
  refine OD.nil ?_
  refine CD.seq ?_
  refine CD.region ?_
  refine OD.still (wants_plain rfl) rfl (still_mv rfl ot) ?_
  refine OD.still (wants_plain rfl) rfl (still_bin rfl ot opd_const bin_neq) ?_
  refine OD.wk (Wk.as_ (n := 102) (l' := [(1, _), (3, _), (4, _), (19, _)]) (S' := [⟨b3, 94, 12, [_, _, _, _, _, _, _, _, _, _, _, _]⟩, ⟨b1, 94, 12, [_, _, _, _, _, _, _, _, _, _, _, _]⟩]) rfl rfl ⟨lk, lk, lk, lk, trivial⟩) ?_
  refine OD.nil ?_
  refine CD.cond ot (fun hc1 => ?_) (fun hc1 => ?_)
  ·exact absurd hc1 (by simp at hc1)
  ·have hc1' := hc1
   (try simp only [V.cnd, ne_eq] at hc1')
   refine CD.skip ?_
   refine CD.seq ?_
   refine CD.region ?_
   refine OD.still (wants_plain rfl) rfl (still_as rfl opd_const) ?_
   refine OD.wk (Wk.as_ (n := 102) (l' := [(1, _), (3, _), (5, _)]) (S' := [⟨b3, 94, 12, [_, _, _, _, _, _, _, _, _, _, _, _]⟩, ⟨b1, 94, 12, [_, _, _, _, _, _, _, _, _, _, _, _]⟩]) rfl rfl ⟨lk, lk, lk, trivial⟩) ?_
   refine OD.nil ?_
   refine CD.seq ?_
   refine CD.seq ?_
   refine CD.region ?_
   refine OD.still (wants_plain rfl) rfl (still_r1 (mk := fun y => Op.fieldAddr 94 y 0) rfl ot (by first | exact fa_ptr (off := 0) Tryd.runUnderlying94 rfl Tryd.sizeOf3 rfl | exact fa_iptr (off := 0) Tryd.runUnderlying94 rfl Tryd.sizeOf3 rfl)) ?_
   refine OD.still (wants_plain rfl) rfl (still_r1 (mk := Op.load 3) rfl ot (by first | exact ld_blk (k := 1) rfl rfl Tryd.isAgg3 rfl | exact ld_i Tryd.isAgg3 rfl)) ?_
   refine OD.wk (Wk.as_ (n := 102) (l' := [(1, _), (3, _), (5, _), (22, _)]) (S' := [⟨b3, 94, 12, [_, _, _, _, _, _, _, _, _, _, _, _]⟩, ⟨b1, 94, 12, [_, _, _, _, _, _, _, _, _, _, _, _]⟩]) rfl rfl ⟨lk, lk, lk, lk, trivial⟩) ?_
   refine OD.nil ?_
   refine CD.block ?_
   refine CD.seq ?_
   refine CD.region ?_
   refine OD.still (wants_plain rfl) rfl (still_bin rfl ot opd_const bin_eql) ?_
   refine OD.still (wants_plain rfl) rfl (still_as rfl ot) ?_
   refine OD.wk (Wk.as_ (n := 102) (l' := [(1, _), (3, _), (5, _), (22, _), (23, _)]) (S' := [⟨b3, 94, 12, [_, _, _, _, _, _, _, _, _, _, _, _]⟩, ⟨b1, 94, 12, [_, _, _, _, _, _, _, _, _, _, _, _]⟩]) rfl rfl ⟨lk, lk, lk, lk, lk, trivial⟩) ?_
   refine OD.nil ?_
   refine CD.cond ot (fun hc2 => ?_) (fun hc2 => ?_)
   ·have hc2' := hc2
    (try simp only [V.cnd, ne_eq] at hc2')
    refine CD.seq ?_
    refine CD.region ?_
    refine OD.still (wants_plain rfl) rfl (still_r1 (mk := fun y => Op.fieldAddr 94 y 2) rfl ot (by first | exact fa_ptr (off := 2) Tryd.runUnderlying94 rfl Tryd.sizeOf30 rfl | exact fa_iptr (off := 2) Tryd.runUnderlying94 rfl Tryd.sizeOf30 rfl)) ?_
    refine OD.still (wants_plain rfl) rfl (still_r1 (mk := Op.load 30) rfl ot (by first | exact ld_blk (k := 1) rfl rfl Tryd.isAgg30 rfl | exact ld_i Tryd.isAgg30 rfl)) ?_
    refine OD.still (wants_plain rfl) rfl (still_r1 (mk := fun y => Op.fieldAddr 94 y 2) rfl ot (by first | exact fa_ptr (off := 2) Tryd.runUnderlying94 rfl Tryd.sizeOf30 rfl | exact fa_iptr (off := 2) Tryd.runUnderlying94 rfl Tryd.sizeOf30 rfl)) ?_
    refine OD.store (k := 0) (cs' := [_, _, _, _, _, _, _, _, _, _, _, _]) (wants_plain rfl) rfl rfl ot rfl rfl ot rfl rfl Tryd.sizeOf30 rfl rfl rfl ?_
    refine OD.wk (Wk.as_ (n := 102) (l' := [(1, _), (3, _)]) (S' := [⟨b3, 94, 12, [_, _, _, _, _, _, _, _, _, _, _, _]⟩, ⟨b1, 94, 12, [_, _, _, _, _, _, _, _, _, _, _, _]⟩]) rfl rfl ⟨lk, lk, trivial⟩) ?_
    refine OD.nil ?_
    refine CD.region ?_
    refine OD.still (wants_plain rfl) rfl (still_r1 (mk := fun y => Op.fieldAddr 94 y 2) rfl ot (by first | exact fa_ptr (off := 2) Tryd.runUnderlying94 rfl Tryd.sizeOf30 rfl | exact fa_iptr (off := 2) Tryd.runUnderlying94 rfl Tryd.sizeOf30 rfl)) ?_
    refine OD.still (wants_plain rfl) rfl (still_r1 (mk := Op.load 30) rfl ot (by first | exact ld_blk (k := 1) rfl rfl Tryd.isAgg30 rfl | exact ld_i Tryd.isAgg30 rfl)) ?_
    refine OD.callP (wants_plain rfl) rfl rfl rfl Tryd.call79 (cols_vp hm hw l hl hok) ⟨ot, trivial⟩ ?_
    refine OD.still (wants_plain rfl) rfl (still_as rfl ot) ?_
    refine OD.wk (Wk.as_ (n := 102) (l' := [(1, _), (3, _), (5, _)]) (S' := [⟨b3, 94, 12, [_, _, _, _, _, _, _, _, _, _, _, _]⟩, ⟨b1, 94, 12, [_, _, _, _, _, _, _, _, _, _, _, _]⟩]) rfl rfl ⟨lk, lk, lk, trivial⟩) ?_
    refine OD.nil ?_
    refine CD.seq ?_
    refine CD.seq ?_
    refine CD.region ?_
    refine OD.still (wants_plain rfl) rfl (still_mv rfl ot) ?_
    refine OD.still (wants_plain rfl) rfl (still_bin rfl ot opd_const bin_eql) ?_
    refine OD.still (wants_plain rfl) rfl (still_mv rfl ot) ?_
    refine OD.split (t := 95) lk (fun hg95 => ?_) (fun hg95 => ?_)
    ·have hg95' := hg95; (try simp only [V.cnd, ne_eq] at hg95')
     refine OD.still (wants_T rfl rfl rfl lk (by first | rfl | assumption)) rfl (still_r1 (mk := Op.load 94) rfl ot (by first | exact ld_blks (k := 1) (ds := [_, _, _, _, _, _, _, _, _, _, _, _]) rfl rfl Tryd.isAgg94 Tryd.sizeOf94 rfl rfl | exact ld_is (ds := [_, _, _, _, _, _, _, _, _, _, _, _]) Tryd.isAgg94 Tryd.sizeOf94 rfl rfl)) ?_
     refine OD.still (wants_T rfl rfl rfl lk (by first | rfl | assumption)) rfl (still_r1 (mk := Op.load 94) rfl ot (by first | exact ld_blks (k := 0) (ds := [_, _, _, _, _, _, _, _, _, _, _, _]) rfl rfl Tryd.isAgg94 Tryd.sizeOf94 rfl rfl | exact ld_is (ds := [_, _, _, _, _, _, _, _, _, _, _, _]) Tryd.isAgg94 Tryd.sizeOf94 rfl rfl)) ?_
     refine OD.callP (wants_T rfl rfl rfl lk (by first | rfl | assumption)) rfl rfl rfl Tryd.call83 (hba) ⟨ot, ot, trivial⟩ ?_
     refine OD.still (wants_T rfl rfl rfl lk (by first | rfl | assumption)) rfl (still_un rfl ot un_not) ?_
     refine OD.still (wants_plain rfl) rfl (still_pickT rfl ot (by first | rfl | assumption) ot) ?_
     refine OD.wk (Wk.as_ (n := 102) (l' := [(5, _), (100, _)]) (S' := [⟨b3, 94, 12, [_, _, _, _, _, _, _, _, _, _, _, _]⟩, ⟨b1, 94, 12, [_, _, _, _, _, _, _, _, _, _, _, _]⟩]) rfl rfl ⟨lk, lk, trivial⟩) ?_
     refine OD.nil ?_
     refine CD.cond ot (fun hc9 => ?_) (fun hc9 => ?_)
     ·exact absurd hc9 (by first | (simp at hc9; done) | simp_all)
     ·have hc9' := hc9
      (try simp only [V.cnd, ne_eq] at hc9')
      refine CD.skip ?_
      refine CD.seq ?_
      refine CD.region ?_
      refine OD.still (wants_plain rfl) rfl (still_mv rfl ot) ?_
      refine OD.still (wants_plain rfl) rfl (still_as rfl ot) ?_
      refine OD.wk (Wk.as_ (n := 102) (l' := [(2, _)]) (S' := [⟨b3, 94, 12, [_, _, _, _, _, _, _, _, _, _, _, _]⟩, ⟨b1, 94, 12, [_, _, _, _, _, _, _, _, _, _, _, _]⟩]) rfl rfl ⟨lk, trivial⟩) ?_
      refine OD.nil ?_
      refine CD.ret ?_
      refine ⟨.inr rfl, _, [], List.nil_sublist _, ret_one Tryd.results67 (res_tmp (Nat.le_of_ble_eq_true rfl) lk), ?_⟩
      exact ⟨rfl, rfl⟩
    ·have hg95' := hg95; (try simp only [V.cnd, ne_eq] at hg95')
     refine OD.skip (wants_F rfl rfl rfl lk (by first | rfl | assumption)) rfl ?_
     refine OD.skip (wants_F rfl rfl rfl lk (by first | rfl | assumption)) rfl ?_
     refine OD.skip (wants_F rfl rfl rfl lk (by first | rfl | assumption)) rfl ?_
     refine OD.skip (wants_F rfl rfl rfl lk (by first | rfl | assumption)) rfl ?_
     refine OD.still (wants_plain rfl) rfl (still_pickF rfl ot (by first | rfl | assumption) opd_const) ?_
     refine OD.wk (Wk.as_ (n := 102) (l' := [(5, _), (100, _)]) (S' := [⟨b3, 94, 12, [_, _, _, _, _, _, _, _, _, _, _, _]⟩, ⟨b1, 94, 12, [_, _, _, _, _, _, _, _, _, _, _, _]⟩]) rfl rfl ⟨lk, lk, trivial⟩) ?_
     refine OD.nil ?_
     refine CD.condF ot (by first | rfl | assumption) ?_
     refine CD.skip ?_
     refine CD.seq ?_
     refine CD.region ?_
     refine OD.still (wants_plain rfl) rfl (still_mv rfl ot) ?_
     refine OD.still (wants_plain rfl) rfl (still_as rfl ot) ?_
     refine OD.wk (Wk.as_ (n := 102) (l' := [(2, _)]) (S' := [⟨b3, 94, 12, [_, _, _, _, _, _, _, _, _, _, _, _]⟩, ⟨b1, 94, 12, [_, _, _, _, _, _, _, _, _, _, _, _]⟩]) rfl rfl ⟨lk, trivial⟩) ?_
     refine OD.nil ?_
     refine CD.ret ?_
     refine ⟨.inr rfl, _, [], List.nil_sublist _, ret_one Tryd.results67 (res_tmp (Nat.le_of_ble_eq_true rfl) lk), ?_⟩
     exact ⟨rfl, rfl⟩
   ·exact absurd hc2 (by simp at hc2)
 ·exact absurd hc0 (by simp at hc0)

set_option maxHeartbeats 4000000 in
set_option maxRecDepth 100000 in
theorem Check_vp (hm : (3, marksC) ∈ G) (hw : (0, wordsC) ∈ G) (ht : (2, typesC) ∈ G) (l : List ColL) (hl : l.length ≤ maxLen) (hok : ∀ c ∈ l, c.n.size ≤ maxLen) : VP Tryd.prog G 51 [.agg (stD l)] (.v (.int .i64 (colsF l))) := by
 refine VC.body Tryd.func51 rfl Tryd.ntmps51 (Nat.le_of_ble_eq_true rfl) fun X0 w0 S00 => ?_
 have hmx : maxLen = 9223372036854775807 := rfl
 have hcv := check_vp hm hw l hl hok
 unfold stD at hcv
 unfold stD
 refine CD.seq ?_
 refine CD.region ?_
 refine OD.box (ds := [_, _, _, _, _, _, _, _, _, _, _, _]) (wants_plain rfl) rfl rfl ot rfl rfl (fun b1 => ?_)
 refine OD.still (wants_plain rfl) rfl (still_as rfl opd_const) ?_
 refine OD.wk (Wk.as_ (n := 21) (l' := [(1, _)]) (S' := [⟨b1, 94, 12, [_, _, _, _, _, _, _, _, _, _, _, _]⟩]) rfl rfl ⟨lk, trivial⟩) ?_
 refine OD.nil ?_
 refine CD.seq ?_
 refine CD.seq ?_
 refine CD.region ?_
 refine OD.still (wants_plain rfl) rfl (still_r1 (mk := fun y => Op.fieldAddr 94 y 0) rfl ot (by first | exact fa_ptr (off := 0) Tryd.runUnderlying94 rfl Tryd.sizeOf3 rfl | exact fa_iptr (off := 0) Tryd.runUnderlying94 rfl Tryd.sizeOf3 rfl)) ?_
 refine OD.still (wants_plain rfl) rfl (still_r1 (mk := Op.load 3) rfl ot (by first | exact ld_blk (k := 0) rfl rfl Tryd.isAgg3 rfl | exact ld_i Tryd.isAgg3 rfl)) ?_
 refine OD.still (wants_plain rfl) rfl (still_bin rfl ot opd_const bin_lss) ?_
 refine OD.still (wants_plain rfl) rfl (still_mv rfl ot) ?_
 refine OD.split (t := 7) lk (fun hg7 => ?_) (fun hg7 => ?_)
 ·exact absurd hg7 (by simp at hg7)
 ·have hg7' := hg7; (try simp only [V.cnd, ne_eq] at hg7')
  refine OD.still (wants_T rfl rfl rfl lk (by first | rfl | assumption)) rfl (still_r1 (mk := fun y => Op.fieldAddr 94 y 0) rfl ot (by first | exact fa_ptr (off := 0) Tryd.runUnderlying94 rfl Tryd.sizeOf3 rfl | exact fa_iptr (off := 0) Tryd.runUnderlying94 rfl Tryd.sizeOf3 rfl)) ?_
  refine OD.still (wants_T rfl rfl rfl lk (by first | rfl | assumption)) rfl (still_r1 (mk := Op.load 3) rfl ot (by first | exact ld_blk (k := 0) rfl rfl Tryd.isAgg3 rfl | exact ld_i Tryd.isAgg3 rfl)) ?_
  refine OD.still (wants_T rfl rfl rfl lk (by first | rfl | assumption)) rfl (still_bin rfl ot opd_const bin_gtr) ?_
  refine OD.still (wants_plain rfl) rfl (still_pickF rfl ot (by first | rfl | assumption) ot) ?_
  refine OD.wk (Wk.as_ (n := 21) (l' := [(1, _), (11, _)]) (S' := [⟨b1, 94, 12, [_, _, _, _, _, _, _, _, _, _, _, _]⟩]) rfl rfl ⟨lk, lk, trivial⟩) ?_
  refine OD.nil ?_
  refine CD.cond ot (fun hc0 => ?_) (fun hc0 => ?_)
  ·exact absurd hc0 (by simp at hc0)
  ·have hc0' := hc0
   (try simp only [V.cnd, ne_eq] at hc0')
   refine CD.skip ?_
   refine CD.seq ?_
   refine CD.seq ?_
   refine CD.region ?_
   refine OD.still (wants_plain rfl) rfl (still_r1 (mk := Op.load 94) rfl ot (by first | exact ld_blks (k := 0) (ds := [_, _, _, _, _, _, _, _, _, _, _, _]) rfl rfl Tryd.isAgg94 Tryd.sizeOf94 rfl rfl | exact ld_is (ds := [_, _, _, _, _, _, _, _, _, _, _, _]) Tryd.isAgg94 Tryd.sizeOf94 rfl rfl)) ?_
   refine OD.callP (wants_plain rfl) rfl rfl rfl Tryd.call67 (hcv) ⟨ot, trivial⟩ ?_
   refine OD.still (wants_plain rfl) rfl (still_as rfl ot) ?_
   refine OD.wk (Wk.as_ (n := 21) (l' := [(1, _), (3, _)]) (S' := [⟨b1, 94, 12, [_, _, _, _, _, _, _, _, _, _, _, _]⟩]) rfl rfl ⟨lk, lk, trivial⟩) ?_
   refine OD.nil ?_
   refine CD.seq ?_
   refine CD.region ?_
   refine OD.still (wants_plain rfl) rfl (still_mv rfl ot) ?_
   refine OD.still (wants_plain rfl) rfl (still_bin rfl ot opd_const bin_neq) ?_
   refine OD.wk (Wk.as_ (n := 21) (l' := [(1, _), (3, _), (15, _)]) (S' := [⟨b1, 94, 12, [_, _, _, _, _, _, _, _, _, _, _, _]⟩]) rfl rfl ⟨lk, lk, lk, trivial⟩) ?_
   refine OD.nil ?_
   refine CD.cond ot (fun hc1 => ?_) (fun hc1 => ?_)
   ·have hc1' := hc1
    (try simp only [V.cnd, ne_eq] at hc1')
    refine CD.seq ?_
    refine CD.region ?_
    refine OD.still (wants_plain rfl) rfl (still_mv rfl ot) ?_
    refine OD.still (wants_plain rfl) rfl (still_as rfl ot) ?_
    refine OD.wk (Wk.as_ (n := 21) (l' := [(2, _)]) (S' := [⟨b1, 94, 12, [_, _, _, _, _, _, _, _, _, _, _, _]⟩]) rfl rfl ⟨lk, trivial⟩) ?_
    refine OD.nil ?_
    refine CD.ret ?_
    refine ⟨.inr rfl, _, [], List.nil_sublist _, ret_one Tryd.results51 (res_tmp (Nat.le_of_ble_eq_true rfl) lk), ?_⟩
    first | exact ⟨rfl, rfl⟩ | (rw [h0]; exact ⟨rfl, rfl⟩)
   ·have hc1' := hc1
    (try simp only [V.cnd, ne_eq] at hc1')
    have h0 : colsF l = 0 := by simpa using hc1
    obtain ⟨h6, hk⟩ := cols_good h0
    have hsv := show_vp ht l h6.2 hk
    unfold stD at hsv
    have hsl := (show_len h6.2).1
    refine CD.skip ?_
    refine CD.seq ?_
    refine CD.seq ?_
    refine CD.region ?_
    refine OD.still (wants_plain rfl) rfl (still_r1 (mk := Op.load 94) rfl ot (by first | exact ld_blks (k := 0) (ds := [_, _, _, _, _, _, _, _, _, _, _, _]) rfl rfl Tryd.isAgg94 Tryd.sizeOf94 rfl rfl | exact ld_is (ds := [_, _, _, _, _, _, _, _, _, _, _, _]) Tryd.isAgg94 Tryd.sizeOf94 rfl rfl)) ?_
    refine OD.callP (wants_plain rfl) rfl rfl rfl Tryd.call68 (hsv) ⟨ot, trivial⟩ ?_
    refine OD.still (wants_plain rfl) rfl (still_r1 (mk := fun y => .call { callee := .builtin .len, args := #[y], argTypes := #[105] }) rfl ot (by first | exact len_list rfl Tryd.runUnderlying105 | exact len_row rfl Tryd.runUnderlying105)) ?_
    refine OD.still (wants_plain rfl) rfl (still_bin rfl ot opd_const bin_gtr) ?_
    refine OD.wk (Wk.as_ (n := 21) (l' := [(20, _)]) (S' := [⟨b1, 94, 12, [_, _, _, _, _, _, _, _, _, _, _, _]⟩]) rfl rfl ⟨lk, trivial⟩) ?_
    refine OD.nil ?_
    refine CD.cond ot (fun hc2 => ?_) (fun hc2 => ?_)
    ·exact absurd hc2 (by simp at hc2; omega)
    ·have hc2' := hc2
     (try simp only [V.cnd, ne_eq] at hc2')
     refine CD.skip ?_
     refine CD.seq ?_
     refine CD.region ?_
     refine OD.still (wants_plain rfl) rfl (still_as rfl opd_const) ?_
     refine OD.wk (Wk.as_ (n := 21) (l' := [(2, _)]) (S' := [⟨b1, 94, 12, [_, _, _, _, _, _, _, _, _, _, _, _]⟩]) rfl rfl ⟨lk, trivial⟩) ?_
     refine OD.nil ?_
     refine CD.ret ?_
     refine ⟨.inr rfl, _, [], List.nil_sublist _, ret_one Tryd.results51 (res_tmp (Nat.le_of_ble_eq_true rfl) lk), ?_⟩
     first | exact ⟨rfl, rfl⟩ | (rw [h0]; exact ⟨rfl, rfl⟩)

set_option maxHeartbeats 4000000 in
set_option maxRecDepth 100000 in
theorem Cols_vp (hm : (3, marksC) ∈ G) (hw : (0, wordsC) ∈ G) (ht : (2, typesC) ∈ G) (l : List ColL) (hl : l.length ≤ maxLen) (hok : ∀ c ∈ l, c.n.size ≤ maxLen) : VP Tryd.prog G 35 [.list 2 (l.flatMap cC) l.length] (.v (.int .i64 (colsF l))) := by
 refine VC.body Tryd.func35 rfl Tryd.ntmps35 (Nat.le_of_ble_eq_true rfl) fun X0 w0 S00 => ?_
 have hmx : maxLen = 9223372036854775807 := rfl
 have hcv := Check_vp hm hw ht l hl hok
 unfold stD at hcv
 refine CD.seq ?_
 refine CD.region ?_
 refine OD.still (wants_plain rfl) rfl (still_as rfl opd_const) ?_
 refine OD.wk (Wk.as_ (n := 6) (l' := [(0, _)]) (S' := []) rfl rfl ⟨lk, trivial⟩) ?_
 refine OD.nil ?_
 refine CD.seq ?_
 refine CD.region ?_
 refine OD.still (wants_plain rfl) rfl (still_mv rfl ot) ?_
 refine OD.still (wants_plain rfl) rfl (still_bld (pl := [(0, _), (1, _), (2, _), (9, _)]) (ds := [_, _, _, _, _, _, _, _, _, _, _, _]) rfl Tryd.zeroValue94 Tryd.runUnderlying94 places94_Pc4 ⟨rfl, opd_const, rfl, opd_const, rfl, ot, rfl, opd_const, trivial⟩ rfl rfl) ?_
 refine OD.callP (wants_plain rfl) rfl rfl rfl Tryd.call51 (hcv) ⟨ot, trivial⟩ ?_
 refine OD.still (wants_plain rfl) rfl (still_as rfl ot) ?_
 refine OD.wk (Wk.as_ (n := 6) (l' := [(2, _)]) (S' := []) rfl rfl ⟨lk, trivial⟩) ?_
 refine OD.nil ?_
 refine CD.ret ?_
 refine ⟨.inr rfl, _, [], List.nil_sublist _, ret_one Tryd.results35 (res_tmp (Nat.le_of_ble_eq_true rfl) lk), ?_⟩
 exact ⟨rfl, rfl⟩

/-- A value in its column. -/
def fitV (i : Nat) (c : ColL) (v : Vl) : Int := if checkV v ≠ 0 then checkV v else if v.k ≠ c.k ∧ (i = 0 ∨ v.k ≠ 0) then 4 else 0
def rowA : Nat → List ColL → List Vl → Int
 | i, c :: cs, v :: vs => if fitV i c v ≠ 0 then fitV i c v else rowA (i + 1) cs vs
 | _, _, _ => 0
/-- What expr.Row answers. -/
def rowF (cs : List ColL) (vs : List Vl) : Int := if colsF cs ≠ 0 then colsF cs else if vs.length ≠ cs.length then 1 else rowA 0 cs vs
end Go.Proofs.YtfooincnmobemaaDoor.Pc

namespace Go.Proofs.YtfooincnmobemaaDoor.Nm
open Go.RowKit V Pk Vl
set_option linter.unusedVariables false
set_option linter.unusedSimpArgs false

theorem eqs33 (x y : Vl) : ∀ w, (Op.equalIn 10000 33 (.agg [.int .i64 x.k, .int .i64 x.n, .string x.s].toArray) (.agg [.int .i64 y.k, .int .i64 y.n, .string y.s].toArray)).run Tryd.prog w = .ok (x.k == y.k && (x.n == y.n && x.s.toList == y.s.toList)) w := fun w => by
 have hS : Tryd.prog.underlying 33 = some (.struct (Tryd.prog.fieldsOf 33)) := by kernel_rfl
 have hp : Tryd.prog.stoodInHeld 33 = false := by kernel_rfl
 rw [show (10000 : Nat) = 9999 + 1 from rfl, run_equalIn_agg w 9999 33 _ _ hS hp]
 have u := Tryd.underlying33
 have u3 := Tryd.underlying3
 have u9 := Tryd.underlying9
 have a3 := Tryd.isAgg3
 have a9 := Tryd.isAgg9
 have z3 := Tryd.sizeOf3
 have z9 := Tryd.sizeOf9
 simp only [Program.fieldsOf, u]
 go_simp
 by_cases h1 : x.k = y.k <;> by_cases h2 : x.n = y.n <;> by_cases h3 : x.s.toList = y.s.toList <;> simp [h1, h2, h3]

def litF (v : Vl) : Int := if v.k = 2 ∧ v.n = -9223372036854775808 then 3 else checkV v
structure OpL where
 k : Int
 v : Vl
 nm : ByteArray
def cO (o : OpL) : List D := [.v (.int .i64 o.k), .v (.int .i64 o.v.k), .v (.int .i64 o.v.n), .v (.string o.v.s), .v (.string o.nm)]
theorem cO_len (o : OpL) : (cO o).length = 5 := rfl
def popsF (k : Int) : Int := if k = 1 ∨ k = 2 then 0 else if k = 5 ∨ k = 11 then 1 else 2
theorem pops_bd (k : Int) : 0 ≤ popsF k ∧ popsF k ≤ 2 := by unfold popsF; split <;> (try split) <;> omega
def zeroV (v : Vl) : Bool := v.k == 0 && (v.n == 0 && v.s.toList == (⟨#[]⟩ : ByteArray).toList)
/-- What is wrong with an op, on a stack that is so high. -/
def opErr (h : Int) (o : OpL) : Int :=
  if o.k < 1 ∨ o.k > 11 then 2
  else if litF o.v ≠ 0 then litF o.v
  else if ((o.k != 1 && !(zeroV o.v)) || (o.k != 2 && !(o.nm.toList == (⟨#[]⟩ : ByteArray).toList))) = true then 6
  else if o.k = 2 ∧ nameF o.nm ≠ 0 then nameF o.nm
  else if h < popsF o.k then 7 else 0
def exprL : Int → List OpL → Int
 | h, [] => if h = 1 then 0 else 7
 | h, o :: r => if opErr h o = 0 then exprL (h + (1 - popsF o.k)) r else opErr h o
def exprF (l : List OpL) : Int := if l.length > 40 then 10 else exprL 0 l
theorem exprL_ok {l : List OpL} {i : Nat} {h : Int} (hi : i < l.length) (he : opErr h l[i] = 0) : exprL h (l.drop i) = exprL (h + (1 - popsF l[i].k)) (l.drop (i + 1)) := by
 rw [List.drop_eq_getElem_cons hi, exprL, if_pos he]
theorem exprL_no {l : List OpL} {i : Nat} {h e : Int} (hi : i < l.length) (he : opErr h l[i] = e) (h0 : e ≠ 0) : exprL h (l.drop i) = e := by
 rw [List.drop_eq_getElem_cons hi, exprL, if_neg (by rw [he]; exact h0), he]
theorem exprL_end {l : List OpL} {i : Nat} {h : Int} (hi : l.length ≤ i) : exprL h (l.drop i) = if h = 1 then 0 else 7 := by
 rw [List.drop_of_length_le hi, exprL]
variable {G : List (Nat × List Value)}

set_option maxHeartbeats 4000000 in
set_option maxRecDepth 100000 in
theorem literal_vp (v : Vl) : VP Tryd.prog G 59 [.agg (cV v)] (.v (.int .i64 (litF v))) := by
 refine VC.body Tryd.func59 rfl Tryd.ntmps59 (Nat.le_of_ble_eq_true rfl) fun X0 w0 S00 => ?_
 unfold cV
 refine CD.seq ?_
 refine CD.region ?_
 refine OD.box (ds := [_, _, _]) (wants_plain rfl) rfl rfl ot rfl rfl (fun b1 => ?_)
 refine OD.still (wants_plain rfl) rfl (still_as rfl opd_const) ?_
 refine OD.wk (Wk.as_ (n := 13) (l' := [(1, _)]) (S' := [⟨b1, 33, 3, [_, _, _]⟩]) rfl rfl ⟨lk, trivial⟩) ?_
 refine OD.nil ?_
 refine CD.seq ?_
 refine CD.seq ?_
 refine CD.region ?_
 refine OD.still (wants_plain rfl) rfl (still_r1 (mk := fun y => Op.fieldAddr 33 y 0) rfl ot (by first | exact fa_ptr (off := 0) Tryd.runUnderlying33 rfl Tryd.sizeOf3 rfl | exact fa_iptr (off := 0) Tryd.runUnderlying33 rfl Tryd.sizeOf3 rfl)) ?_
 refine OD.still (wants_plain rfl) rfl (still_r1 (mk := Op.load 3) rfl ot (by first | exact ld_blk (k := 0) rfl rfl Tryd.isAgg3 rfl | exact ld_i Tryd.isAgg3 rfl)) ?_
 refine OD.still (wants_plain rfl) rfl (still_bin rfl ot opd_const bin_eql) ?_
 refine OD.still (wants_plain rfl) rfl (still_mv rfl ot) ?_
 refine OD.split (t := 6) lk (fun hg6 => ?_) (fun hg6 => ?_)
 ·have hg6' := hg6; (try simp only [V.cnd, ne_eq] at hg6')
  refine OD.still (wants_T rfl rfl rfl lk (by first | rfl | assumption)) rfl (still_r1 (mk := fun y => Op.fieldAddr 33 y 1) rfl ot (by first | exact fa_ptr (off := 1) Tryd.runUnderlying33 rfl Tryd.sizeOf3 rfl | exact fa_iptr (off := 1) Tryd.runUnderlying33 rfl Tryd.sizeOf3 rfl)) ?_
  refine OD.still (wants_T rfl rfl rfl lk (by first | rfl | assumption)) rfl (still_r1 (mk := Op.load 3) rfl ot (by first | exact ld_blk (k := 0) rfl rfl Tryd.isAgg3 rfl | exact ld_i Tryd.isAgg3 rfl)) ?_
  refine OD.still (wants_T rfl rfl rfl lk (by first | rfl | assumption)) rfl (still_bin rfl ot opd_const bin_eql) ?_
  refine OD.still (wants_plain rfl) rfl (still_pickT rfl ot (by first | rfl | assumption) ot) ?_
  refine OD.wk (Wk.as_ (n := 13) (l' := [(1, _), (10, _)]) (S' := [⟨b1, 33, 3, [_, _, _]⟩]) rfl rfl ⟨lk, lk, trivial⟩) ?_
  refine OD.nil ?_
  refine CD.cond ot (fun hc0 => ?_) (fun hc0 => ?_)
  ·have hc0' := hc0
   (try simp only [V.cnd, ne_eq] at hc0')
   refine CD.seq ?_
   refine CD.region ?_
   refine OD.still (wants_plain rfl) rfl (still_as rfl opd_const) ?_
   refine OD.wk (Wk.as_ (n := 13) (l' := [(2, _)]) (S' := [⟨b1, 33, 3, [_, _, _]⟩]) rfl rfl ⟨lk, trivial⟩) ?_
   refine OD.nil ?_
   refine CD.ret ?_
   refine ⟨.inr rfl, _, [], List.nil_sublist _, ret_one Tryd.results59 (res_tmp (Nat.le_of_ble_eq_true rfl) lk), ?_⟩
   refine ⟨vi ?_, rfl⟩
   unfold litF
   simp_all
  ·have hc0' := hc0
   (try simp only [V.cnd, ne_eq] at hc0')
   refine CD.skip ?_
   refine CD.seq ?_
   refine CD.region ?_
   refine OD.still (wants_plain rfl) rfl (still_r1 (mk := Op.load 33) rfl ot (by first | exact ld_blks (k := 0) (ds := [_, _, _]) rfl rfl Tryd.isAgg33 Tryd.sizeOf33 rfl rfl | exact ld_is (ds := [_, _, _]) Tryd.isAgg33 Tryd.sizeOf33 rfl rfl)) ?_
   refine OD.callP (wants_plain rfl) rfl rfl rfl Tryd.call34 (Vl.check_vp v) ⟨ot, trivial⟩ ?_
   refine OD.still (wants_plain rfl) rfl (still_as rfl ot) ?_
   refine OD.wk (Wk.as_ (n := 13) (l' := [(2, _)]) (S' := [⟨b1, 33, 3, [_, _, _]⟩]) rfl rfl ⟨lk, trivial⟩) ?_
   refine OD.nil ?_
   refine CD.ret ?_
   refine ⟨.inr rfl, _, [], List.nil_sublist _, ret_one Tryd.results59 (res_tmp (Nat.le_of_ble_eq_true rfl) lk), ?_⟩
   refine ⟨vi ?_, rfl⟩
   unfold litF
   simp_all
 ·have hg6' := hg6; (try simp only [V.cnd, ne_eq] at hg6')
  refine OD.skip (wants_F rfl rfl rfl lk (by first | rfl | assumption)) rfl ?_
  refine OD.skip (wants_F rfl rfl rfl lk (by first | rfl | assumption)) rfl ?_
  refine OD.skip (wants_F rfl rfl rfl lk (by first | rfl | assumption)) rfl ?_
  refine OD.still (wants_plain rfl) rfl (still_pickF rfl ot (by first | rfl | assumption) opd_const) ?_
  refine OD.wk (Wk.as_ (n := 13) (l' := [(1, _), (10, _)]) (S' := [⟨b1, 33, 3, [_, _, _]⟩]) rfl rfl ⟨lk, lk, trivial⟩) ?_
  refine OD.nil ?_
  refine CD.condF ot (by first | rfl | assumption) ?_
  refine CD.skip ?_
  refine CD.seq ?_
  refine CD.region ?_
  refine OD.still (wants_plain rfl) rfl (still_r1 (mk := Op.load 33) rfl ot (by first | exact ld_blks (k := 0) (ds := [_, _, _]) rfl rfl Tryd.isAgg33 Tryd.sizeOf33 rfl rfl | exact ld_is (ds := [_, _, _]) Tryd.isAgg33 Tryd.sizeOf33 rfl rfl)) ?_
  refine OD.callP (wants_plain rfl) rfl rfl rfl Tryd.call34 (Vl.check_vp v) ⟨ot, trivial⟩ ?_
  refine OD.still (wants_plain rfl) rfl (still_as rfl ot) ?_
  refine OD.wk (Wk.as_ (n := 13) (l' := [(2, _)]) (S' := [⟨b1, 33, 3, [_, _, _]⟩]) rfl rfl ⟨lk, trivial⟩) ?_
  refine OD.nil ?_
  refine CD.ret ?_
  refine ⟨.inr rfl, _, [], List.nil_sublist _, ret_one Tryd.results59 (res_tmp (Nat.le_of_ble_eq_true rfl) lk), ?_⟩
  refine ⟨vi ?_, rfl⟩
  unfold litF
  simp_all

set_option maxHeartbeats 4000000 in
set_option maxRecDepth 100000 in
theorem pops_vp (k : Int) : VP Tryd.prog G 61 [.v (.int .i64 k)] (.v (.int .i64 (popsF k))) := by
 refine VC.body Tryd.func61 rfl Tryd.ntmps61 (Nat.le_of_ble_eq_true rfl) fun X0 w0 S00 => ?_
 refine CD.seq ?_
 refine CD.region ?_
 refine OD.still (wants_plain rfl) rfl (still_as rfl opd_const) ?_
 refine OD.wk (Wk.as_ (n := 10) (l' := [(0, _)]) (S' := []) rfl rfl ⟨lk, trivial⟩) ?_
 refine OD.nil ?_
 refine CD.seq ?_
 refine CD.seq ?_
 refine CD.region ?_
 refine OD.still (wants_plain rfl) rfl (still_mv rfl ot) ?_
 refine OD.wk (Wk.as_ (n := 10) (l' := [(3, _)]) (S' := []) rfl rfl ⟨lk, trivial⟩) ?_
 refine OD.nil ?_
 refine CD.block ?_
 refine CD.seq ?_
 refine CD.seq ?_
 refine CD.region ?_
 refine OD.still (wants_plain rfl) rfl (still_bin rfl ot opd_const bin_eql) ?_
 refine OD.still (wants_plain rfl) rfl (still_as rfl ot) ?_
 refine OD.wk (Wk.as_ (n := 10) (l' := [(3, _), (4, _)]) (S' := []) rfl rfl ⟨lk, lk, trivial⟩) ?_
 refine OD.nil ?_
 refine CD.cond ot (fun hc0 => ?_) (fun hc0 => ?_)
 ·have hc0' := hc0
  (try simp only [V.cnd, ne_eq] at hc0')
  refine CD.skip ?_
  refine CD.condT ot (by first | rfl | assumption) ?_
  refine CD.seq ?_
  refine CD.region ?_
  refine OD.still (wants_plain rfl) rfl (still_as rfl opd_const) ?_
  refine OD.wk (Wk.as_ (n := 10) (l' := [(2, _)]) (S' := []) rfl rfl ⟨lk, trivial⟩) ?_
  refine OD.nil ?_
  refine CD.ret ?_
  refine ⟨.inr rfl, _, [], List.nil_sublist _, ret_one Tryd.results61 (res_tmp (Nat.le_of_ble_eq_true rfl) lk), ?_⟩
  refine ⟨vi ?_, rfl⟩
  unfold popsF
  simp_all
 ·have hc0' := hc0
  (try simp only [V.cnd, ne_eq] at hc0')
  refine CD.region ?_
  refine OD.still (wants_plain rfl) rfl (still_bin rfl ot opd_const bin_eql) ?_
  refine OD.still (wants_plain rfl) rfl (still_as rfl ot) ?_
  refine OD.wk (Wk.as_ (n := 10) (l' := [(3, _), (4, _)]) (S' := []) rfl rfl ⟨lk, lk, trivial⟩) ?_
  refine OD.nil ?_
  refine CD.cond ot (fun hc1 => ?_) (fun hc1 => ?_)
  ·have hc1' := hc1
   (try simp only [V.cnd, ne_eq] at hc1')
   refine CD.seq ?_
   refine CD.region ?_
   refine OD.still (wants_plain rfl) rfl (still_as rfl opd_const) ?_
   refine OD.wk (Wk.as_ (n := 10) (l' := [(2, _)]) (S' := []) rfl rfl ⟨lk, trivial⟩) ?_
   refine OD.nil ?_
   refine CD.ret ?_
   refine ⟨.inr rfl, _, [], List.nil_sublist _, ret_one Tryd.results61 (res_tmp (Nat.le_of_ble_eq_true rfl) lk), ?_⟩
   refine ⟨vi ?_, rfl⟩
   unfold popsF
   simp_all
  ·have hc1' := hc1
   (try simp only [V.cnd, ne_eq] at hc1')
   refine CD.seq ?_
   refine CD.seq ?_
   refine CD.region ?_
   refine OD.still (wants_plain rfl) rfl (still_bin rfl ot opd_const bin_eql) ?_
   refine OD.still (wants_plain rfl) rfl (still_as rfl ot) ?_
   refine OD.wk (Wk.as_ (n := 10) (l' := [(3, _), (7, _)]) (S' := []) rfl rfl ⟨lk, lk, trivial⟩) ?_
   refine OD.nil ?_
   refine CD.cond ot (fun hc2 => ?_) (fun hc2 => ?_)
   ·have hc2' := hc2
    (try simp only [V.cnd, ne_eq] at hc2')
    refine CD.skip ?_
    refine CD.condT ot (by first | rfl | assumption) ?_
    refine CD.seq ?_
    refine CD.region ?_
    refine OD.still (wants_plain rfl) rfl (still_as rfl opd_const) ?_
    refine OD.wk (Wk.as_ (n := 10) (l' := [(2, _)]) (S' := []) rfl rfl ⟨lk, trivial⟩) ?_
    refine OD.nil ?_
    refine CD.ret ?_
    refine ⟨.inr rfl, _, [], List.nil_sublist _, ret_one Tryd.results61 (res_tmp (Nat.le_of_ble_eq_true rfl) lk), ?_⟩
    refine ⟨vi ?_, rfl⟩
    unfold popsF
    simp_all
   ·have hc2' := hc2
    (try simp only [V.cnd, ne_eq] at hc2')
    refine CD.region ?_
    refine OD.still (wants_plain rfl) rfl (still_bin rfl ot opd_const bin_eql) ?_
    refine OD.still (wants_plain rfl) rfl (still_as rfl ot) ?_
    refine OD.wk (Wk.as_ (n := 10) (l' := [(7, _)]) (S' := []) rfl rfl ⟨lk, trivial⟩) ?_
    refine OD.nil ?_
    refine CD.cond ot (fun hc3 => ?_) (fun hc3 => ?_)
    ·have hc3' := hc3
     (try simp only [V.cnd, ne_eq] at hc3')
     refine CD.seq ?_
     refine CD.region ?_
     refine OD.still (wants_plain rfl) rfl (still_as rfl opd_const) ?_
     refine OD.wk (Wk.as_ (n := 10) (l' := [(2, _)]) (S' := []) rfl rfl ⟨lk, trivial⟩) ?_
     refine OD.nil ?_
     refine CD.ret ?_
     refine ⟨.inr rfl, _, [], List.nil_sublist _, ret_one Tryd.results61 (res_tmp (Nat.le_of_ble_eq_true rfl) lk), ?_⟩
     refine ⟨vi ?_, rfl⟩
     unfold popsF
     simp_all
    ·have hc3' := hc3
     (try simp only [V.cnd, ne_eq] at hc3')
     refine CD.skip ?_
     refine CD.seq ?_
     refine CD.region ?_
     refine OD.still (wants_plain rfl) rfl (still_as rfl opd_const) ?_
     refine OD.wk (Wk.as_ (n := 10) (l' := [(2, _)]) (S' := []) rfl rfl ⟨lk, trivial⟩) ?_
     refine OD.nil ?_
     refine CD.ret ?_
     refine ⟨.inr rfl, _, [], List.nil_sublist _, ret_one Tryd.results61 (res_tmp (Nat.le_of_ble_eq_true rfl) lk), ?_⟩
     refine ⟨vi ?_, rfl⟩
     unfold popsF
     simp_all

theorem places33_Nm3 : ∀ w, ((#[{ name := "Kind", type := 3, offset := 0, embedded := false, tag := "", pkgPath := "", byteOffset := 0 }, { name := "Int", type := 3, offset := 1, embedded := false, tag := "", pkgPath := "", byteOffset := 8 }, { name := "Text", type := 9, offset := 2, embedded := false, tag := "", pkgPath := "", byteOffset := 16 }] : Array Field).mapM fun f => do pure (f.offset, ← sizeOf f.type) : Sem (Array (Nat × Nat))).run Tryd.prog w = .ok #[(0, 1), (1, 1), (2, 1)] w := fun w => by simp [Tryd.sizeOf3, Tryd.sizeOf9]

set_option maxHeartbeats 4000000 in
set_option maxRecDepth 100000 in
theorem expr_vp (hm : (3, marksC) ∈ G) (hw : (0, wordsC) ∈ G) (l : List OpL) (hs : ∀ o ∈ l, o.nm.size ≤ maxLen) : VP Tryd.prog G 40 [.list 5 (l.flatMap cO) l.length] (.v (.int .i64 (exprF l))) := by
 refine VC.body Tryd.func40 rfl Tryd.ntmps40 (Nat.le_of_ble_eq_true rfl) fun X0 w0 S00 => ?_
 have hlx : l.length ≤ 40 ∨ 40 < l.length := by omega
 refine CD.seq ?_
 refine CD.region ?_
 refine OD.still (wants_plain rfl) rfl (still_as rfl opd_const) ?_
 refine OD.wk (Wk.as_ (n := 73) (l' := [(0, _)]) (S' := []) rfl rfl ⟨lk, trivial⟩) ?_
 refine OD.nil ?_
 refine CD.seq ?_
 refine CD.seq ?_
 refine CD.region ?_
 refine OD.still (wants_plain rfl) rfl (still_mv rfl ot) ?_
 refine OD.still (wants_plain rfl) rfl (still_r1 (mk := fun y => .call { callee := .builtin .len, args := #[y], argTypes := #[25] }) rfl ot (by first | exact len_list rfl Tryd.runUnderlying25 | exact len_row rfl Tryd.runUnderlying25)) ?_
 refine OD.still (wants_plain rfl) rfl (still_bin rfl ot opd_const bin_gtr) ?_
 refine OD.wk (Wk.as_ (n := 73) (l' := [(0, _), (10, _)]) (S' := []) rfl rfl ⟨lk, lk, trivial⟩) ?_
 refine OD.nil ?_
 refine CD.cond ot (fun hc0 => ?_) (fun hc0 => ?_)
 ·have hc0' := hc0
  (try simp only [V.cnd, ne_eq] at hc0')
  have hf : exprF l = 10 := if_pos (by omega)
  refine CD.seq ?_
  refine CD.region ?_
  refine OD.still (wants_plain rfl) rfl (still_as rfl opd_const) ?_
  refine OD.wk (Wk.as_ (n := 73) (l' := [(2, _)]) (S' := []) rfl rfl ⟨lk, trivial⟩) ?_
  refine OD.nil ?_
  refine CD.ret ?_
  refine ⟨.inr rfl, _, [], List.nil_sublist _, ret_one Tryd.results40 (res_tmp (Nat.le_of_ble_eq_true rfl) lk), ?_⟩
  refine ⟨vi ?_, rfl⟩
  first | exact hf.symm | (rw [hf, hx, exprL_no hlt herr (by first | assumption | decide)]; done) | (rw [hf, hend, if_pos (by simpa using hc8)]; done) | (rw [hf, hend, if_neg (by simpa using hc8)]; done)
 ·have hc0' := hc0
  (try simp only [V.cnd, ne_eq] at hc0')
  have hf : exprF l = exprL 0 l := if_neg (by omega)
  have h40 : l.length ≤ 40 := by omega
  refine CD.skip ?_
  refine CD.seq ?_
  refine CD.region ?_
  refine OD.still (wants_plain rfl) rfl (still_as rfl opd_const) ?_
  refine OD.wk (Wk.as_ (n := 73) (l' := [(0, _), (3, _)]) (S' := []) rfl rfl ⟨lk, lk, trivial⟩) ?_
  refine OD.nil ?_
  refine CD.seq ?_
  refine CD.seq ?_
  refine CD.region ?_
  refine OD.still (wants_plain rfl) rfl (still_mv rfl ot) ?_
  refine OD.still (wants_plain rfl) rfl (still_r1 (mk := fun y => .call { callee := .builtin .len, args := #[y], argTypes := #[25] }) rfl ot (by first | exact len_list rfl Tryd.runUnderlying25 | exact len_row rfl Tryd.runUnderlying25)) ?_
  refine OD.still (wants_plain rfl) rfl (still_mv rfl opd_const) ?_
  refine OD.wk (Wk.as_ (n := 73) (l' := [(3, _), (11, _), (12, _), (13, _)]) (S' := []) rfl rfl ⟨lk, lk, lk, lk, trivial⟩) ?_
  refine OD.nil ?_
  refine CD.block ?_
  refine CD.wk (Wk.asS (n := 73) (l' := [(3, .v (.int .i64 (0))), (11, .list 5 (l.flatMap cO) l.length), (12, .v (.int .i64 l.length)), (13, .v (.int .i64 ((0) : Nat)))]) (S' := []) rfl (by repeat (first | exact List.Sublist.refl _ | apply List.Sublist.cons)) ⟨(by (repeat (first | exact look_hit | (apply look_at; focus (first | rfl | (simp; done) | (congr 2; omega))) | (apply look_miss; focus rfl))); done), (by (repeat (first | exact look_hit | (apply look_at; focus (first | rfl | (simp; done) | (congr 2; omega))) | (apply look_miss; focus rfl))); done), (by (repeat (first | exact look_hit | (apply look_at; focus (first | rfl | (simp; done) | (congr 2; omega))) | (apply look_miss; focus rfl))); done), (by (repeat (first | exact look_hit | (apply look_at; focus (first | rfl | (simp; done) | (congr 2; omega))) | (apply look_miss; focus rfl))); done), trivial⟩) (CD.loop (fun (gh__ : Nat × Int) y__ => match gh__ with | (i, h) => (i ≤ l.length) ∧ (exprL 0 l = exprL h (l.drop i)) ∧ (0 ≤ h) ∧ (h ≤ i) ∧ y__ = (⟨73, [(3, .v (.int .i64 h)), (11, .list 5 (l.flatMap cO) l.length), (12, .v (.int .i64 l.length)), (13, .v (.int .i64 (i : Nat)))], []⟩ : St)) (fun (gh__ : Nat × Int) => match gh__ with | (i, h) => l.length - i) (0, 0) ⟨(Nat.zero_le _), rfl, (Int.le_refl _), (Int.le_refl _), rfl⟩ ?_)
  rintro ⟨i, h⟩ _ ⟨hi, hx, h0, hh, rfl⟩
  refine CD.seq ?_
  refine CD.region ?_
  refine OD.still (wants_plain rfl) rfl (still_bin rfl ot ot bin_lss) ?_
  refine OD.wk (Wk.as_ (n := 73) (l' := [(3, _), (11, _), (12, _), (13, _), (14, _)]) (S' := []) rfl rfl ⟨lk, lk, lk, lk, lk, trivial⟩) ?_
  refine OD.nil ?_
  refine CD.seq ?_
  refine CD.cond ot (fun hc1 => ?_) (fun hc1 => ?_)
  ·have hc1' := hc1
   (try simp only [V.cnd, ne_eq] at hc1')
   have hlt : i < l.length := by omega
   have hpb := pops_bd l[i].k
   refine CD.skip ?_
   refine CD.seq ?_
   refine CD.block ?_
   refine CD.seq ?_
   refine CD.region ?_
   refine OD.still (wants_plain rfl) rfl (still_r2 (mk := Op.indexAddr 25) rfl ot ot (by first | exact ix_list Tryd.runUnderlying25 Tryd.sizeOf40 rfl (by first | assumption | omega) | exact ix_list (j := Int.toNat _) Tryd.runUnderlying25 Tryd.sizeOf40 (Int.toNat_of_nonneg (by omega)).symm (by omega) | exact ix_row Tryd.runUnderlying25 Tryd.sizeOf40 rfl (by first | assumption | omega) | exact ix_row (j := Int.toNat _) Tryd.runUnderlying25 Tryd.sizeOf40 (Int.toNat_of_nonneg (by omega)).symm (by omega))) ?_
   refine OD.still (wants_plain rfl) rfl (still_r1 (mk := Op.load 40) rfl ot (by first | exact ld_fms cO_len Tryd.isAgg40 Tryd.sizeOf40 (by first | assumption | omega) | exact ld_is (ds := [_, _, _, _, _]) Tryd.isAgg40 Tryd.sizeOf40 rfl rfl)) ?_
   refine OD.alloc (ds := [_, _, _, _, _]) (wants_plain rfl) rfl rfl Tryd.zeroValue40 rfl (fun b5 => ?_)
   refine OD.store (k := 0) (cs' := [_, _, _, _, _]) (wants_plain rfl) rfl rfl ot rfl rfl ot rfl rfl Tryd.sizeOf40 rfl rfl rfl ?_
   refine OD.wk (Wk.as_ (n := 73) (l' := [(3, _), (5, _), (11, _), (12, _), (13, _)]) (S' := [⟨b5, 40, 5, [_, _, _, _, _]⟩]) rfl rfl ⟨lk, lk, lk, lk, lk, trivial⟩) ?_
   refine OD.nil ?_
   refine CD.seq ?_
   refine CD.seq ?_
   refine CD.region ?_
   refine OD.still (wants_plain rfl) rfl (still_r1 (mk := fun y => Op.fieldAddr 40 y 0) rfl ot (by first | exact fa_ptr (off := 0) Tryd.runUnderlying40 rfl Tryd.sizeOf3 rfl | exact fa_iptr (off := 0) Tryd.runUnderlying40 rfl Tryd.sizeOf3 rfl)) ?_
   refine OD.still (wants_plain rfl) rfl (still_r1 (mk := Op.load 3) rfl ot (by first | exact ld_blk (k := 0) rfl rfl Tryd.isAgg3 rfl | exact ld_fm cO_len Tryd.isAgg3 (by first | assumption | omega) rfl | exact ld_fm0 cO_len Tryd.isAgg3 (by first | assumption | omega) rfl | exact ld_row (k := 0) cO_len rfl rfl rfl Tryd.isAgg3 (by first | assumption | omega) rfl | exact ld_row0 (k := 0) cO_len rfl rfl rfl Tryd.isAgg3 (by first | assumption | omega) rfl | exact ld_i Tryd.isAgg3 rfl)) ?_
   refine OD.still (wants_plain rfl) rfl (still_bin rfl ot opd_const bin_lss) ?_
   refine OD.still (wants_plain rfl) rfl (still_mv rfl ot) ?_
   refine OD.split (t := 20) lk (fun hg20 => ?_) (fun hg20 => ?_)
   ·have hg20' := hg20; (try simp only [V.cnd, ne_eq] at hg20')
    refine OD.skip (wants_F rfl rfl rfl lk (by first | rfl | assumption)) rfl ?_
    refine OD.skip (wants_F rfl rfl rfl lk (by first | rfl | assumption)) rfl ?_
    refine OD.skip (wants_F rfl rfl rfl lk (by first | rfl | assumption)) rfl ?_
    refine OD.still (wants_plain rfl) rfl (still_pickT rfl ot (by first | rfl | assumption) opd_const) ?_
    refine OD.wk (Wk.as_ (n := 73) (l' := [(3, _), (5, _), (11, _), (12, _), (13, _), (24, _)]) (S' := [⟨b5, 40, 5, [_, _, _, _, _]⟩]) rfl rfl ⟨lk, lk, lk, lk, lk, lk, trivial⟩) ?_
    refine OD.nil ?_
    refine CD.condT ot (by first | rfl | assumption) ?_
    have herr : opErr h l[i] = 2 := by unfold opErr; rw [if_pos (by omega)]
    refine CD.seq ?_
    refine CD.region ?_
    refine OD.still (wants_plain rfl) rfl (still_as rfl opd_const) ?_
    refine OD.wk (Wk.as_ (n := 73) (l' := [(2, _)]) (S' := [⟨b5, 40, 5, [_, _, _, _, _]⟩]) rfl rfl ⟨lk, trivial⟩) ?_
    refine OD.nil ?_
    refine CD.ret ?_
    refine ⟨.inr rfl, _, [], List.nil_sublist _, ret_one Tryd.results40 (res_tmp (Nat.le_of_ble_eq_true rfl) lk), ?_⟩
    refine ⟨vi ?_, rfl⟩
    first | exact hf.symm | (rw [hf, hx, exprL_no hlt herr (by first | assumption | decide)]; done) | (rw [hf, hend, if_pos (by simpa using hc8)]; done) | (rw [hf, hend, if_neg (by simpa using hc8)]; done)
   ·have hg20' := hg20; (try simp only [V.cnd, ne_eq] at hg20')
    refine OD.still (wants_T rfl rfl rfl lk (by first | rfl | assumption)) rfl (still_r1 (mk := fun y => Op.fieldAddr 40 y 0) rfl ot (by first | exact fa_ptr (off := 0) Tryd.runUnderlying40 rfl Tryd.sizeOf3 rfl | exact fa_iptr (off := 0) Tryd.runUnderlying40 rfl Tryd.sizeOf3 rfl)) ?_
    refine OD.still (wants_T rfl rfl rfl lk (by first | rfl | assumption)) rfl (still_r1 (mk := Op.load 3) rfl ot (by first | exact ld_blk (k := 0) rfl rfl Tryd.isAgg3 rfl | exact ld_fm cO_len Tryd.isAgg3 (by first | assumption | omega) rfl | exact ld_fm0 cO_len Tryd.isAgg3 (by first | assumption | omega) rfl | exact ld_row (k := 0) cO_len rfl rfl rfl Tryd.isAgg3 (by first | assumption | omega) rfl | exact ld_row0 (k := 0) cO_len rfl rfl rfl Tryd.isAgg3 (by first | assumption | omega) rfl | exact ld_i Tryd.isAgg3 rfl)) ?_
    refine OD.still (wants_T rfl rfl rfl lk (by first | rfl | assumption)) rfl (still_bin rfl ot opd_const bin_gtr) ?_
    refine OD.still (wants_plain rfl) rfl (still_pickF rfl ot (by first | rfl | assumption) ot) ?_
    refine OD.wk (Wk.as_ (n := 73) (l' := [(3, _), (5, _), (11, _), (12, _), (13, _), (24, _)]) (S' := [⟨b5, 40, 5, [_, _, _, _, _]⟩]) rfl rfl ⟨lk, lk, lk, lk, lk, lk, trivial⟩) ?_
    refine OD.nil ?_
    refine CD.cond ot (fun hc2 => ?_) (fun hc2 => ?_)
    ·have hc2' := hc2
     (try simp only [V.cnd, ne_eq] at hc2')
     have herr : opErr h l[i] = 2 := by unfold opErr; rw [if_pos (by omega)]
     refine CD.seq ?_
     refine CD.region ?_
     refine OD.still (wants_plain rfl) rfl (still_as rfl opd_const) ?_
     refine OD.wk (Wk.as_ (n := 73) (l' := [(2, _)]) (S' := [⟨b5, 40, 5, [_, _, _, _, _]⟩]) rfl rfl ⟨lk, trivial⟩) ?_
     refine OD.nil ?_
     refine CD.ret ?_
     refine ⟨.inr rfl, _, [], List.nil_sublist _, ret_one Tryd.results40 (res_tmp (Nat.le_of_ble_eq_true rfl) lk), ?_⟩
     refine ⟨vi ?_, rfl⟩
     first | exact hf.symm | (rw [hf, hx, exprL_no hlt herr (by first | assumption | decide)]; done) | (rw [hf, hend, if_pos (by simpa using hc8)]; done) | (rw [hf, hend, if_neg (by simpa using hc8)]; done)
    ·have hc2' := hc2
     (try simp only [V.cnd, ne_eq] at hc2')
     have hk1 : ¬ (l[i].k < 1 ∨ l[i].k > 11) := by omega
     refine CD.skip ?_
     refine CD.seq ?_
     refine CD.seq ?_
     refine CD.region ?_
     refine OD.still (wants_plain rfl) rfl (still_r1 (mk := fun y => Op.fieldAddr 40 y 1) rfl ot (by first | exact fa_ptr (off := 1) Tryd.runUnderlying40 rfl Tryd.sizeOf33 rfl | exact fa_iptr (off := 1) Tryd.runUnderlying40 rfl Tryd.sizeOf33 rfl)) ?_
     refine OD.still (wants_plain rfl) rfl (still_r1 (mk := Op.load 33) rfl ot (by first | exact ld_blks (k := 0) (ds := [_, _, _]) rfl rfl Tryd.isAgg33 Tryd.sizeOf33 rfl rfl | exact ld_fms cO_len Tryd.isAgg33 Tryd.sizeOf33 (by first | assumption | omega) | exact ld_rows (k := 0) cO_len rfl rfl rfl Tryd.isAgg33 Tryd.sizeOf33 (by first | assumption | omega) | exact ld_is (ds := [_, _, _]) Tryd.isAgg33 Tryd.sizeOf33 rfl rfl)) ?_
     refine OD.callP (wants_plain rfl) rfl rfl rfl Tryd.call59 (literal_vp l[i].v) ⟨ot, trivial⟩ ?_
     refine OD.still (wants_plain rfl) rfl (still_as rfl ot) ?_
     refine OD.wk (Wk.as_ (n := 73) (l' := [(3, _), (5, _), (6, _), (11, _), (12, _), (13, _)]) (S' := [⟨b5, 40, 5, [_, _, _, _, _]⟩]) rfl rfl ⟨lk, lk, lk, lk, lk, lk, trivial⟩) ?_
     refine OD.nil ?_
     refine CD.seq ?_
     refine CD.region ?_
     refine OD.still (wants_plain rfl) rfl (still_mv rfl ot) ?_
     refine OD.still (wants_plain rfl) rfl (still_bin rfl ot opd_const bin_neq) ?_
     refine OD.wk (Wk.as_ (n := 73) (l' := [(3, _), (5, _), (6, _), (11, _), (12, _), (13, _), (29, _)]) (S' := [⟨b5, 40, 5, [_, _, _, _, _]⟩]) rfl rfl ⟨lk, lk, lk, lk, lk, lk, lk, trivial⟩) ?_
     refine OD.nil ?_
     refine CD.cond ot (fun hc3 => ?_) (fun hc3 => ?_)
     ·have hc3' := hc3
      (try simp only [V.cnd, ne_eq] at hc3')
      have hlit : litF l[i].v ≠ 0 := by simpa using hc3
      have herr : opErr h l[i] = litF l[i].v := by unfold opErr; rw [if_neg hk1, if_pos hlit]
      refine CD.seq ?_
      refine CD.region ?_
      refine OD.still (wants_plain rfl) rfl (still_mv rfl ot) ?_
      refine OD.still (wants_plain rfl) rfl (still_as rfl ot) ?_
      refine OD.wk (Wk.as_ (n := 73) (l' := [(2, _)]) (S' := [⟨b5, 40, 5, [_, _, _, _, _]⟩]) rfl rfl ⟨lk, trivial⟩) ?_
      refine OD.nil ?_
      refine CD.ret ?_
      refine ⟨.inr rfl, _, [], List.nil_sublist _, ret_one Tryd.results40 (res_tmp (Nat.le_of_ble_eq_true rfl) lk), ?_⟩
      refine ⟨vi ?_, rfl⟩
      first | exact hf.symm | (rw [hf, hx, exprL_no hlt herr (by first | assumption | decide)]; done) | (rw [hf, hend, if_pos (by simpa using hc8)]; done) | (rw [hf, hend, if_neg (by simpa using hc8)]; done)
     ·have hc3' := hc3
      (try simp only [V.cnd, ne_eq] at hc3')
      have hlit : litF l[i].v = 0 := by simpa using hc3
      refine CD.skip ?_
      refine CD.seq ?_
      refine CD.seq ?_
      refine CD.region ?_
      refine OD.still (wants_plain rfl) rfl (still_r1 (mk := fun y => Op.fieldAddr 40 y 0) rfl ot (by first | exact fa_ptr (off := 0) Tryd.runUnderlying40 rfl Tryd.sizeOf3 rfl | exact fa_iptr (off := 0) Tryd.runUnderlying40 rfl Tryd.sizeOf3 rfl)) ?_
      refine OD.still (wants_plain rfl) rfl (still_r1 (mk := Op.load 3) rfl ot (by first | exact ld_blk (k := 0) rfl rfl Tryd.isAgg3 rfl | exact ld_fm cO_len Tryd.isAgg3 (by first | assumption | omega) rfl | exact ld_fm0 cO_len Tryd.isAgg3 (by first | assumption | omega) rfl | exact ld_row (k := 0) cO_len rfl rfl rfl Tryd.isAgg3 (by first | assumption | omega) rfl | exact ld_row0 (k := 0) cO_len rfl rfl rfl Tryd.isAgg3 (by first | assumption | omega) rfl | exact ld_i Tryd.isAgg3 rfl)) ?_
      refine OD.still (wants_plain rfl) rfl (still_bin rfl ot opd_const bin_neq) ?_
      refine OD.still (wants_plain rfl) rfl (still_mv rfl ot) ?_
      refine OD.split (t := 34) lk (fun hg34 => ?_) (fun hg34 => ?_)
      ·have hg34' := hg34; (try simp only [V.cnd, ne_eq] at hg34')
       refine OD.still (wants_T rfl rfl rfl lk (by first | rfl | assumption)) rfl (still_r1 (mk := fun y => Op.fieldAddr 40 y 1) rfl ot (by first | exact fa_ptr (off := 1) Tryd.runUnderlying40 rfl Tryd.sizeOf33 rfl | exact fa_iptr (off := 1) Tryd.runUnderlying40 rfl Tryd.sizeOf33 rfl)) ?_
       refine OD.still (wants_T rfl rfl rfl lk (by first | rfl | assumption)) rfl (still_r1 (mk := Op.load 33) rfl ot (by first | exact ld_blks (k := 0) (ds := [_, _, _]) rfl rfl Tryd.isAgg33 Tryd.sizeOf33 rfl rfl | exact ld_fms cO_len Tryd.isAgg33 Tryd.sizeOf33 (by first | assumption | omega) | exact ld_rows (k := 0) cO_len rfl rfl rfl Tryd.isAgg33 Tryd.sizeOf33 (by first | assumption | omega) | exact ld_is (ds := [_, _, _]) Tryd.isAgg33 Tryd.sizeOf33 rfl rfl)) ?_
       refine OD.still (wants_T rfl rfl rfl lk (by first | rfl | assumption)) rfl (still_bld (pl := []) (ds := [_, _, _]) rfl Tryd.zeroValue33 Tryd.runUnderlying33 places33_Nm3 trivial rfl rfl) ?_
       refine OD.still (wants_T rfl rfl rfl lk (by first | rfl | assumption)) rfl (still_neS (us := [_, _, _]) (us' := [_, _, _]) rfl ot ot Tryd.eqGuardType33 (eqs33 l[i].v ⟨0, 0, ⟨#[]⟩⟩)) ?_
       refine OD.still (wants_plain rfl) rfl (still_pickT rfl ot (by first | rfl | assumption) ot) ?_
       refine OD.still (wants_plain rfl) rfl (still_mv rfl ot) ?_
       refine OD.split (t := 40) lk (fun hg40 => ?_) (fun hg40 => ?_)
       ·have hg40' := hg40; (try simp only [V.cnd, ne_eq] at hg40')
        refine OD.skip (wants_F rfl rfl rfl lk (by first | rfl | assumption)) rfl ?_
        refine OD.skip (wants_F rfl rfl rfl lk (by first | rfl | assumption)) rfl ?_
        refine OD.skip (wants_F rfl rfl rfl lk (by first | rfl | assumption)) rfl ?_
        refine OD.skip (wants_F rfl rfl rfl lk (by first | rfl | assumption)) rfl ?_
        refine OD.skip (wants_J (b := false) rfl rfl rfl lk) rfl ?_
        refine OD.skip (wants_J (b := false) rfl rfl rfl lk) rfl ?_
        refine OD.skip (wants_J (b := false) rfl rfl rfl lk) rfl ?_
        refine OD.skip (wants_F rfl rfl rfl lk (by first | rfl | assumption)) rfl ?_
        refine OD.still (wants_plain rfl) rfl (still_pickT rfl ot (by first | rfl | assumption) opd_const) ?_
        refine OD.wk (Wk.as_ (n := 73) (l' := [(3, _), (5, _), (11, _), (12, _), (13, _), (49, _)]) (S' := [⟨b5, 40, 5, [_, _, _, _, _]⟩]) rfl rfl ⟨lk, lk, lk, lk, lk, lk, trivial⟩) ?_
        refine OD.nil ?_
        refine CD.condT ot (by first | rfl | assumption) ?_
        have herr : opErr h l[i] = 6 := by unfold opErr zeroV; rw [if_neg hk1, if_neg (by rw [hlit]; simp), if_pos (by simp_all)]
        refine CD.seq ?_
        refine CD.region ?_
        refine OD.still (wants_plain rfl) rfl (still_as rfl opd_const) ?_
        refine OD.wk (Wk.as_ (n := 73) (l' := [(2, _)]) (S' := [⟨b5, 40, 5, [_, _, _, _, _]⟩]) rfl rfl ⟨lk, trivial⟩) ?_
        refine OD.nil ?_
        refine CD.ret ?_
        refine ⟨.inr rfl, _, [], List.nil_sublist _, ret_one Tryd.results40 (res_tmp (Nat.le_of_ble_eq_true rfl) lk), ?_⟩
        refine ⟨vi ?_, rfl⟩
        first | exact hf.symm | (rw [hf, hx, exprL_no hlt herr (by first | assumption | decide)]; done) | (rw [hf, hend, if_pos (by simpa using hc8)]; done) | (rw [hf, hend, if_neg (by simpa using hc8)]; done)
       ·have hg40' := hg40; (try simp only [V.cnd, ne_eq] at hg40')
        refine OD.still (wants_T rfl rfl rfl lk (by first | rfl | assumption)) rfl (still_r1 (mk := fun y => Op.fieldAddr 40 y 0) rfl ot (by first | exact fa_ptr (off := 0) Tryd.runUnderlying40 rfl Tryd.sizeOf3 rfl | exact fa_iptr (off := 0) Tryd.runUnderlying40 rfl Tryd.sizeOf3 rfl)) ?_
        refine OD.still (wants_T rfl rfl rfl lk (by first | rfl | assumption)) rfl (still_r1 (mk := Op.load 3) rfl ot (by first | exact ld_blk (k := 0) rfl rfl Tryd.isAgg3 rfl | exact ld_fm cO_len Tryd.isAgg3 (by first | assumption | omega) rfl | exact ld_fm0 cO_len Tryd.isAgg3 (by first | assumption | omega) rfl | exact ld_row (k := 0) cO_len rfl rfl rfl Tryd.isAgg3 (by first | assumption | omega) rfl | exact ld_row0 (k := 0) cO_len rfl rfl rfl Tryd.isAgg3 (by first | assumption | omega) rfl | exact ld_i Tryd.isAgg3 rfl)) ?_
        refine OD.still (wants_T rfl rfl rfl lk (by first | rfl | assumption)) rfl (still_bin rfl ot opd_const bin_neq) ?_
        refine OD.still (wants_T rfl rfl rfl lk (by first | rfl | assumption)) rfl (still_mv rfl ot) ?_
        refine OD.split (t := 44) lk (fun hg44 => ?_) (fun hg44 => ?_)
        ·have hg44' := hg44; (try simp only [V.cnd, ne_eq] at hg44')
         refine OD.still (wants_T rfl rfl rfl lk (by first | rfl | assumption)) rfl (still_r1 (mk := fun y => Op.fieldAddr 40 y 2) rfl ot (by first | exact fa_ptr (off := 4) Tryd.runUnderlying40 rfl Tryd.sizeOf9 rfl | exact fa_iptr (off := 4) Tryd.runUnderlying40 rfl Tryd.sizeOf9 rfl)) ?_
         refine OD.still (wants_T rfl rfl rfl lk (by first | rfl | assumption)) rfl (still_r1 (mk := Op.load 9) rfl ot (by first | exact ld_blk (k := 0) rfl rfl Tryd.isAgg9 rfl | exact ld_fm cO_len Tryd.isAgg9 (by first | assumption | omega) rfl | exact ld_fm0 cO_len Tryd.isAgg9 (by first | assumption | omega) rfl | exact ld_row (k := 0) cO_len rfl rfl rfl Tryd.isAgg9 (by first | assumption | omega) rfl | exact ld_row0 (k := 0) cO_len rfl rfl rfl Tryd.isAgg9 (by first | assumption | omega) rfl | exact ld_i Tryd.isAgg9 rfl)) ?_
         refine OD.still (wants_T rfl rfl rfl lk (by first | rfl | assumption)) rfl (still_bin rfl ot opd_const bin_sneq) ?_
         refine OD.still (wants_T rfl rfl rfl lk (by first | rfl | assumption)) rfl (still_pickT rfl ot (by first | rfl | assumption) ot) ?_
         refine OD.still (wants_plain rfl) rfl (still_pickF rfl ot (by first | rfl | assumption) ot) ?_
         refine OD.wk (Wk.as_ (n := 73) (l' := [(3, _), (5, _), (11, _), (12, _), (13, _), (49, _)]) (S' := [⟨b5, 40, 5, [_, _, _, _, _]⟩]) rfl rfl ⟨lk, lk, lk, lk, lk, lk, trivial⟩) ?_
         refine OD.nil ?_
         refine CD.cond ot (fun hc4 => ?_) (fun hc4 => ?_)
         ·have hc4' := hc4
          (try simp only [V.cnd, ne_eq] at hc4')
          have herr : opErr h l[i] = 6 := by unfold opErr zeroV; rw [if_neg hk1, if_neg (by rw [hlit]; simp), if_pos (by simp_all)]
          refine CD.seq ?_
          refine CD.region ?_
          refine OD.still (wants_plain rfl) rfl (still_as rfl opd_const) ?_
          refine OD.wk (Wk.as_ (n := 73) (l' := [(2, _)]) (S' := [⟨b5, 40, 5, [_, _, _, _, _]⟩]) rfl rfl ⟨lk, trivial⟩) ?_
          refine OD.nil ?_
          refine CD.ret ?_
          refine ⟨.inr rfl, _, [], List.nil_sublist _, ret_one Tryd.results40 (res_tmp (Nat.le_of_ble_eq_true rfl) lk), ?_⟩
          refine ⟨vi ?_, rfl⟩
          first | exact hf.symm | (rw [hf, hx, exprL_no hlt herr (by first | assumption | decide)]; done) | (rw [hf, hend, if_pos (by simpa using hc8)]; done) | (rw [hf, hend, if_neg (by simpa using hc8)]; done)
         ·have hc4' := hc4
          (try simp only [V.cnd, ne_eq] at hc4')
          have hform : ¬ ((l[i].k != 1 && !(zeroV l[i].v)) || (l[i].k != 2 && !(l[i].nm.toList == (⟨#[]⟩ : ByteArray).toList))) = true := by unfold zeroV; simp_all
          refine CD.skip ?_
          refine CD.seq ?_
          refine CD.seq ?_
          refine CD.region ?_
          refine OD.still (wants_plain rfl) rfl (still_r1 (mk := fun y => Op.fieldAddr 40 y 0) rfl ot (by first | exact fa_ptr (off := 0) Tryd.runUnderlying40 rfl Tryd.sizeOf3 rfl | exact fa_iptr (off := 0) Tryd.runUnderlying40 rfl Tryd.sizeOf3 rfl)) ?_
          refine OD.still (wants_plain rfl) rfl (still_r1 (mk := Op.load 3) rfl ot (by first | exact ld_blk (k := 0) rfl rfl Tryd.isAgg3 rfl | exact ld_fm cO_len Tryd.isAgg3 (by first | assumption | omega) rfl | exact ld_fm0 cO_len Tryd.isAgg3 (by first | assumption | omega) rfl | exact ld_row (k := 0) cO_len rfl rfl rfl Tryd.isAgg3 (by first | assumption | omega) rfl | exact ld_row0 (k := 0) cO_len rfl rfl rfl Tryd.isAgg3 (by first | assumption | omega) rfl | exact ld_i Tryd.isAgg3 rfl)) ?_
          refine OD.still (wants_plain rfl) rfl (still_bin rfl ot opd_const bin_eql) ?_
          refine OD.wk (Wk.as_ (n := 73) (l' := [(3, _), (5, _), (11, _), (12, _), (13, _), (52, _)]) (S' := [⟨b5, 40, 5, [_, _, _, _, _]⟩]) rfl rfl ⟨lk, lk, lk, lk, lk, lk, trivial⟩) ?_
          refine OD.nil ?_
          refine CD.cond ot (fun hc5 => ?_) (fun hc5 => ?_)
          ·have hc5' := hc5
           (try simp only [V.cnd, ne_eq] at hc5')
           refine CD.seq ?_
           refine CD.region ?_
           refine OD.still (wants_plain rfl) rfl (still_r1 (mk := fun y => Op.fieldAddr 40 y 2) rfl ot (by first | exact fa_ptr (off := 4) Tryd.runUnderlying40 rfl Tryd.sizeOf9 rfl | exact fa_iptr (off := 4) Tryd.runUnderlying40 rfl Tryd.sizeOf9 rfl)) ?_
           refine OD.still (wants_plain rfl) rfl (still_r1 (mk := Op.load 9) rfl ot (by first | exact ld_blk (k := 0) rfl rfl Tryd.isAgg9 rfl | exact ld_fm cO_len Tryd.isAgg9 (by first | assumption | omega) rfl | exact ld_fm0 cO_len Tryd.isAgg9 (by first | assumption | omega) rfl | exact ld_row (k := 0) cO_len rfl rfl rfl Tryd.isAgg9 (by first | assumption | omega) rfl | exact ld_row0 (k := 0) cO_len rfl rfl rfl Tryd.isAgg9 (by first | assumption | omega) rfl | exact ld_i Tryd.isAgg9 rfl)) ?_
           refine OD.callP (wants_plain rfl) rfl rfl rfl Tryd.call60 (name_vp hm hw l[i].nm (hs _ (List.getElem_mem hlt))) ⟨ot, trivial⟩ ?_
           refine OD.still (wants_plain rfl) rfl (still_as rfl ot) ?_
           refine OD.wk (Wk.as_ (n := 73) (l' := [(3, _), (5, _), (7, _), (11, _), (12, _), (13, _)]) (S' := [⟨b5, 40, 5, [_, _, _, _, _]⟩]) rfl rfl ⟨lk, lk, lk, lk, lk, lk, trivial⟩) ?_
           refine OD.nil ?_
           refine CD.seq ?_
           refine CD.region ?_
           refine OD.still (wants_plain rfl) rfl (still_mv rfl ot) ?_
           refine OD.still (wants_plain rfl) rfl (still_bin rfl ot opd_const bin_neq) ?_
           refine OD.wk (Wk.as_ (n := 73) (l' := [(3, _), (5, _), (7, _), (11, _), (12, _), (13, _), (57, _)]) (S' := [⟨b5, 40, 5, [_, _, _, _, _]⟩]) rfl rfl ⟨lk, lk, lk, lk, lk, lk, lk, trivial⟩) ?_
           refine OD.nil ?_
           refine CD.cond ot (fun hc6 => ?_) (fun hc6 => ?_)
           ·have hc6' := hc6
            (try simp only [V.cnd, ne_eq] at hc6')
            have hnm : nameF l[i].nm ≠ 0 := by simpa using hc6
            have herr : opErr h l[i] = nameF l[i].nm := by unfold opErr; rw [if_neg hk1, if_neg (by rw [hlit]; simp), if_neg hform, if_pos ⟨by simpa using hc5, hnm⟩]
            refine CD.seq ?_
            refine CD.region ?_
            refine OD.still (wants_plain rfl) rfl (still_mv rfl ot) ?_
            refine OD.still (wants_plain rfl) rfl (still_as rfl ot) ?_
            refine OD.wk (Wk.as_ (n := 73) (l' := [(2, _)]) (S' := [⟨b5, 40, 5, [_, _, _, _, _]⟩]) rfl rfl ⟨lk, trivial⟩) ?_
            refine OD.nil ?_
            refine CD.ret ?_
            refine ⟨.inr rfl, _, [], List.nil_sublist _, ret_one Tryd.results40 (res_tmp (Nat.le_of_ble_eq_true rfl) lk), ?_⟩
            refine ⟨vi ?_, rfl⟩
            first | exact hf.symm | (rw [hf, hx, exprL_no hlt herr (by first | assumption | decide)]; done) | (rw [hf, hend, if_pos (by simpa using hc8)]; done) | (rw [hf, hend, if_neg (by simpa using hc8)]; done)
           ·have hc6' := hc6
            (try simp only [V.cnd, ne_eq] at hc6')
            have hnn : ¬ (l[i].k = 2 ∧ nameF l[i].nm ≠ 0) := by simp at hc6; simp [hc6]
            refine CD.skip ?_
            refine CD.seq ?_
            refine CD.seq ?_
            refine CD.region ?_
            refine OD.still (wants_plain rfl) rfl (still_mv rfl ot) ?_
            refine OD.still (wants_plain rfl) rfl (still_r1 (mk := fun y => Op.fieldAddr 40 y 0) rfl ot (by first | exact fa_ptr (off := 0) Tryd.runUnderlying40 rfl Tryd.sizeOf3 rfl | exact fa_iptr (off := 0) Tryd.runUnderlying40 rfl Tryd.sizeOf3 rfl)) ?_
            refine OD.still (wants_plain rfl) rfl (still_r1 (mk := Op.load 3) rfl ot (by first | exact ld_blk (k := 0) rfl rfl Tryd.isAgg3 rfl | exact ld_fm cO_len Tryd.isAgg3 (by first | assumption | omega) rfl | exact ld_fm0 cO_len Tryd.isAgg3 (by first | assumption | omega) rfl | exact ld_row (k := 0) cO_len rfl rfl rfl Tryd.isAgg3 (by first | assumption | omega) rfl | exact ld_row0 (k := 0) cO_len rfl rfl rfl Tryd.isAgg3 (by first | assumption | omega) rfl | exact ld_i Tryd.isAgg3 rfl)) ?_
            refine OD.callP (wants_plain rfl) rfl rfl rfl Tryd.call61 (pops_vp l[i].k) ⟨ot, trivial⟩ ?_
            refine OD.still (wants_plain rfl) rfl (still_bin rfl ot ot bin_lss) ?_
            refine OD.wk (Wk.as_ (n := 73) (l' := [(3, _), (5, _), (11, _), (12, _), (13, _), (63, _)]) (S' := [⟨b5, 40, 5, [_, _, _, _, _]⟩]) rfl rfl ⟨lk, lk, lk, lk, lk, lk, trivial⟩) ?_
            refine OD.nil ?_
            refine CD.cond ot (fun hc7 => ?_) (fun hc7 => ?_)
            ·have hc7' := hc7
             (try simp only [V.cnd, ne_eq] at hc7')
             have hsh : h < popsF l[i].k := by simpa using hc7
             have herr : opErr h l[i] = 7 := by unfold opErr; rw [if_neg hk1, if_neg (by rw [hlit]; simp), if_neg hform, if_neg hnn, if_pos hsh]
             refine CD.seq ?_
             refine CD.region ?_
             refine OD.still (wants_plain rfl) rfl (still_as rfl opd_const) ?_
             refine OD.wk (Wk.as_ (n := 73) (l' := [(2, _)]) (S' := [⟨b5, 40, 5, [_, _, _, _, _]⟩]) rfl rfl ⟨lk, trivial⟩) ?_
             refine OD.nil ?_
             refine CD.ret ?_
             refine ⟨.inr rfl, _, [], List.nil_sublist _, ret_one Tryd.results40 (res_tmp (Nat.le_of_ble_eq_true rfl) lk), ?_⟩
             refine ⟨vi ?_, rfl⟩
             first | exact hf.symm | (rw [hf, hx, exprL_no hlt herr (by first | assumption | decide)]; done) | (rw [hf, hend, if_pos (by simpa using hc8)]; done) | (rw [hf, hend, if_neg (by simpa using hc8)]; done)
            ·have hc7' := hc7
             (try simp only [V.cnd, ne_eq] at hc7')
             have hsh : ¬ h < popsF l[i].k := by simpa using hc7
             have hok : opErr h l[i] = 0 := by unfold opErr; rw [if_neg hk1, if_neg (by rw [hlit]; simp), if_neg hform, if_neg hnn, if_neg hsh]
             refine CD.skip ?_
             refine CD.region ?_
             refine OD.still (wants_plain rfl) rfl (still_mv rfl ot) ?_
             refine OD.still (wants_plain rfl) rfl (still_r1 (mk := fun y => Op.fieldAddr 40 y 0) rfl ot (by first | exact fa_ptr (off := 0) Tryd.runUnderlying40 rfl Tryd.sizeOf3 rfl | exact fa_iptr (off := 0) Tryd.runUnderlying40 rfl Tryd.sizeOf3 rfl)) ?_
             refine OD.still (wants_plain rfl) rfl (still_r1 (mk := Op.load 3) rfl ot (by first | exact ld_blk (k := 0) rfl rfl Tryd.isAgg3 rfl | exact ld_fm cO_len Tryd.isAgg3 (by first | assumption | omega) rfl | exact ld_fm0 cO_len Tryd.isAgg3 (by first | assumption | omega) rfl | exact ld_row (k := 0) cO_len rfl rfl rfl Tryd.isAgg3 (by first | assumption | omega) rfl | exact ld_row0 (k := 0) cO_len rfl rfl rfl Tryd.isAgg3 (by first | assumption | omega) rfl | exact ld_i Tryd.isAgg3 rfl)) ?_
             refine OD.callP (wants_plain rfl) rfl rfl rfl Tryd.call61 (pops_vp l[i].k) ⟨ot, trivial⟩ ?_
             refine OD.still (wants_plain rfl) rfl (still_bin rfl opd_const ot (bin_sub (wrap_i64 (by omega) (by omega)))) ?_
             refine OD.still (wants_plain rfl) rfl (still_bin rfl ot ot (bin_add (wrap_i64 (by omega) (by omega)))) ?_
             refine OD.still (wants_plain rfl) rfl (still_as rfl ot) ?_
             refine OD.wk (Wk.as_ (n := 73) (l' := [(3, _), (11, _), (12, _), (13, _)]) (S' := [⟨b5, 40, 5, [_, _, _, _, _]⟩]) rfl rfl ⟨lk, lk, lk, lk, trivial⟩) ?_
             refine OD.nil ?_
             refine CD.region ?_
             refine OD.still (wants_plain rfl) rfl (still_bin rfl ot opd_const (bin_add (wrap_i64 (by omega) (by omega)))) ?_
             refine OD.still (wants_plain rfl) rfl (still_mv rfl ot) ?_
             refine OD.wk (Wk.as_ (n := 73) (l' := [(3, _), (11, _), (12, _), (13, _)]) (S' := [⟨b5, 40, 5, [_, _, _, _, _]⟩]) rfl rfl ⟨lk, lk, lk, lk, trivial⟩) ?_
             refine OD.nil ?_
             refine ⟨((i + 1), (h + (1 - popsF l[i].k))), ⟨73, [(3, .v (.int .i64 ((h + (1 - popsF l[i].k))))), (11, .list 5 (l.flatMap cO) l.length), (12, .v (.int .i64 l.length)), (13, .v (.int .i64 (((i + 1)) : Nat)))], []⟩, ?_, Wk.asS (n := 73) rfl (by repeat (first | exact List.Sublist.refl _ | apply List.Sublist.cons)) ⟨(by (repeat (first | exact look_hit | (apply look_at; focus (first | rfl | (simp; done) | (congr 2; omega))) | (apply look_miss; focus rfl))); done), (by (repeat (first | exact look_hit | (apply look_at; focus (first | rfl | (simp; done) | (congr 2; omega))) | (apply look_miss; focus rfl))); done), (by (repeat (first | exact look_hit | (apply look_at; focus (first | rfl | (simp; done) | (congr 2; omega))) | (apply look_miss; focus rfl))); done), (by (repeat (first | exact look_hit | (apply look_at; focus (first | rfl | (simp; done) | (congr 2; omega))) | (apply look_miss; focus rfl))); done), trivial⟩, (by omega), (by rw [hx]; exact exprL_ok hlt hok), (by omega), (by have := pops_bd l[i].k; omega), rfl⟩
             first | omega | (simp only []; omega)
          ·have hc5' := hc5
           (try simp only [V.cnd, ne_eq] at hc5')
           have hnn : ¬ (l[i].k = 2 ∧ nameF l[i].nm ≠ 0) := by simp at hc5; simp [hc5]
           refine CD.skip ?_
           refine CD.seq ?_
           refine CD.seq ?_
           refine CD.region ?_
           refine OD.still (wants_plain rfl) rfl (still_mv rfl ot) ?_
           refine OD.still (wants_plain rfl) rfl (still_r1 (mk := fun y => Op.fieldAddr 40 y 0) rfl ot (by first | exact fa_ptr (off := 0) Tryd.runUnderlying40 rfl Tryd.sizeOf3 rfl | exact fa_iptr (off := 0) Tryd.runUnderlying40 rfl Tryd.sizeOf3 rfl)) ?_
           refine OD.still (wants_plain rfl) rfl (still_r1 (mk := Op.load 3) rfl ot (by first | exact ld_blk (k := 0) rfl rfl Tryd.isAgg3 rfl | exact ld_fm cO_len Tryd.isAgg3 (by first | assumption | omega) rfl | exact ld_fm0 cO_len Tryd.isAgg3 (by first | assumption | omega) rfl | exact ld_row (k := 0) cO_len rfl rfl rfl Tryd.isAgg3 (by first | assumption | omega) rfl | exact ld_row0 (k := 0) cO_len rfl rfl rfl Tryd.isAgg3 (by first | assumption | omega) rfl | exact ld_i Tryd.isAgg3 rfl)) ?_
           refine OD.callP (wants_plain rfl) rfl rfl rfl Tryd.call61 (pops_vp l[i].k) ⟨ot, trivial⟩ ?_
           refine OD.still (wants_plain rfl) rfl (still_bin rfl ot ot bin_lss) ?_
           refine OD.wk (Wk.as_ (n := 73) (l' := [(3, _), (5, _), (11, _), (12, _), (13, _), (63, _)]) (S' := [⟨b5, 40, 5, [_, _, _, _, _]⟩]) rfl rfl ⟨lk, lk, lk, lk, lk, lk, trivial⟩) ?_
           refine OD.nil ?_
           refine CD.cond ot (fun hc7 => ?_) (fun hc7 => ?_)
           ·have hc7' := hc7
            (try simp only [V.cnd, ne_eq] at hc7')
            have hsh : h < popsF l[i].k := by simpa using hc7
            have herr : opErr h l[i] = 7 := by unfold opErr; rw [if_neg hk1, if_neg (by rw [hlit]; simp), if_neg hform, if_neg hnn, if_pos hsh]
            refine CD.seq ?_
            refine CD.region ?_
            refine OD.still (wants_plain rfl) rfl (still_as rfl opd_const) ?_
            refine OD.wk (Wk.as_ (n := 73) (l' := [(2, _)]) (S' := [⟨b5, 40, 5, [_, _, _, _, _]⟩]) rfl rfl ⟨lk, trivial⟩) ?_
            refine OD.nil ?_
            refine CD.ret ?_
            refine ⟨.inr rfl, _, [], List.nil_sublist _, ret_one Tryd.results40 (res_tmp (Nat.le_of_ble_eq_true rfl) lk), ?_⟩
            refine ⟨vi ?_, rfl⟩
            first | exact hf.symm | (rw [hf, hx, exprL_no hlt herr (by first | assumption | decide)]; done) | (rw [hf, hend, if_pos (by simpa using hc8)]; done) | (rw [hf, hend, if_neg (by simpa using hc8)]; done)
           ·have hc7' := hc7
            (try simp only [V.cnd, ne_eq] at hc7')
            have hsh : ¬ h < popsF l[i].k := by simpa using hc7
            have hok : opErr h l[i] = 0 := by unfold opErr; rw [if_neg hk1, if_neg (by rw [hlit]; simp), if_neg hform, if_neg hnn, if_neg hsh]
            refine CD.skip ?_
            refine CD.region ?_
            refine OD.still (wants_plain rfl) rfl (still_mv rfl ot) ?_
            refine OD.still (wants_plain rfl) rfl (still_r1 (mk := fun y => Op.fieldAddr 40 y 0) rfl ot (by first | exact fa_ptr (off := 0) Tryd.runUnderlying40 rfl Tryd.sizeOf3 rfl | exact fa_iptr (off := 0) Tryd.runUnderlying40 rfl Tryd.sizeOf3 rfl)) ?_
            refine OD.still (wants_plain rfl) rfl (still_r1 (mk := Op.load 3) rfl ot (by first | exact ld_blk (k := 0) rfl rfl Tryd.isAgg3 rfl | exact ld_fm cO_len Tryd.isAgg3 (by first | assumption | omega) rfl | exact ld_fm0 cO_len Tryd.isAgg3 (by first | assumption | omega) rfl | exact ld_row (k := 0) cO_len rfl rfl rfl Tryd.isAgg3 (by first | assumption | omega) rfl | exact ld_row0 (k := 0) cO_len rfl rfl rfl Tryd.isAgg3 (by first | assumption | omega) rfl | exact ld_i Tryd.isAgg3 rfl)) ?_
            refine OD.callP (wants_plain rfl) rfl rfl rfl Tryd.call61 (pops_vp l[i].k) ⟨ot, trivial⟩ ?_
            refine OD.still (wants_plain rfl) rfl (still_bin rfl opd_const ot (bin_sub (wrap_i64 (by omega) (by omega)))) ?_
            refine OD.still (wants_plain rfl) rfl (still_bin rfl ot ot (bin_add (wrap_i64 (by omega) (by omega)))) ?_
            refine OD.still (wants_plain rfl) rfl (still_as rfl ot) ?_
            refine OD.wk (Wk.as_ (n := 73) (l' := [(3, _), (11, _), (12, _), (13, _)]) (S' := [⟨b5, 40, 5, [_, _, _, _, _]⟩]) rfl rfl ⟨lk, lk, lk, lk, trivial⟩) ?_
            refine OD.nil ?_
            refine CD.region ?_
            refine OD.still (wants_plain rfl) rfl (still_bin rfl ot opd_const (bin_add (wrap_i64 (by omega) (by omega)))) ?_
            refine OD.still (wants_plain rfl) rfl (still_mv rfl ot) ?_
            refine OD.wk (Wk.as_ (n := 73) (l' := [(3, _), (11, _), (12, _), (13, _)]) (S' := [⟨b5, 40, 5, [_, _, _, _, _]⟩]) rfl rfl ⟨lk, lk, lk, lk, trivial⟩) ?_
            refine OD.nil ?_
            refine ⟨((i + 1), (h + (1 - popsF l[i].k))), ⟨73, [(3, .v (.int .i64 ((h + (1 - popsF l[i].k))))), (11, .list 5 (l.flatMap cO) l.length), (12, .v (.int .i64 l.length)), (13, .v (.int .i64 (((i + 1)) : Nat)))], []⟩, ?_, Wk.asS (n := 73) rfl (by repeat (first | exact List.Sublist.refl _ | apply List.Sublist.cons)) ⟨(by (repeat (first | exact look_hit | (apply look_at; focus (first | rfl | (simp; done) | (congr 2; omega))) | (apply look_miss; focus rfl))); done), (by (repeat (first | exact look_hit | (apply look_at; focus (first | rfl | (simp; done) | (congr 2; omega))) | (apply look_miss; focus rfl))); done), (by (repeat (first | exact look_hit | (apply look_at; focus (first | rfl | (simp; done) | (congr 2; omega))) | (apply look_miss; focus rfl))); done), (by (repeat (first | exact look_hit | (apply look_at; focus (first | rfl | (simp; done) | (congr 2; omega))) | (apply look_miss; focus rfl))); done), trivial⟩, (by omega), (by rw [hx]; exact exprL_ok hlt hok), (by omega), (by have := pops_bd l[i].k; omega), rfl⟩
            first | omega | (simp only []; omega)
        ·have hg44' := hg44; (try simp only [V.cnd, ne_eq] at hg44')
         refine OD.skip (wants_F rfl rfl rfl lk (by first | rfl | assumption)) rfl ?_
         refine OD.skip (wants_F rfl rfl rfl lk (by first | rfl | assumption)) rfl ?_
         refine OD.skip (wants_F rfl rfl rfl lk (by first | rfl | assumption)) rfl ?_
         refine OD.still (wants_T rfl rfl rfl lk (by first | rfl | assumption)) rfl (still_pickF rfl ot (by first | rfl | assumption) opd_const) ?_
         refine OD.still (wants_plain rfl) rfl (still_pickF rfl ot (by first | rfl | assumption) ot) ?_
         refine OD.wk (Wk.as_ (n := 73) (l' := [(3, _), (5, _), (11, _), (12, _), (13, _), (49, _)]) (S' := [⟨b5, 40, 5, [_, _, _, _, _]⟩]) rfl rfl ⟨lk, lk, lk, lk, lk, lk, trivial⟩) ?_
         refine OD.nil ?_
         refine CD.condF ot (by first | rfl | assumption) ?_
         have hform : ¬ ((l[i].k != 1 && !(zeroV l[i].v)) || (l[i].k != 2 && !(l[i].nm.toList == (⟨#[]⟩ : ByteArray).toList))) = true := by unfold zeroV; simp_all
         refine CD.skip ?_
         refine CD.seq ?_
         refine CD.seq ?_
         refine CD.region ?_
         refine OD.still (wants_plain rfl) rfl (still_r1 (mk := fun y => Op.fieldAddr 40 y 0) rfl ot (by first | exact fa_ptr (off := 0) Tryd.runUnderlying40 rfl Tryd.sizeOf3 rfl | exact fa_iptr (off := 0) Tryd.runUnderlying40 rfl Tryd.sizeOf3 rfl)) ?_
         refine OD.still (wants_plain rfl) rfl (still_r1 (mk := Op.load 3) rfl ot (by first | exact ld_blk (k := 0) rfl rfl Tryd.isAgg3 rfl | exact ld_fm cO_len Tryd.isAgg3 (by first | assumption | omega) rfl | exact ld_fm0 cO_len Tryd.isAgg3 (by first | assumption | omega) rfl | exact ld_row (k := 0) cO_len rfl rfl rfl Tryd.isAgg3 (by first | assumption | omega) rfl | exact ld_row0 (k := 0) cO_len rfl rfl rfl Tryd.isAgg3 (by first | assumption | omega) rfl | exact ld_i Tryd.isAgg3 rfl)) ?_
         refine OD.still (wants_plain rfl) rfl (still_bin rfl ot opd_const bin_eql) ?_
         refine OD.wk (Wk.as_ (n := 73) (l' := [(3, _), (5, _), (11, _), (12, _), (13, _), (52, _)]) (S' := [⟨b5, 40, 5, [_, _, _, _, _]⟩]) rfl rfl ⟨lk, lk, lk, lk, lk, lk, trivial⟩) ?_
         refine OD.nil ?_
         refine CD.cond ot (fun hc5 => ?_) (fun hc5 => ?_)
         ·have hc5' := hc5
          (try simp only [V.cnd, ne_eq] at hc5')
          refine CD.seq ?_
          refine CD.region ?_
          refine OD.still (wants_plain rfl) rfl (still_r1 (mk := fun y => Op.fieldAddr 40 y 2) rfl ot (by first | exact fa_ptr (off := 4) Tryd.runUnderlying40 rfl Tryd.sizeOf9 rfl | exact fa_iptr (off := 4) Tryd.runUnderlying40 rfl Tryd.sizeOf9 rfl)) ?_
          refine OD.still (wants_plain rfl) rfl (still_r1 (mk := Op.load 9) rfl ot (by first | exact ld_blk (k := 0) rfl rfl Tryd.isAgg9 rfl | exact ld_fm cO_len Tryd.isAgg9 (by first | assumption | omega) rfl | exact ld_fm0 cO_len Tryd.isAgg9 (by first | assumption | omega) rfl | exact ld_row (k := 0) cO_len rfl rfl rfl Tryd.isAgg9 (by first | assumption | omega) rfl | exact ld_row0 (k := 0) cO_len rfl rfl rfl Tryd.isAgg9 (by first | assumption | omega) rfl | exact ld_i Tryd.isAgg9 rfl)) ?_
          refine OD.callP (wants_plain rfl) rfl rfl rfl Tryd.call60 (name_vp hm hw l[i].nm (hs _ (List.getElem_mem hlt))) ⟨ot, trivial⟩ ?_
          refine OD.still (wants_plain rfl) rfl (still_as rfl ot) ?_
          refine OD.wk (Wk.as_ (n := 73) (l' := [(3, _), (5, _), (7, _), (11, _), (12, _), (13, _)]) (S' := [⟨b5, 40, 5, [_, _, _, _, _]⟩]) rfl rfl ⟨lk, lk, lk, lk, lk, lk, trivial⟩) ?_
          refine OD.nil ?_
          refine CD.seq ?_
          refine CD.region ?_
          refine OD.still (wants_plain rfl) rfl (still_mv rfl ot) ?_
          refine OD.still (wants_plain rfl) rfl (still_bin rfl ot opd_const bin_neq) ?_
          refine OD.wk (Wk.as_ (n := 73) (l' := [(3, _), (5, _), (7, _), (11, _), (12, _), (13, _), (57, _)]) (S' := [⟨b5, 40, 5, [_, _, _, _, _]⟩]) rfl rfl ⟨lk, lk, lk, lk, lk, lk, lk, trivial⟩) ?_
          refine OD.nil ?_
          refine CD.cond ot (fun hc6 => ?_) (fun hc6 => ?_)
          ·have hc6' := hc6
           (try simp only [V.cnd, ne_eq] at hc6')
           have hnm : nameF l[i].nm ≠ 0 := by simpa using hc6
           have herr : opErr h l[i] = nameF l[i].nm := by unfold opErr; rw [if_neg hk1, if_neg (by rw [hlit]; simp), if_neg hform, if_pos ⟨by simpa using hc5, hnm⟩]
           refine CD.seq ?_
           refine CD.region ?_
           refine OD.still (wants_plain rfl) rfl (still_mv rfl ot) ?_
           refine OD.still (wants_plain rfl) rfl (still_as rfl ot) ?_
           refine OD.wk (Wk.as_ (n := 73) (l' := [(2, _)]) (S' := [⟨b5, 40, 5, [_, _, _, _, _]⟩]) rfl rfl ⟨lk, trivial⟩) ?_
           refine OD.nil ?_
           refine CD.ret ?_
           refine ⟨.inr rfl, _, [], List.nil_sublist _, ret_one Tryd.results40 (res_tmp (Nat.le_of_ble_eq_true rfl) lk), ?_⟩
           refine ⟨vi ?_, rfl⟩
           first | exact hf.symm | (rw [hf, hx, exprL_no hlt herr (by first | assumption | decide)]; done) | (rw [hf, hend, if_pos (by simpa using hc8)]; done) | (rw [hf, hend, if_neg (by simpa using hc8)]; done)
          ·have hc6' := hc6
           (try simp only [V.cnd, ne_eq] at hc6')
           have hnn : ¬ (l[i].k = 2 ∧ nameF l[i].nm ≠ 0) := by simp at hc6; simp [hc6]
           refine CD.skip ?_
           refine CD.seq ?_
           refine CD.seq ?_
           refine CD.region ?_
           refine OD.still (wants_plain rfl) rfl (still_mv rfl ot) ?_
           refine OD.still (wants_plain rfl) rfl (still_r1 (mk := fun y => Op.fieldAddr 40 y 0) rfl ot (by first | exact fa_ptr (off := 0) Tryd.runUnderlying40 rfl Tryd.sizeOf3 rfl | exact fa_iptr (off := 0) Tryd.runUnderlying40 rfl Tryd.sizeOf3 rfl)) ?_
           refine OD.still (wants_plain rfl) rfl (still_r1 (mk := Op.load 3) rfl ot (by first | exact ld_blk (k := 0) rfl rfl Tryd.isAgg3 rfl | exact ld_fm cO_len Tryd.isAgg3 (by first | assumption | omega) rfl | exact ld_fm0 cO_len Tryd.isAgg3 (by first | assumption | omega) rfl | exact ld_row (k := 0) cO_len rfl rfl rfl Tryd.isAgg3 (by first | assumption | omega) rfl | exact ld_row0 (k := 0) cO_len rfl rfl rfl Tryd.isAgg3 (by first | assumption | omega) rfl | exact ld_i Tryd.isAgg3 rfl)) ?_
           refine OD.callP (wants_plain rfl) rfl rfl rfl Tryd.call61 (pops_vp l[i].k) ⟨ot, trivial⟩ ?_
           refine OD.still (wants_plain rfl) rfl (still_bin rfl ot ot bin_lss) ?_
           refine OD.wk (Wk.as_ (n := 73) (l' := [(3, _), (5, _), (11, _), (12, _), (13, _), (63, _)]) (S' := [⟨b5, 40, 5, [_, _, _, _, _]⟩]) rfl rfl ⟨lk, lk, lk, lk, lk, lk, trivial⟩) ?_
           refine OD.nil ?_
           refine CD.cond ot (fun hc7 => ?_) (fun hc7 => ?_)
           ·have hc7' := hc7
            (try simp only [V.cnd, ne_eq] at hc7')
            have hsh : h < popsF l[i].k := by simpa using hc7
            have herr : opErr h l[i] = 7 := by unfold opErr; rw [if_neg hk1, if_neg (by rw [hlit]; simp), if_neg hform, if_neg hnn, if_pos hsh]
            refine CD.seq ?_
            refine CD.region ?_
            refine OD.still (wants_plain rfl) rfl (still_as rfl opd_const) ?_
            refine OD.wk (Wk.as_ (n := 73) (l' := [(2, _)]) (S' := [⟨b5, 40, 5, [_, _, _, _, _]⟩]) rfl rfl ⟨lk, trivial⟩) ?_
            refine OD.nil ?_
            refine CD.ret ?_
            refine ⟨.inr rfl, _, [], List.nil_sublist _, ret_one Tryd.results40 (res_tmp (Nat.le_of_ble_eq_true rfl) lk), ?_⟩
            refine ⟨vi ?_, rfl⟩
            first | exact hf.symm | (rw [hf, hx, exprL_no hlt herr (by first | assumption | decide)]; done) | (rw [hf, hend, if_pos (by simpa using hc8)]; done) | (rw [hf, hend, if_neg (by simpa using hc8)]; done)
           ·have hc7' := hc7
            (try simp only [V.cnd, ne_eq] at hc7')
            have hsh : ¬ h < popsF l[i].k := by simpa using hc7
            have hok : opErr h l[i] = 0 := by unfold opErr; rw [if_neg hk1, if_neg (by rw [hlit]; simp), if_neg hform, if_neg hnn, if_neg hsh]
            refine CD.skip ?_
            refine CD.region ?_
            refine OD.still (wants_plain rfl) rfl (still_mv rfl ot) ?_
            refine OD.still (wants_plain rfl) rfl (still_r1 (mk := fun y => Op.fieldAddr 40 y 0) rfl ot (by first | exact fa_ptr (off := 0) Tryd.runUnderlying40 rfl Tryd.sizeOf3 rfl | exact fa_iptr (off := 0) Tryd.runUnderlying40 rfl Tryd.sizeOf3 rfl)) ?_
            refine OD.still (wants_plain rfl) rfl (still_r1 (mk := Op.load 3) rfl ot (by first | exact ld_blk (k := 0) rfl rfl Tryd.isAgg3 rfl | exact ld_fm cO_len Tryd.isAgg3 (by first | assumption | omega) rfl | exact ld_fm0 cO_len Tryd.isAgg3 (by first | assumption | omega) rfl | exact ld_row (k := 0) cO_len rfl rfl rfl Tryd.isAgg3 (by first | assumption | omega) rfl | exact ld_row0 (k := 0) cO_len rfl rfl rfl Tryd.isAgg3 (by first | assumption | omega) rfl | exact ld_i Tryd.isAgg3 rfl)) ?_
            refine OD.callP (wants_plain rfl) rfl rfl rfl Tryd.call61 (pops_vp l[i].k) ⟨ot, trivial⟩ ?_
            refine OD.still (wants_plain rfl) rfl (still_bin rfl opd_const ot (bin_sub (wrap_i64 (by omega) (by omega)))) ?_
            refine OD.still (wants_plain rfl) rfl (still_bin rfl ot ot (bin_add (wrap_i64 (by omega) (by omega)))) ?_
            refine OD.still (wants_plain rfl) rfl (still_as rfl ot) ?_
            refine OD.wk (Wk.as_ (n := 73) (l' := [(3, _), (11, _), (12, _), (13, _)]) (S' := [⟨b5, 40, 5, [_, _, _, _, _]⟩]) rfl rfl ⟨lk, lk, lk, lk, trivial⟩) ?_
            refine OD.nil ?_
            refine CD.region ?_
            refine OD.still (wants_plain rfl) rfl (still_bin rfl ot opd_const (bin_add (wrap_i64 (by omega) (by omega)))) ?_
            refine OD.still (wants_plain rfl) rfl (still_mv rfl ot) ?_
            refine OD.wk (Wk.as_ (n := 73) (l' := [(3, _), (11, _), (12, _), (13, _)]) (S' := [⟨b5, 40, 5, [_, _, _, _, _]⟩]) rfl rfl ⟨lk, lk, lk, lk, trivial⟩) ?_
            refine OD.nil ?_
            refine ⟨((i + 1), (h + (1 - popsF l[i].k))), ⟨73, [(3, .v (.int .i64 ((h + (1 - popsF l[i].k))))), (11, .list 5 (l.flatMap cO) l.length), (12, .v (.int .i64 l.length)), (13, .v (.int .i64 (((i + 1)) : Nat)))], []⟩, ?_, Wk.asS (n := 73) rfl (by repeat (first | exact List.Sublist.refl _ | apply List.Sublist.cons)) ⟨(by (repeat (first | exact look_hit | (apply look_at; focus (first | rfl | (simp; done) | (congr 2; omega))) | (apply look_miss; focus rfl))); done), (by (repeat (first | exact look_hit | (apply look_at; focus (first | rfl | (simp; done) | (congr 2; omega))) | (apply look_miss; focus rfl))); done), (by (repeat (first | exact look_hit | (apply look_at; focus (first | rfl | (simp; done) | (congr 2; omega))) | (apply look_miss; focus rfl))); done), (by (repeat (first | exact look_hit | (apply look_at; focus (first | rfl | (simp; done) | (congr 2; omega))) | (apply look_miss; focus rfl))); done), trivial⟩, (by omega), (by rw [hx]; exact exprL_ok hlt hok), (by omega), (by have := pops_bd l[i].k; omega), rfl⟩
            first | omega | (simp only []; omega)
         ·have hc5' := hc5
          (try simp only [V.cnd, ne_eq] at hc5')
          have hnn : ¬ (l[i].k = 2 ∧ nameF l[i].nm ≠ 0) := by simp at hc5; simp [hc5]
          refine CD.skip ?_
          refine CD.seq ?_
          refine CD.seq ?_
          refine CD.region ?_
          refine OD.still (wants_plain rfl) rfl (still_mv rfl ot) ?_
          refine OD.still (wants_plain rfl) rfl (still_r1 (mk := fun y => Op.fieldAddr 40 y 0) rfl ot (by first | exact fa_ptr (off := 0) Tryd.runUnderlying40 rfl Tryd.sizeOf3 rfl | exact fa_iptr (off := 0) Tryd.runUnderlying40 rfl Tryd.sizeOf3 rfl)) ?_
          refine OD.still (wants_plain rfl) rfl (still_r1 (mk := Op.load 3) rfl ot (by first | exact ld_blk (k := 0) rfl rfl Tryd.isAgg3 rfl | exact ld_fm cO_len Tryd.isAgg3 (by first | assumption | omega) rfl | exact ld_fm0 cO_len Tryd.isAgg3 (by first | assumption | omega) rfl | exact ld_row (k := 0) cO_len rfl rfl rfl Tryd.isAgg3 (by first | assumption | omega) rfl | exact ld_row0 (k := 0) cO_len rfl rfl rfl Tryd.isAgg3 (by first | assumption | omega) rfl | exact ld_i Tryd.isAgg3 rfl)) ?_
          refine OD.callP (wants_plain rfl) rfl rfl rfl Tryd.call61 (pops_vp l[i].k) ⟨ot, trivial⟩ ?_
          refine OD.still (wants_plain rfl) rfl (still_bin rfl ot ot bin_lss) ?_
          refine OD.wk (Wk.as_ (n := 73) (l' := [(3, _), (5, _), (11, _), (12, _), (13, _), (63, _)]) (S' := [⟨b5, 40, 5, [_, _, _, _, _]⟩]) rfl rfl ⟨lk, lk, lk, lk, lk, lk, trivial⟩) ?_
          refine OD.nil ?_
          refine CD.cond ot (fun hc7 => ?_) (fun hc7 => ?_)
          ·have hc7' := hc7
           (try simp only [V.cnd, ne_eq] at hc7')
           have hsh : h < popsF l[i].k := by simpa using hc7
           have herr : opErr h l[i] = 7 := by unfold opErr; rw [if_neg hk1, if_neg (by rw [hlit]; simp), if_neg hform, if_neg hnn, if_pos hsh]
           refine CD.seq ?_
           refine CD.region ?_
           refine OD.still (wants_plain rfl) rfl (still_as rfl opd_const) ?_
           refine OD.wk (Wk.as_ (n := 73) (l' := [(2, _)]) (S' := [⟨b5, 40, 5, [_, _, _, _, _]⟩]) rfl rfl ⟨lk, trivial⟩) ?_
           refine OD.nil ?_
           refine CD.ret ?_
           refine ⟨.inr rfl, _, [], List.nil_sublist _, ret_one Tryd.results40 (res_tmp (Nat.le_of_ble_eq_true rfl) lk), ?_⟩
           refine ⟨vi ?_, rfl⟩
           first | exact hf.symm | (rw [hf, hx, exprL_no hlt herr (by first | assumption | decide)]; done) | (rw [hf, hend, if_pos (by simpa using hc8)]; done) | (rw [hf, hend, if_neg (by simpa using hc8)]; done)
          ·have hc7' := hc7
           (try simp only [V.cnd, ne_eq] at hc7')
           have hsh : ¬ h < popsF l[i].k := by simpa using hc7
           have hok : opErr h l[i] = 0 := by unfold opErr; rw [if_neg hk1, if_neg (by rw [hlit]; simp), if_neg hform, if_neg hnn, if_neg hsh]
           refine CD.skip ?_
           refine CD.region ?_
           refine OD.still (wants_plain rfl) rfl (still_mv rfl ot) ?_
           refine OD.still (wants_plain rfl) rfl (still_r1 (mk := fun y => Op.fieldAddr 40 y 0) rfl ot (by first | exact fa_ptr (off := 0) Tryd.runUnderlying40 rfl Tryd.sizeOf3 rfl | exact fa_iptr (off := 0) Tryd.runUnderlying40 rfl Tryd.sizeOf3 rfl)) ?_
           refine OD.still (wants_plain rfl) rfl (still_r1 (mk := Op.load 3) rfl ot (by first | exact ld_blk (k := 0) rfl rfl Tryd.isAgg3 rfl | exact ld_fm cO_len Tryd.isAgg3 (by first | assumption | omega) rfl | exact ld_fm0 cO_len Tryd.isAgg3 (by first | assumption | omega) rfl | exact ld_row (k := 0) cO_len rfl rfl rfl Tryd.isAgg3 (by first | assumption | omega) rfl | exact ld_row0 (k := 0) cO_len rfl rfl rfl Tryd.isAgg3 (by first | assumption | omega) rfl | exact ld_i Tryd.isAgg3 rfl)) ?_
           refine OD.callP (wants_plain rfl) rfl rfl rfl Tryd.call61 (pops_vp l[i].k) ⟨ot, trivial⟩ ?_
           refine OD.still (wants_plain rfl) rfl (still_bin rfl opd_const ot (bin_sub (wrap_i64 (by omega) (by omega)))) ?_
           refine OD.still (wants_plain rfl) rfl (still_bin rfl ot ot (bin_add (wrap_i64 (by omega) (by omega)))) ?_
           refine OD.still (wants_plain rfl) rfl (still_as rfl ot) ?_
           refine OD.wk (Wk.as_ (n := 73) (l' := [(3, _), (11, _), (12, _), (13, _)]) (S' := [⟨b5, 40, 5, [_, _, _, _, _]⟩]) rfl rfl ⟨lk, lk, lk, lk, trivial⟩) ?_
           refine OD.nil ?_
           refine CD.region ?_
           refine OD.still (wants_plain rfl) rfl (still_bin rfl ot opd_const (bin_add (wrap_i64 (by omega) (by omega)))) ?_
           refine OD.still (wants_plain rfl) rfl (still_mv rfl ot) ?_
           refine OD.wk (Wk.as_ (n := 73) (l' := [(3, _), (11, _), (12, _), (13, _)]) (S' := [⟨b5, 40, 5, [_, _, _, _, _]⟩]) rfl rfl ⟨lk, lk, lk, lk, trivial⟩) ?_
           refine OD.nil ?_
           refine ⟨((i + 1), (h + (1 - popsF l[i].k))), ⟨73, [(3, .v (.int .i64 ((h + (1 - popsF l[i].k))))), (11, .list 5 (l.flatMap cO) l.length), (12, .v (.int .i64 l.length)), (13, .v (.int .i64 (((i + 1)) : Nat)))], []⟩, ?_, Wk.asS (n := 73) rfl (by repeat (first | exact List.Sublist.refl _ | apply List.Sublist.cons)) ⟨(by (repeat (first | exact look_hit | (apply look_at; focus (first | rfl | (simp; done) | (congr 2; omega))) | (apply look_miss; focus rfl))); done), (by (repeat (first | exact look_hit | (apply look_at; focus (first | rfl | (simp; done) | (congr 2; omega))) | (apply look_miss; focus rfl))); done), (by (repeat (first | exact look_hit | (apply look_at; focus (first | rfl | (simp; done) | (congr 2; omega))) | (apply look_miss; focus rfl))); done), (by (repeat (first | exact look_hit | (apply look_at; focus (first | rfl | (simp; done) | (congr 2; omega))) | (apply look_miss; focus rfl))); done), trivial⟩, (by omega), (by rw [hx]; exact exprL_ok hlt hok), (by omega), (by have := pops_bd l[i].k; omega), rfl⟩
           first | omega | (simp only []; omega)
      ·have hg34' := hg34; (try simp only [V.cnd, ne_eq] at hg34')
       refine OD.skip (wants_F rfl rfl rfl lk (by first | rfl | assumption)) rfl ?_
       refine OD.skip (wants_F rfl rfl rfl lk (by first | rfl | assumption)) rfl ?_
       refine OD.skip (wants_F rfl rfl rfl lk (by first | rfl | assumption)) rfl ?_
       refine OD.skip (wants_F rfl rfl rfl lk (by first | rfl | assumption)) rfl ?_
       refine OD.still (wants_plain rfl) rfl (still_pickF rfl ot (by first | rfl | assumption) opd_const) ?_
       refine OD.still (wants_plain rfl) rfl (still_mv rfl ot) ?_
       refine OD.still (wants_T rfl rfl rfl lk (by first | rfl | assumption)) rfl (still_r1 (mk := fun y => Op.fieldAddr 40 y 0) rfl ot (by first | exact fa_ptr (off := 0) Tryd.runUnderlying40 rfl Tryd.sizeOf3 rfl | exact fa_iptr (off := 0) Tryd.runUnderlying40 rfl Tryd.sizeOf3 rfl)) ?_
       refine OD.still (wants_T rfl rfl rfl lk (by first | rfl | assumption)) rfl (still_r1 (mk := Op.load 3) rfl ot (by first | exact ld_blk (k := 0) rfl rfl Tryd.isAgg3 rfl | exact ld_fm cO_len Tryd.isAgg3 (by first | assumption | omega) rfl | exact ld_fm0 cO_len Tryd.isAgg3 (by first | assumption | omega) rfl | exact ld_row (k := 0) cO_len rfl rfl rfl Tryd.isAgg3 (by first | assumption | omega) rfl | exact ld_row0 (k := 0) cO_len rfl rfl rfl Tryd.isAgg3 (by first | assumption | omega) rfl | exact ld_i Tryd.isAgg3 rfl)) ?_
       refine OD.still (wants_T rfl rfl rfl lk (by first | rfl | assumption)) rfl (still_bin rfl ot opd_const bin_neq) ?_
       refine OD.still (wants_T rfl rfl rfl lk (by first | rfl | assumption)) rfl (still_mv rfl ot) ?_
       refine OD.split (t := 44) lk (fun hg44 => ?_) (fun hg44 => ?_)
       ·have hg44' := hg44; (try simp only [V.cnd, ne_eq] at hg44')
        refine OD.still (wants_T rfl rfl rfl lk (by first | rfl | assumption)) rfl (still_r1 (mk := fun y => Op.fieldAddr 40 y 2) rfl ot (by first | exact fa_ptr (off := 4) Tryd.runUnderlying40 rfl Tryd.sizeOf9 rfl | exact fa_iptr (off := 4) Tryd.runUnderlying40 rfl Tryd.sizeOf9 rfl)) ?_
        refine OD.still (wants_T rfl rfl rfl lk (by first | rfl | assumption)) rfl (still_r1 (mk := Op.load 9) rfl ot (by first | exact ld_blk (k := 0) rfl rfl Tryd.isAgg9 rfl | exact ld_fm cO_len Tryd.isAgg9 (by first | assumption | omega) rfl | exact ld_fm0 cO_len Tryd.isAgg9 (by first | assumption | omega) rfl | exact ld_row (k := 0) cO_len rfl rfl rfl Tryd.isAgg9 (by first | assumption | omega) rfl | exact ld_row0 (k := 0) cO_len rfl rfl rfl Tryd.isAgg9 (by first | assumption | omega) rfl | exact ld_i Tryd.isAgg9 rfl)) ?_
        refine OD.still (wants_T rfl rfl rfl lk (by first | rfl | assumption)) rfl (still_bin rfl ot opd_const bin_sneq) ?_
        refine OD.still (wants_T rfl rfl rfl lk (by first | rfl | assumption)) rfl (still_pickT rfl ot (by first | rfl | assumption) ot) ?_
        refine OD.still (wants_plain rfl) rfl (still_pickF rfl ot (by first | rfl | assumption) ot) ?_
        refine OD.wk (Wk.as_ (n := 73) (l' := [(3, _), (5, _), (11, _), (12, _), (13, _), (49, _)]) (S' := [⟨b5, 40, 5, [_, _, _, _, _]⟩]) rfl rfl ⟨lk, lk, lk, lk, lk, lk, trivial⟩) ?_
        refine OD.nil ?_
        refine CD.cond ot (fun hc4 => ?_) (fun hc4 => ?_)
        ·have hc4' := hc4
         (try simp only [V.cnd, ne_eq] at hc4')
         have herr : opErr h l[i] = 6 := by unfold opErr zeroV; rw [if_neg hk1, if_neg (by rw [hlit]; simp), if_pos (by simp_all)]
         refine CD.seq ?_
         refine CD.region ?_
         refine OD.still (wants_plain rfl) rfl (still_as rfl opd_const) ?_
         refine OD.wk (Wk.as_ (n := 73) (l' := [(2, _)]) (S' := [⟨b5, 40, 5, [_, _, _, _, _]⟩]) rfl rfl ⟨lk, trivial⟩) ?_
         refine OD.nil ?_
         refine CD.ret ?_
         refine ⟨.inr rfl, _, [], List.nil_sublist _, ret_one Tryd.results40 (res_tmp (Nat.le_of_ble_eq_true rfl) lk), ?_⟩
         refine ⟨vi ?_, rfl⟩
         first | exact hf.symm | (rw [hf, hx, exprL_no hlt herr (by first | assumption | decide)]; done) | (rw [hf, hend, if_pos (by simpa using hc8)]; done) | (rw [hf, hend, if_neg (by simpa using hc8)]; done)
        ·have hc4' := hc4
         (try simp only [V.cnd, ne_eq] at hc4')
         have hform : ¬ ((l[i].k != 1 && !(zeroV l[i].v)) || (l[i].k != 2 && !(l[i].nm.toList == (⟨#[]⟩ : ByteArray).toList))) = true := by unfold zeroV; simp_all
         refine CD.skip ?_
         refine CD.seq ?_
         refine CD.seq ?_
         refine CD.region ?_
         refine OD.still (wants_plain rfl) rfl (still_r1 (mk := fun y => Op.fieldAddr 40 y 0) rfl ot (by first | exact fa_ptr (off := 0) Tryd.runUnderlying40 rfl Tryd.sizeOf3 rfl | exact fa_iptr (off := 0) Tryd.runUnderlying40 rfl Tryd.sizeOf3 rfl)) ?_
         refine OD.still (wants_plain rfl) rfl (still_r1 (mk := Op.load 3) rfl ot (by first | exact ld_blk (k := 0) rfl rfl Tryd.isAgg3 rfl | exact ld_fm cO_len Tryd.isAgg3 (by first | assumption | omega) rfl | exact ld_fm0 cO_len Tryd.isAgg3 (by first | assumption | omega) rfl | exact ld_row (k := 0) cO_len rfl rfl rfl Tryd.isAgg3 (by first | assumption | omega) rfl | exact ld_row0 (k := 0) cO_len rfl rfl rfl Tryd.isAgg3 (by first | assumption | omega) rfl | exact ld_i Tryd.isAgg3 rfl)) ?_
         refine OD.still (wants_plain rfl) rfl (still_bin rfl ot opd_const bin_eql) ?_
         refine OD.wk (Wk.as_ (n := 73) (l' := [(3, _), (5, _), (11, _), (12, _), (13, _), (52, _)]) (S' := [⟨b5, 40, 5, [_, _, _, _, _]⟩]) rfl rfl ⟨lk, lk, lk, lk, lk, lk, trivial⟩) ?_
         refine OD.nil ?_
         refine CD.cond ot (fun hc5 => ?_) (fun hc5 => ?_)
         ·have hc5' := hc5
          (try simp only [V.cnd, ne_eq] at hc5')
          refine CD.seq ?_
          refine CD.region ?_
          refine OD.still (wants_plain rfl) rfl (still_r1 (mk := fun y => Op.fieldAddr 40 y 2) rfl ot (by first | exact fa_ptr (off := 4) Tryd.runUnderlying40 rfl Tryd.sizeOf9 rfl | exact fa_iptr (off := 4) Tryd.runUnderlying40 rfl Tryd.sizeOf9 rfl)) ?_
          refine OD.still (wants_plain rfl) rfl (still_r1 (mk := Op.load 9) rfl ot (by first | exact ld_blk (k := 0) rfl rfl Tryd.isAgg9 rfl | exact ld_fm cO_len Tryd.isAgg9 (by first | assumption | omega) rfl | exact ld_fm0 cO_len Tryd.isAgg9 (by first | assumption | omega) rfl | exact ld_row (k := 0) cO_len rfl rfl rfl Tryd.isAgg9 (by first | assumption | omega) rfl | exact ld_row0 (k := 0) cO_len rfl rfl rfl Tryd.isAgg9 (by first | assumption | omega) rfl | exact ld_i Tryd.isAgg9 rfl)) ?_
          refine OD.callP (wants_plain rfl) rfl rfl rfl Tryd.call60 (name_vp hm hw l[i].nm (hs _ (List.getElem_mem hlt))) ⟨ot, trivial⟩ ?_
          refine OD.still (wants_plain rfl) rfl (still_as rfl ot) ?_
          refine OD.wk (Wk.as_ (n := 73) (l' := [(3, _), (5, _), (7, _), (11, _), (12, _), (13, _)]) (S' := [⟨b5, 40, 5, [_, _, _, _, _]⟩]) rfl rfl ⟨lk, lk, lk, lk, lk, lk, trivial⟩) ?_
          refine OD.nil ?_
          refine CD.seq ?_
          refine CD.region ?_
          refine OD.still (wants_plain rfl) rfl (still_mv rfl ot) ?_
          refine OD.still (wants_plain rfl) rfl (still_bin rfl ot opd_const bin_neq) ?_
          refine OD.wk (Wk.as_ (n := 73) (l' := [(3, _), (5, _), (7, _), (11, _), (12, _), (13, _), (57, _)]) (S' := [⟨b5, 40, 5, [_, _, _, _, _]⟩]) rfl rfl ⟨lk, lk, lk, lk, lk, lk, lk, trivial⟩) ?_
          refine OD.nil ?_
          refine CD.cond ot (fun hc6 => ?_) (fun hc6 => ?_)
          ·have hc6' := hc6
           (try simp only [V.cnd, ne_eq] at hc6')
           have hnm : nameF l[i].nm ≠ 0 := by simpa using hc6
           have herr : opErr h l[i] = nameF l[i].nm := by unfold opErr; rw [if_neg hk1, if_neg (by rw [hlit]; simp), if_neg hform, if_pos ⟨by simpa using hc5, hnm⟩]
           refine CD.seq ?_
           refine CD.region ?_
           refine OD.still (wants_plain rfl) rfl (still_mv rfl ot) ?_
           refine OD.still (wants_plain rfl) rfl (still_as rfl ot) ?_
           refine OD.wk (Wk.as_ (n := 73) (l' := [(2, _)]) (S' := [⟨b5, 40, 5, [_, _, _, _, _]⟩]) rfl rfl ⟨lk, trivial⟩) ?_
           refine OD.nil ?_
           refine CD.ret ?_
           refine ⟨.inr rfl, _, [], List.nil_sublist _, ret_one Tryd.results40 (res_tmp (Nat.le_of_ble_eq_true rfl) lk), ?_⟩
           refine ⟨vi ?_, rfl⟩
           first | exact hf.symm | (rw [hf, hx, exprL_no hlt herr (by first | assumption | decide)]; done) | (rw [hf, hend, if_pos (by simpa using hc8)]; done) | (rw [hf, hend, if_neg (by simpa using hc8)]; done)
          ·have hc6' := hc6
           (try simp only [V.cnd, ne_eq] at hc6')
           have hnn : ¬ (l[i].k = 2 ∧ nameF l[i].nm ≠ 0) := by simp at hc6; simp [hc6]
           refine CD.skip ?_
           refine CD.seq ?_
           refine CD.seq ?_
           refine CD.region ?_
           refine OD.still (wants_plain rfl) rfl (still_mv rfl ot) ?_
           refine OD.still (wants_plain rfl) rfl (still_r1 (mk := fun y => Op.fieldAddr 40 y 0) rfl ot (by first | exact fa_ptr (off := 0) Tryd.runUnderlying40 rfl Tryd.sizeOf3 rfl | exact fa_iptr (off := 0) Tryd.runUnderlying40 rfl Tryd.sizeOf3 rfl)) ?_
           refine OD.still (wants_plain rfl) rfl (still_r1 (mk := Op.load 3) rfl ot (by first | exact ld_blk (k := 0) rfl rfl Tryd.isAgg3 rfl | exact ld_fm cO_len Tryd.isAgg3 (by first | assumption | omega) rfl | exact ld_fm0 cO_len Tryd.isAgg3 (by first | assumption | omega) rfl | exact ld_row (k := 0) cO_len rfl rfl rfl Tryd.isAgg3 (by first | assumption | omega) rfl | exact ld_row0 (k := 0) cO_len rfl rfl rfl Tryd.isAgg3 (by first | assumption | omega) rfl | exact ld_i Tryd.isAgg3 rfl)) ?_
           refine OD.callP (wants_plain rfl) rfl rfl rfl Tryd.call61 (pops_vp l[i].k) ⟨ot, trivial⟩ ?_
           refine OD.still (wants_plain rfl) rfl (still_bin rfl ot ot bin_lss) ?_
           refine OD.wk (Wk.as_ (n := 73) (l' := [(3, _), (5, _), (11, _), (12, _), (13, _), (63, _)]) (S' := [⟨b5, 40, 5, [_, _, _, _, _]⟩]) rfl rfl ⟨lk, lk, lk, lk, lk, lk, trivial⟩) ?_
           refine OD.nil ?_
           refine CD.cond ot (fun hc7 => ?_) (fun hc7 => ?_)
           ·have hc7' := hc7
            (try simp only [V.cnd, ne_eq] at hc7')
            have hsh : h < popsF l[i].k := by simpa using hc7
            have herr : opErr h l[i] = 7 := by unfold opErr; rw [if_neg hk1, if_neg (by rw [hlit]; simp), if_neg hform, if_neg hnn, if_pos hsh]
            refine CD.seq ?_
            refine CD.region ?_
            refine OD.still (wants_plain rfl) rfl (still_as rfl opd_const) ?_
            refine OD.wk (Wk.as_ (n := 73) (l' := [(2, _)]) (S' := [⟨b5, 40, 5, [_, _, _, _, _]⟩]) rfl rfl ⟨lk, trivial⟩) ?_
            refine OD.nil ?_
            refine CD.ret ?_
            refine ⟨.inr rfl, _, [], List.nil_sublist _, ret_one Tryd.results40 (res_tmp (Nat.le_of_ble_eq_true rfl) lk), ?_⟩
            refine ⟨vi ?_, rfl⟩
            first | exact hf.symm | (rw [hf, hx, exprL_no hlt herr (by first | assumption | decide)]; done) | (rw [hf, hend, if_pos (by simpa using hc8)]; done) | (rw [hf, hend, if_neg (by simpa using hc8)]; done)
           ·have hc7' := hc7
            (try simp only [V.cnd, ne_eq] at hc7')
            have hsh : ¬ h < popsF l[i].k := by simpa using hc7
            have hok : opErr h l[i] = 0 := by unfold opErr; rw [if_neg hk1, if_neg (by rw [hlit]; simp), if_neg hform, if_neg hnn, if_neg hsh]
            refine CD.skip ?_
            refine CD.region ?_
            refine OD.still (wants_plain rfl) rfl (still_mv rfl ot) ?_
            refine OD.still (wants_plain rfl) rfl (still_r1 (mk := fun y => Op.fieldAddr 40 y 0) rfl ot (by first | exact fa_ptr (off := 0) Tryd.runUnderlying40 rfl Tryd.sizeOf3 rfl | exact fa_iptr (off := 0) Tryd.runUnderlying40 rfl Tryd.sizeOf3 rfl)) ?_
            refine OD.still (wants_plain rfl) rfl (still_r1 (mk := Op.load 3) rfl ot (by first | exact ld_blk (k := 0) rfl rfl Tryd.isAgg3 rfl | exact ld_fm cO_len Tryd.isAgg3 (by first | assumption | omega) rfl | exact ld_fm0 cO_len Tryd.isAgg3 (by first | assumption | omega) rfl | exact ld_row (k := 0) cO_len rfl rfl rfl Tryd.isAgg3 (by first | assumption | omega) rfl | exact ld_row0 (k := 0) cO_len rfl rfl rfl Tryd.isAgg3 (by first | assumption | omega) rfl | exact ld_i Tryd.isAgg3 rfl)) ?_
            refine OD.callP (wants_plain rfl) rfl rfl rfl Tryd.call61 (pops_vp l[i].k) ⟨ot, trivial⟩ ?_
            refine OD.still (wants_plain rfl) rfl (still_bin rfl opd_const ot (bin_sub (wrap_i64 (by omega) (by omega)))) ?_
            refine OD.still (wants_plain rfl) rfl (still_bin rfl ot ot (bin_add (wrap_i64 (by omega) (by omega)))) ?_
            refine OD.still (wants_plain rfl) rfl (still_as rfl ot) ?_
            refine OD.wk (Wk.as_ (n := 73) (l' := [(3, _), (11, _), (12, _), (13, _)]) (S' := [⟨b5, 40, 5, [_, _, _, _, _]⟩]) rfl rfl ⟨lk, lk, lk, lk, trivial⟩) ?_
            refine OD.nil ?_
            refine CD.region ?_
            refine OD.still (wants_plain rfl) rfl (still_bin rfl ot opd_const (bin_add (wrap_i64 (by omega) (by omega)))) ?_
            refine OD.still (wants_plain rfl) rfl (still_mv rfl ot) ?_
            refine OD.wk (Wk.as_ (n := 73) (l' := [(3, _), (11, _), (12, _), (13, _)]) (S' := [⟨b5, 40, 5, [_, _, _, _, _]⟩]) rfl rfl ⟨lk, lk, lk, lk, trivial⟩) ?_
            refine OD.nil ?_
            refine ⟨((i + 1), (h + (1 - popsF l[i].k))), ⟨73, [(3, .v (.int .i64 ((h + (1 - popsF l[i].k))))), (11, .list 5 (l.flatMap cO) l.length), (12, .v (.int .i64 l.length)), (13, .v (.int .i64 (((i + 1)) : Nat)))], []⟩, ?_, Wk.asS (n := 73) rfl (by repeat (first | exact List.Sublist.refl _ | apply List.Sublist.cons)) ⟨(by (repeat (first | exact look_hit | (apply look_at; focus (first | rfl | (simp; done) | (congr 2; omega))) | (apply look_miss; focus rfl))); done), (by (repeat (first | exact look_hit | (apply look_at; focus (first | rfl | (simp; done) | (congr 2; omega))) | (apply look_miss; focus rfl))); done), (by (repeat (first | exact look_hit | (apply look_at; focus (first | rfl | (simp; done) | (congr 2; omega))) | (apply look_miss; focus rfl))); done), (by (repeat (first | exact look_hit | (apply look_at; focus (first | rfl | (simp; done) | (congr 2; omega))) | (apply look_miss; focus rfl))); done), trivial⟩, (by omega), (by rw [hx]; exact exprL_ok hlt hok), (by omega), (by have := pops_bd l[i].k; omega), rfl⟩
            first | omega | (simp only []; omega)
         ·have hc5' := hc5
          (try simp only [V.cnd, ne_eq] at hc5')
          have hnn : ¬ (l[i].k = 2 ∧ nameF l[i].nm ≠ 0) := by simp at hc5; simp [hc5]
          refine CD.skip ?_
          refine CD.seq ?_
          refine CD.seq ?_
          refine CD.region ?_
          refine OD.still (wants_plain rfl) rfl (still_mv rfl ot) ?_
          refine OD.still (wants_plain rfl) rfl (still_r1 (mk := fun y => Op.fieldAddr 40 y 0) rfl ot (by first | exact fa_ptr (off := 0) Tryd.runUnderlying40 rfl Tryd.sizeOf3 rfl | exact fa_iptr (off := 0) Tryd.runUnderlying40 rfl Tryd.sizeOf3 rfl)) ?_
          refine OD.still (wants_plain rfl) rfl (still_r1 (mk := Op.load 3) rfl ot (by first | exact ld_blk (k := 0) rfl rfl Tryd.isAgg3 rfl | exact ld_fm cO_len Tryd.isAgg3 (by first | assumption | omega) rfl | exact ld_fm0 cO_len Tryd.isAgg3 (by first | assumption | omega) rfl | exact ld_row (k := 0) cO_len rfl rfl rfl Tryd.isAgg3 (by first | assumption | omega) rfl | exact ld_row0 (k := 0) cO_len rfl rfl rfl Tryd.isAgg3 (by first | assumption | omega) rfl | exact ld_i Tryd.isAgg3 rfl)) ?_
          refine OD.callP (wants_plain rfl) rfl rfl rfl Tryd.call61 (pops_vp l[i].k) ⟨ot, trivial⟩ ?_
          refine OD.still (wants_plain rfl) rfl (still_bin rfl ot ot bin_lss) ?_
          refine OD.wk (Wk.as_ (n := 73) (l' := [(3, _), (5, _), (11, _), (12, _), (13, _), (63, _)]) (S' := [⟨b5, 40, 5, [_, _, _, _, _]⟩]) rfl rfl ⟨lk, lk, lk, lk, lk, lk, trivial⟩) ?_
          refine OD.nil ?_
          refine CD.cond ot (fun hc7 => ?_) (fun hc7 => ?_)
          ·have hc7' := hc7
           (try simp only [V.cnd, ne_eq] at hc7')
           have hsh : h < popsF l[i].k := by simpa using hc7
           have herr : opErr h l[i] = 7 := by unfold opErr; rw [if_neg hk1, if_neg (by rw [hlit]; simp), if_neg hform, if_neg hnn, if_pos hsh]
           refine CD.seq ?_
           refine CD.region ?_
           refine OD.still (wants_plain rfl) rfl (still_as rfl opd_const) ?_
           refine OD.wk (Wk.as_ (n := 73) (l' := [(2, _)]) (S' := [⟨b5, 40, 5, [_, _, _, _, _]⟩]) rfl rfl ⟨lk, trivial⟩) ?_
           refine OD.nil ?_
           refine CD.ret ?_
           refine ⟨.inr rfl, _, [], List.nil_sublist _, ret_one Tryd.results40 (res_tmp (Nat.le_of_ble_eq_true rfl) lk), ?_⟩
           refine ⟨vi ?_, rfl⟩
           first | exact hf.symm | (rw [hf, hx, exprL_no hlt herr (by first | assumption | decide)]; done) | (rw [hf, hend, if_pos (by simpa using hc8)]; done) | (rw [hf, hend, if_neg (by simpa using hc8)]; done)
          ·have hc7' := hc7
           (try simp only [V.cnd, ne_eq] at hc7')
           have hsh : ¬ h < popsF l[i].k := by simpa using hc7
           have hok : opErr h l[i] = 0 := by unfold opErr; rw [if_neg hk1, if_neg (by rw [hlit]; simp), if_neg hform, if_neg hnn, if_neg hsh]
           refine CD.skip ?_
           refine CD.region ?_
           refine OD.still (wants_plain rfl) rfl (still_mv rfl ot) ?_
           refine OD.still (wants_plain rfl) rfl (still_r1 (mk := fun y => Op.fieldAddr 40 y 0) rfl ot (by first | exact fa_ptr (off := 0) Tryd.runUnderlying40 rfl Tryd.sizeOf3 rfl | exact fa_iptr (off := 0) Tryd.runUnderlying40 rfl Tryd.sizeOf3 rfl)) ?_
           refine OD.still (wants_plain rfl) rfl (still_r1 (mk := Op.load 3) rfl ot (by first | exact ld_blk (k := 0) rfl rfl Tryd.isAgg3 rfl | exact ld_fm cO_len Tryd.isAgg3 (by first | assumption | omega) rfl | exact ld_fm0 cO_len Tryd.isAgg3 (by first | assumption | omega) rfl | exact ld_row (k := 0) cO_len rfl rfl rfl Tryd.isAgg3 (by first | assumption | omega) rfl | exact ld_row0 (k := 0) cO_len rfl rfl rfl Tryd.isAgg3 (by first | assumption | omega) rfl | exact ld_i Tryd.isAgg3 rfl)) ?_
           refine OD.callP (wants_plain rfl) rfl rfl rfl Tryd.call61 (pops_vp l[i].k) ⟨ot, trivial⟩ ?_
           refine OD.still (wants_plain rfl) rfl (still_bin rfl opd_const ot (bin_sub (wrap_i64 (by omega) (by omega)))) ?_
           refine OD.still (wants_plain rfl) rfl (still_bin rfl ot ot (bin_add (wrap_i64 (by omega) (by omega)))) ?_
           refine OD.still (wants_plain rfl) rfl (still_as rfl ot) ?_
           refine OD.wk (Wk.as_ (n := 73) (l' := [(3, _), (11, _), (12, _), (13, _)]) (S' := [⟨b5, 40, 5, [_, _, _, _, _]⟩]) rfl rfl ⟨lk, lk, lk, lk, trivial⟩) ?_
           refine OD.nil ?_
           refine CD.region ?_
           refine OD.still (wants_plain rfl) rfl (still_bin rfl ot opd_const (bin_add (wrap_i64 (by omega) (by omega)))) ?_
           refine OD.still (wants_plain rfl) rfl (still_mv rfl ot) ?_
           refine OD.wk (Wk.as_ (n := 73) (l' := [(3, _), (11, _), (12, _), (13, _)]) (S' := [⟨b5, 40, 5, [_, _, _, _, _]⟩]) rfl rfl ⟨lk, lk, lk, lk, trivial⟩) ?_
           refine OD.nil ?_
           refine ⟨((i + 1), (h + (1 - popsF l[i].k))), ⟨73, [(3, .v (.int .i64 ((h + (1 - popsF l[i].k))))), (11, .list 5 (l.flatMap cO) l.length), (12, .v (.int .i64 l.length)), (13, .v (.int .i64 (((i + 1)) : Nat)))], []⟩, ?_, Wk.asS (n := 73) rfl (by repeat (first | exact List.Sublist.refl _ | apply List.Sublist.cons)) ⟨(by (repeat (first | exact look_hit | (apply look_at; focus (first | rfl | (simp; done) | (congr 2; omega))) | (apply look_miss; focus rfl))); done), (by (repeat (first | exact look_hit | (apply look_at; focus (first | rfl | (simp; done) | (congr 2; omega))) | (apply look_miss; focus rfl))); done), (by (repeat (first | exact look_hit | (apply look_at; focus (first | rfl | (simp; done) | (congr 2; omega))) | (apply look_miss; focus rfl))); done), (by (repeat (first | exact look_hit | (apply look_at; focus (first | rfl | (simp; done) | (congr 2; omega))) | (apply look_miss; focus rfl))); done), trivial⟩, (by omega), (by rw [hx]; exact exprL_ok hlt hok), (by omega), (by have := pops_bd l[i].k; omega), rfl⟩
           first | omega | (simp only []; omega)
       ·have hg44' := hg44; (try simp only [V.cnd, ne_eq] at hg44')
        refine OD.skip (wants_F rfl rfl rfl lk (by first | rfl | assumption)) rfl ?_
        refine OD.skip (wants_F rfl rfl rfl lk (by first | rfl | assumption)) rfl ?_
        refine OD.skip (wants_F rfl rfl rfl lk (by first | rfl | assumption)) rfl ?_
        refine OD.still (wants_T rfl rfl rfl lk (by first | rfl | assumption)) rfl (still_pickF rfl ot (by first | rfl | assumption) opd_const) ?_
        refine OD.still (wants_plain rfl) rfl (still_pickF rfl ot (by first | rfl | assumption) ot) ?_
        refine OD.wk (Wk.as_ (n := 73) (l' := [(3, _), (5, _), (11, _), (12, _), (13, _), (49, _)]) (S' := [⟨b5, 40, 5, [_, _, _, _, _]⟩]) rfl rfl ⟨lk, lk, lk, lk, lk, lk, trivial⟩) ?_
        refine OD.nil ?_
        refine CD.condF ot (by first | rfl | assumption) ?_
        have hform : ¬ ((l[i].k != 1 && !(zeroV l[i].v)) || (l[i].k != 2 && !(l[i].nm.toList == (⟨#[]⟩ : ByteArray).toList))) = true := by unfold zeroV; simp_all
        refine CD.skip ?_
        refine CD.seq ?_
        refine CD.seq ?_
        refine CD.region ?_
        refine OD.still (wants_plain rfl) rfl (still_r1 (mk := fun y => Op.fieldAddr 40 y 0) rfl ot (by first | exact fa_ptr (off := 0) Tryd.runUnderlying40 rfl Tryd.sizeOf3 rfl | exact fa_iptr (off := 0) Tryd.runUnderlying40 rfl Tryd.sizeOf3 rfl)) ?_
        refine OD.still (wants_plain rfl) rfl (still_r1 (mk := Op.load 3) rfl ot (by first | exact ld_blk (k := 0) rfl rfl Tryd.isAgg3 rfl | exact ld_fm cO_len Tryd.isAgg3 (by first | assumption | omega) rfl | exact ld_fm0 cO_len Tryd.isAgg3 (by first | assumption | omega) rfl | exact ld_row (k := 0) cO_len rfl rfl rfl Tryd.isAgg3 (by first | assumption | omega) rfl | exact ld_row0 (k := 0) cO_len rfl rfl rfl Tryd.isAgg3 (by first | assumption | omega) rfl | exact ld_i Tryd.isAgg3 rfl)) ?_
        refine OD.still (wants_plain rfl) rfl (still_bin rfl ot opd_const bin_eql) ?_
        refine OD.wk (Wk.as_ (n := 73) (l' := [(3, _), (5, _), (11, _), (12, _), (13, _), (52, _)]) (S' := [⟨b5, 40, 5, [_, _, _, _, _]⟩]) rfl rfl ⟨lk, lk, lk, lk, lk, lk, trivial⟩) ?_
        refine OD.nil ?_
        refine CD.cond ot (fun hc5 => ?_) (fun hc5 => ?_)
        ·have hc5' := hc5
         (try simp only [V.cnd, ne_eq] at hc5')
         refine CD.seq ?_
         refine CD.region ?_
         refine OD.still (wants_plain rfl) rfl (still_r1 (mk := fun y => Op.fieldAddr 40 y 2) rfl ot (by first | exact fa_ptr (off := 4) Tryd.runUnderlying40 rfl Tryd.sizeOf9 rfl | exact fa_iptr (off := 4) Tryd.runUnderlying40 rfl Tryd.sizeOf9 rfl)) ?_
         refine OD.still (wants_plain rfl) rfl (still_r1 (mk := Op.load 9) rfl ot (by first | exact ld_blk (k := 0) rfl rfl Tryd.isAgg9 rfl | exact ld_fm cO_len Tryd.isAgg9 (by first | assumption | omega) rfl | exact ld_fm0 cO_len Tryd.isAgg9 (by first | assumption | omega) rfl | exact ld_row (k := 0) cO_len rfl rfl rfl Tryd.isAgg9 (by first | assumption | omega) rfl | exact ld_row0 (k := 0) cO_len rfl rfl rfl Tryd.isAgg9 (by first | assumption | omega) rfl | exact ld_i Tryd.isAgg9 rfl)) ?_
         refine OD.callP (wants_plain rfl) rfl rfl rfl Tryd.call60 (name_vp hm hw l[i].nm (hs _ (List.getElem_mem hlt))) ⟨ot, trivial⟩ ?_
         refine OD.still (wants_plain rfl) rfl (still_as rfl ot) ?_
         refine OD.wk (Wk.as_ (n := 73) (l' := [(3, _), (5, _), (7, _), (11, _), (12, _), (13, _)]) (S' := [⟨b5, 40, 5, [_, _, _, _, _]⟩]) rfl rfl ⟨lk, lk, lk, lk, lk, lk, trivial⟩) ?_
         refine OD.nil ?_
         refine CD.seq ?_
         refine CD.region ?_
         refine OD.still (wants_plain rfl) rfl (still_mv rfl ot) ?_
         refine OD.still (wants_plain rfl) rfl (still_bin rfl ot opd_const bin_neq) ?_
         refine OD.wk (Wk.as_ (n := 73) (l' := [(3, _), (5, _), (7, _), (11, _), (12, _), (13, _), (57, _)]) (S' := [⟨b5, 40, 5, [_, _, _, _, _]⟩]) rfl rfl ⟨lk, lk, lk, lk, lk, lk, lk, trivial⟩) ?_
         refine OD.nil ?_
         refine CD.cond ot (fun hc6 => ?_) (fun hc6 => ?_)
         ·have hc6' := hc6
          (try simp only [V.cnd, ne_eq] at hc6')
          have hnm : nameF l[i].nm ≠ 0 := by simpa using hc6
          have herr : opErr h l[i] = nameF l[i].nm := by unfold opErr; rw [if_neg hk1, if_neg (by rw [hlit]; simp), if_neg hform, if_pos ⟨by simpa using hc5, hnm⟩]
          refine CD.seq ?_
          refine CD.region ?_
          refine OD.still (wants_plain rfl) rfl (still_mv rfl ot) ?_
          refine OD.still (wants_plain rfl) rfl (still_as rfl ot) ?_
          refine OD.wk (Wk.as_ (n := 73) (l' := [(2, _)]) (S' := [⟨b5, 40, 5, [_, _, _, _, _]⟩]) rfl rfl ⟨lk, trivial⟩) ?_
          refine OD.nil ?_
          refine CD.ret ?_
          refine ⟨.inr rfl, _, [], List.nil_sublist _, ret_one Tryd.results40 (res_tmp (Nat.le_of_ble_eq_true rfl) lk), ?_⟩
          refine ⟨vi ?_, rfl⟩
          first | exact hf.symm | (rw [hf, hx, exprL_no hlt herr (by first | assumption | decide)]; done) | (rw [hf, hend, if_pos (by simpa using hc8)]; done) | (rw [hf, hend, if_neg (by simpa using hc8)]; done)
         ·have hc6' := hc6
          (try simp only [V.cnd, ne_eq] at hc6')
          have hnn : ¬ (l[i].k = 2 ∧ nameF l[i].nm ≠ 0) := by simp at hc6; simp [hc6]
          refine CD.skip ?_
          refine CD.seq ?_
          refine CD.seq ?_
          refine CD.region ?_
          refine OD.still (wants_plain rfl) rfl (still_mv rfl ot) ?_
          refine OD.still (wants_plain rfl) rfl (still_r1 (mk := fun y => Op.fieldAddr 40 y 0) rfl ot (by first | exact fa_ptr (off := 0) Tryd.runUnderlying40 rfl Tryd.sizeOf3 rfl | exact fa_iptr (off := 0) Tryd.runUnderlying40 rfl Tryd.sizeOf3 rfl)) ?_
          refine OD.still (wants_plain rfl) rfl (still_r1 (mk := Op.load 3) rfl ot (by first | exact ld_blk (k := 0) rfl rfl Tryd.isAgg3 rfl | exact ld_fm cO_len Tryd.isAgg3 (by first | assumption | omega) rfl | exact ld_fm0 cO_len Tryd.isAgg3 (by first | assumption | omega) rfl | exact ld_row (k := 0) cO_len rfl rfl rfl Tryd.isAgg3 (by first | assumption | omega) rfl | exact ld_row0 (k := 0) cO_len rfl rfl rfl Tryd.isAgg3 (by first | assumption | omega) rfl | exact ld_i Tryd.isAgg3 rfl)) ?_
          refine OD.callP (wants_plain rfl) rfl rfl rfl Tryd.call61 (pops_vp l[i].k) ⟨ot, trivial⟩ ?_
          refine OD.still (wants_plain rfl) rfl (still_bin rfl ot ot bin_lss) ?_
          refine OD.wk (Wk.as_ (n := 73) (l' := [(3, _), (5, _), (11, _), (12, _), (13, _), (63, _)]) (S' := [⟨b5, 40, 5, [_, _, _, _, _]⟩]) rfl rfl ⟨lk, lk, lk, lk, lk, lk, trivial⟩) ?_
          refine OD.nil ?_
          refine CD.cond ot (fun hc7 => ?_) (fun hc7 => ?_)
          ·have hc7' := hc7
           (try simp only [V.cnd, ne_eq] at hc7')
           have hsh : h < popsF l[i].k := by simpa using hc7
           have herr : opErr h l[i] = 7 := by unfold opErr; rw [if_neg hk1, if_neg (by rw [hlit]; simp), if_neg hform, if_neg hnn, if_pos hsh]
           refine CD.seq ?_
           refine CD.region ?_
           refine OD.still (wants_plain rfl) rfl (still_as rfl opd_const) ?_
           refine OD.wk (Wk.as_ (n := 73) (l' := [(2, _)]) (S' := [⟨b5, 40, 5, [_, _, _, _, _]⟩]) rfl rfl ⟨lk, trivial⟩) ?_
           refine OD.nil ?_
           refine CD.ret ?_
           refine ⟨.inr rfl, _, [], List.nil_sublist _, ret_one Tryd.results40 (res_tmp (Nat.le_of_ble_eq_true rfl) lk), ?_⟩
           refine ⟨vi ?_, rfl⟩
           first | exact hf.symm | (rw [hf, hx, exprL_no hlt herr (by first | assumption | decide)]; done) | (rw [hf, hend, if_pos (by simpa using hc8)]; done) | (rw [hf, hend, if_neg (by simpa using hc8)]; done)
          ·have hc7' := hc7
           (try simp only [V.cnd, ne_eq] at hc7')
           have hsh : ¬ h < popsF l[i].k := by simpa using hc7
           have hok : opErr h l[i] = 0 := by unfold opErr; rw [if_neg hk1, if_neg (by rw [hlit]; simp), if_neg hform, if_neg hnn, if_neg hsh]
           refine CD.skip ?_
           refine CD.region ?_
           refine OD.still (wants_plain rfl) rfl (still_mv rfl ot) ?_
           refine OD.still (wants_plain rfl) rfl (still_r1 (mk := fun y => Op.fieldAddr 40 y 0) rfl ot (by first | exact fa_ptr (off := 0) Tryd.runUnderlying40 rfl Tryd.sizeOf3 rfl | exact fa_iptr (off := 0) Tryd.runUnderlying40 rfl Tryd.sizeOf3 rfl)) ?_
           refine OD.still (wants_plain rfl) rfl (still_r1 (mk := Op.load 3) rfl ot (by first | exact ld_blk (k := 0) rfl rfl Tryd.isAgg3 rfl | exact ld_fm cO_len Tryd.isAgg3 (by first | assumption | omega) rfl | exact ld_fm0 cO_len Tryd.isAgg3 (by first | assumption | omega) rfl | exact ld_row (k := 0) cO_len rfl rfl rfl Tryd.isAgg3 (by first | assumption | omega) rfl | exact ld_row0 (k := 0) cO_len rfl rfl rfl Tryd.isAgg3 (by first | assumption | omega) rfl | exact ld_i Tryd.isAgg3 rfl)) ?_
           refine OD.callP (wants_plain rfl) rfl rfl rfl Tryd.call61 (pops_vp l[i].k) ⟨ot, trivial⟩ ?_
           refine OD.still (wants_plain rfl) rfl (still_bin rfl opd_const ot (bin_sub (wrap_i64 (by omega) (by omega)))) ?_
           refine OD.still (wants_plain rfl) rfl (still_bin rfl ot ot (bin_add (wrap_i64 (by omega) (by omega)))) ?_
           refine OD.still (wants_plain rfl) rfl (still_as rfl ot) ?_
           refine OD.wk (Wk.as_ (n := 73) (l' := [(3, _), (11, _), (12, _), (13, _)]) (S' := [⟨b5, 40, 5, [_, _, _, _, _]⟩]) rfl rfl ⟨lk, lk, lk, lk, trivial⟩) ?_
           refine OD.nil ?_
           refine CD.region ?_
           refine OD.still (wants_plain rfl) rfl (still_bin rfl ot opd_const (bin_add (wrap_i64 (by omega) (by omega)))) ?_
           refine OD.still (wants_plain rfl) rfl (still_mv rfl ot) ?_
           refine OD.wk (Wk.as_ (n := 73) (l' := [(3, _), (11, _), (12, _), (13, _)]) (S' := [⟨b5, 40, 5, [_, _, _, _, _]⟩]) rfl rfl ⟨lk, lk, lk, lk, trivial⟩) ?_
           refine OD.nil ?_
           refine ⟨((i + 1), (h + (1 - popsF l[i].k))), ⟨73, [(3, .v (.int .i64 ((h + (1 - popsF l[i].k))))), (11, .list 5 (l.flatMap cO) l.length), (12, .v (.int .i64 l.length)), (13, .v (.int .i64 (((i + 1)) : Nat)))], []⟩, ?_, Wk.asS (n := 73) rfl (by repeat (first | exact List.Sublist.refl _ | apply List.Sublist.cons)) ⟨(by (repeat (first | exact look_hit | (apply look_at; focus (first | rfl | (simp; done) | (congr 2; omega))) | (apply look_miss; focus rfl))); done), (by (repeat (first | exact look_hit | (apply look_at; focus (first | rfl | (simp; done) | (congr 2; omega))) | (apply look_miss; focus rfl))); done), (by (repeat (first | exact look_hit | (apply look_at; focus (first | rfl | (simp; done) | (congr 2; omega))) | (apply look_miss; focus rfl))); done), (by (repeat (first | exact look_hit | (apply look_at; focus (first | rfl | (simp; done) | (congr 2; omega))) | (apply look_miss; focus rfl))); done), trivial⟩, (by omega), (by rw [hx]; exact exprL_ok hlt hok), (by omega), (by have := pops_bd l[i].k; omega), rfl⟩
           first | omega | (simp only []; omega)
        ·have hc5' := hc5
         (try simp only [V.cnd, ne_eq] at hc5')
         have hnn : ¬ (l[i].k = 2 ∧ nameF l[i].nm ≠ 0) := by simp at hc5; simp [hc5]
         refine CD.skip ?_
         refine CD.seq ?_
         refine CD.seq ?_
         refine CD.region ?_
         refine OD.still (wants_plain rfl) rfl (still_mv rfl ot) ?_
         refine OD.still (wants_plain rfl) rfl (still_r1 (mk := fun y => Op.fieldAddr 40 y 0) rfl ot (by first | exact fa_ptr (off := 0) Tryd.runUnderlying40 rfl Tryd.sizeOf3 rfl | exact fa_iptr (off := 0) Tryd.runUnderlying40 rfl Tryd.sizeOf3 rfl)) ?_
         refine OD.still (wants_plain rfl) rfl (still_r1 (mk := Op.load 3) rfl ot (by first | exact ld_blk (k := 0) rfl rfl Tryd.isAgg3 rfl | exact ld_fm cO_len Tryd.isAgg3 (by first | assumption | omega) rfl | exact ld_fm0 cO_len Tryd.isAgg3 (by first | assumption | omega) rfl | exact ld_row (k := 0) cO_len rfl rfl rfl Tryd.isAgg3 (by first | assumption | omega) rfl | exact ld_row0 (k := 0) cO_len rfl rfl rfl Tryd.isAgg3 (by first | assumption | omega) rfl | exact ld_i Tryd.isAgg3 rfl)) ?_
         refine OD.callP (wants_plain rfl) rfl rfl rfl Tryd.call61 (pops_vp l[i].k) ⟨ot, trivial⟩ ?_
         refine OD.still (wants_plain rfl) rfl (still_bin rfl ot ot bin_lss) ?_
         refine OD.wk (Wk.as_ (n := 73) (l' := [(3, _), (5, _), (11, _), (12, _), (13, _), (63, _)]) (S' := [⟨b5, 40, 5, [_, _, _, _, _]⟩]) rfl rfl ⟨lk, lk, lk, lk, lk, lk, trivial⟩) ?_
         refine OD.nil ?_
         refine CD.cond ot (fun hc7 => ?_) (fun hc7 => ?_)
         ·have hc7' := hc7
          (try simp only [V.cnd, ne_eq] at hc7')
          have hsh : h < popsF l[i].k := by simpa using hc7
          have herr : opErr h l[i] = 7 := by unfold opErr; rw [if_neg hk1, if_neg (by rw [hlit]; simp), if_neg hform, if_neg hnn, if_pos hsh]
          refine CD.seq ?_
          refine CD.region ?_
          refine OD.still (wants_plain rfl) rfl (still_as rfl opd_const) ?_
          refine OD.wk (Wk.as_ (n := 73) (l' := [(2, _)]) (S' := [⟨b5, 40, 5, [_, _, _, _, _]⟩]) rfl rfl ⟨lk, trivial⟩) ?_
          refine OD.nil ?_
          refine CD.ret ?_
          refine ⟨.inr rfl, _, [], List.nil_sublist _, ret_one Tryd.results40 (res_tmp (Nat.le_of_ble_eq_true rfl) lk), ?_⟩
          refine ⟨vi ?_, rfl⟩
          first | exact hf.symm | (rw [hf, hx, exprL_no hlt herr (by first | assumption | decide)]; done) | (rw [hf, hend, if_pos (by simpa using hc8)]; done) | (rw [hf, hend, if_neg (by simpa using hc8)]; done)
         ·have hc7' := hc7
          (try simp only [V.cnd, ne_eq] at hc7')
          have hsh : ¬ h < popsF l[i].k := by simpa using hc7
          have hok : opErr h l[i] = 0 := by unfold opErr; rw [if_neg hk1, if_neg (by rw [hlit]; simp), if_neg hform, if_neg hnn, if_neg hsh]
          refine CD.skip ?_
          refine CD.region ?_
          refine OD.still (wants_plain rfl) rfl (still_mv rfl ot) ?_
          refine OD.still (wants_plain rfl) rfl (still_r1 (mk := fun y => Op.fieldAddr 40 y 0) rfl ot (by first | exact fa_ptr (off := 0) Tryd.runUnderlying40 rfl Tryd.sizeOf3 rfl | exact fa_iptr (off := 0) Tryd.runUnderlying40 rfl Tryd.sizeOf3 rfl)) ?_
          refine OD.still (wants_plain rfl) rfl (still_r1 (mk := Op.load 3) rfl ot (by first | exact ld_blk (k := 0) rfl rfl Tryd.isAgg3 rfl | exact ld_fm cO_len Tryd.isAgg3 (by first | assumption | omega) rfl | exact ld_fm0 cO_len Tryd.isAgg3 (by first | assumption | omega) rfl | exact ld_row (k := 0) cO_len rfl rfl rfl Tryd.isAgg3 (by first | assumption | omega) rfl | exact ld_row0 (k := 0) cO_len rfl rfl rfl Tryd.isAgg3 (by first | assumption | omega) rfl | exact ld_i Tryd.isAgg3 rfl)) ?_
          refine OD.callP (wants_plain rfl) rfl rfl rfl Tryd.call61 (pops_vp l[i].k) ⟨ot, trivial⟩ ?_
          refine OD.still (wants_plain rfl) rfl (still_bin rfl opd_const ot (bin_sub (wrap_i64 (by omega) (by omega)))) ?_
          refine OD.still (wants_plain rfl) rfl (still_bin rfl ot ot (bin_add (wrap_i64 (by omega) (by omega)))) ?_
          refine OD.still (wants_plain rfl) rfl (still_as rfl ot) ?_
          refine OD.wk (Wk.as_ (n := 73) (l' := [(3, _), (11, _), (12, _), (13, _)]) (S' := [⟨b5, 40, 5, [_, _, _, _, _]⟩]) rfl rfl ⟨lk, lk, lk, lk, trivial⟩) ?_
          refine OD.nil ?_
          refine CD.region ?_
          refine OD.still (wants_plain rfl) rfl (still_bin rfl ot opd_const (bin_add (wrap_i64 (by omega) (by omega)))) ?_
          refine OD.still (wants_plain rfl) rfl (still_mv rfl ot) ?_
          refine OD.wk (Wk.as_ (n := 73) (l' := [(3, _), (11, _), (12, _), (13, _)]) (S' := [⟨b5, 40, 5, [_, _, _, _, _]⟩]) rfl rfl ⟨lk, lk, lk, lk, trivial⟩) ?_
          refine OD.nil ?_
          refine ⟨((i + 1), (h + (1 - popsF l[i].k))), ⟨73, [(3, .v (.int .i64 ((h + (1 - popsF l[i].k))))), (11, .list 5 (l.flatMap cO) l.length), (12, .v (.int .i64 l.length)), (13, .v (.int .i64 (((i + 1)) : Nat)))], []⟩, ?_, Wk.asS (n := 73) rfl (by repeat (first | exact List.Sublist.refl _ | apply List.Sublist.cons)) ⟨(by (repeat (first | exact look_hit | (apply look_at; focus (first | rfl | (simp; done) | (congr 2; omega))) | (apply look_miss; focus rfl))); done), (by (repeat (first | exact look_hit | (apply look_at; focus (first | rfl | (simp; done) | (congr 2; omega))) | (apply look_miss; focus rfl))); done), (by (repeat (first | exact look_hit | (apply look_at; focus (first | rfl | (simp; done) | (congr 2; omega))) | (apply look_miss; focus rfl))); done), (by (repeat (first | exact look_hit | (apply look_at; focus (first | rfl | (simp; done) | (congr 2; omega))) | (apply look_miss; focus rfl))); done), trivial⟩, (by omega), (by rw [hx]; exact exprL_ok hlt hok), (by omega), (by have := pops_bd l[i].k; omega), rfl⟩
          first | omega | (simp only []; omega)
  ·have hc1' := hc1
   (try simp only [V.cnd, ne_eq] at hc1')
   have hend := hx.trans (exprL_end (show l.length ≤ i by omega))
   refine CD.exit ?_
   refine CD.seq ?_
   refine CD.seq ?_
   refine CD.region ?_
   refine OD.still (wants_plain rfl) rfl (still_mv rfl ot) ?_
   refine OD.still (wants_plain rfl) rfl (still_bin rfl ot opd_const bin_neq) ?_
   refine OD.wk (Wk.as_ (n := 73) (l' := [(72, _)]) (S' := []) rfl rfl ⟨lk, trivial⟩) ?_
   refine OD.nil ?_
   refine CD.cond ot (fun hc8 => ?_) (fun hc8 => ?_)
   ·have hc8' := hc8
    (try simp only [V.cnd, ne_eq] at hc8')
    refine CD.seq ?_
    refine CD.region ?_
    refine OD.still (wants_plain rfl) rfl (still_as rfl opd_const) ?_
    refine OD.wk (Wk.as_ (n := 73) (l' := [(2, _)]) (S' := []) rfl rfl ⟨lk, trivial⟩) ?_
    refine OD.nil ?_
    refine CD.ret ?_
    refine ⟨.inr rfl, _, [], List.nil_sublist _, ret_one Tryd.results40 (res_tmp (Nat.le_of_ble_eq_true rfl) lk), ?_⟩
    refine ⟨vi ?_, rfl⟩
    first | exact hf.symm | (rw [hf, hx, exprL_no hlt herr (by first | assumption | decide)]; done) | (rw [hf, hend, if_pos (by simpa using hc8)]; done) | (rw [hf, hend, if_neg (by simpa using hc8)]; done)
   ·have hc8' := hc8
    (try simp only [V.cnd, ne_eq] at hc8')
    refine CD.skip ?_
    refine CD.seq ?_
    refine CD.region ?_
    refine OD.still (wants_plain rfl) rfl (still_as rfl opd_const) ?_
    refine OD.wk (Wk.as_ (n := 73) (l' := [(2, _)]) (S' := []) rfl rfl ⟨lk, trivial⟩) ?_
    refine OD.nil ?_
    refine CD.ret ?_
    refine ⟨.inr rfl, _, [], List.nil_sublist _, ret_one Tryd.results40 (res_tmp (Nat.le_of_ble_eq_true rfl) lk), ?_⟩
    refine ⟨vi ?_, rfl⟩
    first | exact hf.symm | (rw [hf, hx, exprL_no hlt herr (by first | assumption | decide)]; done) | (rw [hf, hend, if_pos (by simpa using hc8)]; done) | (rw [hf, hend, if_neg (by simpa using hc8)]; done)

end Go.Proofs.YtfooincnmobemaaDoor.Nm

namespace Go.Proofs.YtfooincnmobemaaDoor.Nm
open Go.RowKit V Pk Vl
set_option linter.unusedVariables false
set_option linter.unusedSimpArgs false

inductive Tw where
 | mk (k n : Int) (s : ByteArray) (ts : List Tw)
mutual
def Tw.cs : Tw → List D
 | .mk k n s ts => [.v (.int .i64 k), .v (.int .i64 n), .v (.string s), .list 4 (Tw.css ts) ts.length]
def Tw.css : List Tw → List D
 | [] => []
 | t :: r => t.cs ++ Tw.css r
end
mutual
def Tw.Ok : Tw → Prop
 | .mk k n s ts => (-9223372036854775808 ≤ k ∧ k ≤ 9223372036854775807) ∧ (-9223372036854775808 ≤ n ∧ n ≤ 9223372036854775807) ∧ s.size ≤ maxLen ∧ ts.length ≤ maxLen ∧ Tw.Oks ts
def Tw.Oks : List Tw → Prop
 | [] => True
 | t :: r => t.Ok ∧ Tw.Oks r
end
def nameC (j : Int) : ByteArray := if j = 0 then ⟨#[105, 100]⟩ else if j = 1 then ⟨#[110]⟩ else if j = 2 then ⟨#[115]⟩ else ⟨#[98]⟩
def litV (n : Int) (s : ByteArray) : Vl := { valueF ⟨n, pickedF n 40 - 20, s⟩ with s := cutF (valueF ⟨n, pickedF n 40 - 20, s⟩).s 4 }
def litOp (n : Int) (s : ByteArray) : OpL := ⟨1, litV n s, ⟨#[]⟩⟩
def colOp (n : Int) : OpL := ⟨2, noVl, nameC (pickedF n 4)⟩
def bareOp (k : Int) : OpL := ⟨k, noVl, ⟨#[]⟩⟩
def leafOps (k n : Int) (s : ByteArray) : List OpL := if 1 + pickedF k 11 = 2 then [colOp n] else [litOp n s]
theorem leaf_len (k n : Int) (s : ByteArray) : (leafOps k n s).length = 1 := by unfold leafOps; split <;> rfl
variable {G : List (Nat × List Value)}
end Go.Proofs.YtfooincnmobemaaDoor.Nm

namespace Go.Proofs.YtfooincnmobemaaDoor.Nm
end Go.Proofs.YtfooincnmobemaaDoor.Nm


namespace Go.Proofs.YtfooincnmobemaaDoor.Nm
open Go.RowKit V Pk Vl
set_option linter.unusedVariables false
set_option linter.unusedSimpArgs false

def runs : Int → List OpL → Option Int
 | h, [] => some h
 | h, o :: r => if opErr h o = 0 then runs (h + (1 - popsF o.k)) r else none
theorem runs_append : ∀ (a b : List OpL) (h : Int), runs h (a ++ b) = (runs h a).bind fun h' => runs h' b
 | [], b, h => rfl
 | o :: r, b, h => by
  rw [List.cons_append, runs, runs]
  split
  ·exact runs_append r b _
  ·rfl
theorem exprL_runs : ∀ {a : List OpL} {h h' : Int} (b : List OpL), runs h a = some h' → exprL h (a ++ b) = exprL h' b
 | [], h, h', b, e => by cases e; rfl
 | o :: r, h, h', b, e => by
  rw [runs] at e
  split at e
  ·rename_i h0
   rw [List.cons_append, exprL, if_pos h0]
   exact exprL_runs b e
  ·cases e
theorem no_name : ((⟨#[]⟩ : ByteArray).toList == (⟨#[]⟩ : ByteArray).toList) = true := by simp
theorem zero_noVl : zeroV noVl = true := by unfold zeroV noVl; simp
theorem lit_noVl : litF noVl = 0 := by decide
theorem lit_litV (n : Int) (s : ByteArray) : litF (litV n s) = 0 := by
 have h1 := pickedF_bd n (by decide : (1 : Int) ≤ 40)
 have h2 := pickedF_bd (pickedF n 40 - 20) (by decide : (1 : Int) ≤ 2)
 have hc : (cutF (cutF s 10) 4).size ≤ 4 := by rw [cutF_size]; omega
 have he : cutF (⟨#[]⟩ : ByteArray) 4 = ByteArray.empty := str_ext (by rw [cutF_list]; rfl)
 unfold litF litV valueF
 split
 ·simp [checkV, he]; omega
 ·split
  ·simp [checkV, he]; omega
  ·split
   ·simp [checkV]; omega
   ·unfold noVl; simp [checkV, he]
theorem err_lit {h : Int} (h0 : 0 ≤ h) (n : Int) (s : ByteArray) : opErr h (litOp n s) = 0 := by
 unfold opErr litOp
 rw [lit_litV]
 simp [popsF]
 omega
theorem err_bare {h k : Int} (h1 : 3 ≤ k) (h2 : k ≤ 11) (hh : popsF k ≤ h) : opErr h (bareOp k) = 0 := by
 unfold opErr bareOp
 simp only [lit_noVl, zero_noVl, no_name]
 rw [if_neg (by omega), if_neg (by simp), if_neg (by simp), if_neg (by omega), if_neg (by omega)]
variable {G : List (Nat × List Value)}


end Go.Proofs.YtfooincnmobemaaDoor.Nm

namespace Go.Proofs.YtfooincnmobemaaDoor.V
open Go.RowKit
set_option linter.unusedVariables false
set_option linter.unusedSimpArgs false

variable {P : Program} {C : Ctx} {G : List (Nat × List Value)} {Q : Exit → St → Prop} {x : St} {ops : Array Oper} {l : List Oper} {o : Oper} {S1 T : List Nat} {fuel i : Nat} {ld : Array Bool}

theorem still_nslice {t e : TypeId} {sz : Nat} {y : Operand} {lo hi : Option Operand} (ho : o.op = .slice t y lo hi none) (hy : opd x y = .v (.slice none 0 0)) (hlo : bound x lo 0 0) (hhi : bound x hi 0 0)
  (hu : ∀ w, (underlying t).run P w = .ok (.slice e) w) (hs : ∀ w, (sizeOf e).run P w = .ok sz w) : Still P G x o .none (.v (.slice none 0 0)) := fun C a w _ h =>
 ⟨_, .v _, fun w' _ => by
  have b1 := bound_eval h hlo
  have b2 := bound_eval h hhi
  unfold execOp
  simp [ho, h.flat hy, Instr.sliceAt, Instr.slice, hu, run_sbounds b1 b2 (Nat.zero_le _) (Nat.le_refl _), hs]⟩

theorem OwnL.pos {e sz n cap : Nat} {cs : List D} {ad : Option Addr} {S : List Blk} (h : OwnL e sz cs n ad cap S) (hn : 0 < n) : ∃ b, ad = some ⟨b, 0, none⟩ ∧ n ≤ cap ∧ cap ≤ maxLen ∧ S = [⟨b, e, cap * sz, cs⟩] := by
 rcases h with ⟨h1, _, _, _, _⟩ | h
 ·omega
 ·exact h
/-- A list of one's own, sliced from its head on: the same row. -/
theorem still_oslice {t e e' : TypeId} {sz sz' n cap k : Nat} {ad : Option Addr} {cs : List D} {Sq : List Blk} {y : Operand} {lo hi : Option Operand} (ho : o.op = .slice t y lo hi none) (hy : opd x y = .v (.slice ad n cap)) (hlo : bound x lo 0 0) (hhi : bound x hi k n)
    (hu : ∀ w, (underlying t).run P w = .ok (.slice e) w) (hs : ∀ w, (sizeOf e).run P w = .ok sz w) (hk : k ≤ n) (hown : OwnL e' sz' cs n ad cap Sq) : Still P G x o .none (.v (.slice ad k cap)) := by
  rcases hown with ⟨h1, h2, rfl, rfl, rfl⟩ | ⟨b, rfl, h1, h2, rfl⟩
  · subst h1
    obtain rfl : k = 0 := by omega
    exact still_nslice ho hy hlo hhi hu hs
  · exact still_rslice ho hy hlo hhi hu hs (Nat.le_trans hk h1)

/-- Of a list of one's own no more is told than its head. -/
theorem CD.cutL {c : Code} {α : Type} {g : α → List D} {ls : List α} {ad : Option Addr} {e sz cap k : Nat} {Sq R : List Blk} (hg : ∀ a, (g a).length = sz) (hk : k ≤ ls.length)
    (hown : OwnL e sz (ls.flatMap g) ls.length ad cap Sq) (hp : x.S.Perm (Sq ++ R))
    (K : ∀ S', OwnL e sz ((ls.take k).flatMap g) (ls.take k).length ad cap S' → CD P C c ⟨x.n, x.env, S' ++ R⟩ Q) : CD P C c x Q := by
  have hkl : (ls.take k).length = k := by rw [List.length_take]; omega
  refine CD.perm hp ?_
  rcases hown with ⟨h1, h2, rfl, rfl, rfl⟩ | ⟨b, rfl, h1, h2, rfl⟩
  · have hl : ls = [] := List.eq_nil_of_length_eq_zero h1
    subst hl
    exact K [] (.inl ⟨by simp, by simp, rfl, rfl, rfl⟩)
  · refine CD.wk (Wk.shrink (n := x.n) (l := x.env) (k := 0) (cs' := (ls.take k).flatMap g) rfl ?_) ?_
    · rw [← fm_take hg ls]; exact List.take_prefix _ _
    · exact K [⟨b, e, cap * sz, (ls.take k).flatMap g⟩] (.inr ⟨b, rfl, by rw [hkl]; omega, h2, rfl⟩)

/-- append of structs onto a list of one's own, where the order is drawn. -/
theorem AStep.appendG {α : Type} {g : α → List D} {ls new : List α} {s y : Operand} {t e tt sz bytes cap : Nat} {ad : Option Addr} {z : Value} {Sq R : List Blk} (hg : ∀ a, (g a).length = sz) (hg1 : ∀ a, (g a).all one = true) (hi' : ops[i]? = some o) (hw : Wants ops x o true) (ho : o.op = .call { callee := .builtin .append, args := #[s, y], argTypes := #[t, t] }) (hd : o.dst = some tt)
    (ht : P.underlying t = some (.slice e)) (hi : (P.info? e).map (fun i => (i.zero, i.size, i.bytes)) = some (some z, sz, bytes)) (hzs : z.cells.size = sz) (hsz : 0 < sz)
    (hs : opd x s = .v (.slice ad ls.length cap)) (ho' : OwnL e sz (ls.flatMap g) ls.length ad cap Sq) (hp : x.S.Perm (Sq ++ R))
    (hy : opd x y = .list sz (new.flatMap g) new.length) (hm : 0 < new.length) (h63 : ls.length + new.length ≤ maxLen) (hbytes : (ls.length + new.length) * bytes ≤ 140737488355328)
    (K : ∀ b' cap', (ls ++ new).length ≤ cap' → cap' ≤ maxLen → AD P C ops S1 T fuel (ld.setIfInBounds i true) ⟨x.n, (tt, .v (.slice (some ⟨b', 0, none⟩) (ls ++ new).length cap')) :: x.env, ⟨b', e, cap' * sz, (ls ++ new).flatMap g⟩ :: R⟩ Q) (hne : isMap e = false := by rfl)
    (hT : ∀ b ∈ T, b ∈ bks R := by first | exact fun b hb => hb | (intro b hb; simp [bks] at hb ⊢; first | exact hb | exact .inl hb | (rcases hb with hb | hb <;> simp [hb]) | (rcases hb with hb | hb | hb <;> simp [hb]) | (rcases hb with hb | hb | hb | hb <;> simp [hb]) | (rcases hb with hb | hb | hb | hb | hb <;> simp [hb]) | (rcases hb with hb | hb | hb | hb | hb | hb <;> simp [hb]) | (rcases hb with hb | hb | hb | hb | hb | hb | hb <;> simp [hb]) | (rcases hb with hb | hb | hb | hb | hb | hb | hb | hb <;> simp [hb]))) : AStep P C ops S1 T fuel ld x Q i :=
  AStep.appendOwn (hne := hne) hi' hw ho hd ht hi hzs hsz hs ho' hp (fm_len hg ls) hy (fm_one hg1 new) hm h63 hbytes hT fun b' cap' h1 h2 => by
    have := K b' cap' (by rw [List.length_append]; exact h1) h2
    rw [List.length_append, List.flatMap_append] at this
    exact this
end Go.Proofs.YtfooincnmobemaaDoor.V
