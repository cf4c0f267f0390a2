/-
  What the proof of ParseFixed leans on, part 5 of 6: walks of the program's functions at the level of values, and plain facts of what they compute.
-/
import Derived.Test.YtjgekbmahhhokaaDoorPParseFixed4
namespace Go.Proofs.YtjgekbmahhhokaaDoor.Pa
open Go.RowKit V Pk Go.Proofs.YtjgekbmahhhokaaDoor.Vl Go.Proofs.YtjgekbmahhhokaaDoor.Nm
set_option linter.unusedVariables false
set_option linter.unusedSimpArgs false

variable {G : List (Nat × List Value)}
def typeS (k : Int) : ByteArray := typesN.getD k.toNat ⟨#[]⟩
theorem types_at {k : Int} (h1 : 1 ≤ k) (h2 : k ≤ 3) : typesC[0 + k.toNat * 1]? = some (.string (typeS k)) := by
 have h : k = 1 ∨ k = 2 ∨ k = 3 := by omega
 rcases h with rfl | rfl | rfl <;> rfl
def colT (c : ColL) : List Tk := [c.n, typeS c.k].map wordT
def endN : List ByteArray := [⟨#[66, 69, 71, 73, 78]⟩, ⟨#[67, 79, 77, 77, 73, 84]⟩, ⟨#[82, 79, 76, 76, 66, 65, 67, 75]⟩]
def showS (s : StL) : List Tk :=
 if s.kind = 1 then [⟨#[67, 82, 69, 65, 84, 69]⟩, ⟨#[84, 65, 66, 76, 69]⟩, s.table].map wordT ++ listL (s.cols.map colT)
 else if s.kind = 2 then [⟨#[68, 82, 79, 80]⟩, ⟨#[84, 65, 66, 76, 69]⟩, s.table].map wordT
 else if s.kind = 3 then [⟨#[73, 78, 83, 69, 82, 84]⟩, ⟨#[73, 78, 84, 79]⟩, s.table, ⟨#[86, 65, 76, 85, 69, 83]⟩].map wordT ++ listL (s.row.map showV)
 else if s.kind = 4 then showP s
 else if s.kind = 5 then [[⟨#[85, 80, 68, 65, 84, 69]⟩, s.table, ⟨#[83, 69, 84]⟩, s.set].map wordT, [markT ⟨#[61]⟩], showO s.to, showW s.wher].flatten
 else if s.kind = 6 then [⟨#[68, 69, 76, 69, 84, 69]⟩, ⟨#[70, 82, 79, 77]⟩, s.table].map wordT ++ showW s.wher
 else [endN.getD (s.kind - 7).toNat ⟨#[]⟩].map wordT
structure ShS (s : StL) : Prop where
 fin : FinS s
 k1 : 1 ≤ s.kind
 k9 : s.kind ≤ 9
 c : s.kind = 1 → ∀ c ∈ s.cols, 1 ≤ c.k ∧ c.k ≤ 3
 r : s.kind = 3 → ∀ v ∈ s.row, okV v
 w : s.kind = 4 ∨ s.kind = 5 ∨ s.kind = 6 → s.wher.length = 0 ∨ exprL 0 s.wher = 0
 t : s.kind = 5 → exprL 0 s.to = 0
theorem list_pos (ts : List (List Tk)) : 0 < (listL ts).length := by unfold listL; rw [List.length_append]; simp
theorem list_len {ts : List (List Tk)} (h : ∀ x ∈ ts, x.length ≤ 10) : (listL ts).length ≤ 2 + 11 * ts.length := by
 have h1 := pre_len h ts.length
 unfold listL; rw [List.length_append]; simp only [List.length_cons, List.length_nil]; omega
theorem colT_10 (l : List ColL) : ∀ x ∈ l.map colT, x.length ≤ 10 := fun x hx => by obtain ⟨c, _, rfl⟩ := List.mem_map.1 hx; show 2 ≤ 10; decide
theorem showV_10 (l : List Vl) : ∀ x ∈ l.map showV, x.length ≤ 10 := fun x hx => by obtain ⟨v, _, rfl⟩ := List.mem_map.1 hx; have := showV_len v; omega

theorem info24_Pe6 : (Tryd.prog.info? 24).map (fun i => (i.zero, i.size, i.bytes)) = some (some (.agg #[.int .i64 0, .string ⟨#[]⟩, .int .i64 0]), 3, 32) := by kernel_rfl

theorem info26_Pe6 : (Tryd.prog.info? 26).map (fun i => (i.zero, i.size, i.bytes)) = some (some (.slice none 0 0), 1, 24) := by kernel_rfl

set_option maxHeartbeats 4000000 in
set_option maxRecDepth 100000 in
theorem show_vp (hty : (1, typesC) ∈ G) (s : StL) (hs : ShS s) : VP Tryd.prog G 33 [.agg (cSt s)] (.list 3 ((showS s).flatMap cT) (showS s).length) := by
 refine VC.body Tryd.func33 rfl Tryd.ntmps33 le_ fun X0 w0 S00 => ?_
 have hmx : maxLen = 9223372036854775807 := rfl
 have hf := hs.fin
 have h6 := hf.ok.1
 have h6r := hf.ok.2.1
 have h40 := hf.ok.2.2.2.1
 have h40t := hf.ok.2.2.2.2
 have hwl := showW_len s.wher
 have hol := showO_len s.wher
 have hol2 := showO_len s.to
 have hcl := list_len (colT_10 s.cols)
 have hvl := list_len (showV_10 s.row)
 have pickp := showPick_vp (G := G) s hf
 rw [List.length_map] at hcl hvl
 unfold cSt at pickp
 unfold cSt
 refine sr_ ?_
 refine OD.box (ds := [_, _, _, _, _, _, _, _, _, _, _, _]) wp_ rfl rfl ot rfl rfl (fun b1 => ?_)
 refine om_ ?_
 refine on_ [(1, _)] [⟨b1, 32, 12, [_, _, _, _, _, _, _, _, _, _, _, _]⟩] ?_
 refine CD.seq ?_
 refine sr_ ?_
 refine os_ (fa_ 0) ?_
 refine os_ (still_r1 (mk := Op.load 3) rfl ot (by first | exact ld_blk (k := 0) rfl rfl Tryd.isAgg3 rfl | exact ld_fm cC_len Tryd.isAgg3 (by first | assumption | omega) rfl | exact ld_fm0 cC_len Tryd.isAgg3 (by first | assumption | omega) rfl | exact ld_fm cV_len Tryd.isAgg3 (by first | assumption | omega) rfl | exact ld_fm0 cV_len Tryd.isAgg3 (by first | assumption | omega) rfl | exact ld_fm cS_len Tryd.isAgg3 (by first | assumption | omega) rfl | exact ld_fm0 cS_len Tryd.isAgg3 (by first | assumption | omega) rfl | exact ld_row (k := 0) cC_len rfl rfl rfl Tryd.isAgg3 (by first | assumption | omega) rfl | exact ld_row0 (k := 0) cC_len rfl rfl rfl Tryd.isAgg3 (by first | assumption | omega) rfl | exact ld_row (k := 0) cV_len rfl rfl rfl Tryd.isAgg3 (by first | assumption | omega) rfl | exact ld_row0 (k := 0) cV_len rfl rfl rfl Tryd.isAgg3 (by first | assumption | omega) rfl | exact ld_row (k := 0) cS_len rfl rfl rfl Tryd.isAgg3 (by first | assumption | omega) rfl | exact ld_row0 (k := 0) cS_len rfl rfl rfl Tryd.isAgg3 (by first | assumption | omega) rfl | exact ld_i Tryd.isAgg3 rfl | exact ld_tab hty Tryd.isAgg3 (types_at hki.1 hki.2))) ?_
 refine on_ [(1, _), (10, _)] [⟨b1, 32, 12, [_, _, _, _, _, _, _, _, _, _, _, _]⟩] ?_
 refine CD.block ?_
 refine sr_ ?_
 refine os_ bn_ ?_
 refine om_ ?_
 refine nm_ [1, 10, 11] ?_
 refine CD.cond ot (fun hc0 => ?_) (fun hc0 => ?_)
 ·have hc0' := hc0
  (try simp only [V.cnd, ne_eq] at hc0')
  refine sr_ ?_
  refine om_ ?_
  refine nm_ [1, 3] ?_
  refine CD.seq ?_
  refine sr_ ?_
  refine os_ (fa_ 2) ?_
  refine os_ (still_r1 (mk := Op.load 27) rfl ot (by first | exact ld_blk (k := 0) rfl rfl Tryd.isAgg27 rfl | exact ld_fm cC_len Tryd.isAgg27 (by first | assumption | omega) rfl | exact ld_fm0 cC_len Tryd.isAgg27 (by first | assumption | omega) rfl | exact ld_fm cV_len Tryd.isAgg27 (by first | assumption | omega) rfl | exact ld_fm0 cV_len Tryd.isAgg27 (by first | assumption | omega) rfl | exact ld_fm cS_len Tryd.isAgg27 (by first | assumption | omega) rfl | exact ld_fm0 cS_len Tryd.isAgg27 (by first | assumption | omega) rfl | exact ld_row (k := 0) cC_len rfl rfl rfl Tryd.isAgg27 (by first | assumption | omega) rfl | exact ld_row0 (k := 0) cC_len rfl rfl rfl Tryd.isAgg27 (by first | assumption | omega) rfl | exact ld_row (k := 0) cV_len rfl rfl rfl Tryd.isAgg27 (by first | assumption | omega) rfl | exact ld_row0 (k := 0) cV_len rfl rfl rfl Tryd.isAgg27 (by first | assumption | omega) rfl | exact ld_row (k := 0) cS_len rfl rfl rfl Tryd.isAgg27 (by first | assumption | omega) rfl | exact ld_row0 (k := 0) cS_len rfl rfl rfl Tryd.isAgg27 (by first | assumption | omega) rfl | exact ld_i Tryd.isAgg27 rfl | exact ld_tab hty Tryd.isAgg27 (types_at hki.1 hki.2))) ?_
  refine os_ ln_ ?_
  refine om_ ?_
  refine OD.wk (Wk.as_ (n := 107) (l' := [(1, _), (3, _), (14, _), (15, _), (16, _)]) (S' := (⟨b1, 32, 12, [_, _, _, _, _, _, _, _, _, _, _, _]⟩ :: [])) rfl rfl sl_) ?_
  refine OD.nil ?_
  refine CD.block ?_
  refine lp_ (fun (gh__ : Nat × Option Addr × Nat × List Blk) y__ => match gh__ with | (i, adx, cpx, Sx) => (i ≤ s.cols.length) ∧ (OwnL 26 1 (((s.cols.take i).map colT).flatMap cK) ((s.cols.take i).map colT).length adx cpx Sx) ∧ y__ = (⟨107, [(1, .v (.pointer (some ⟨b1, 0, none⟩))), (3, .v (.slice adx ((s.cols.take i).map colT).length cpx)), (14, .list 2 (s.cols.flatMap cC) s.cols.length), (15, .v (.int .i64 (s.cols.length : Nat))), (16, .v (.int .i64 (i : Nat)))], ((⟨b1, 32, 12, [.v (.int .i64 s.kind), .v (.string s.table), .list 2 (s.cols.flatMap cC) s.cols.length, .list 3 (s.row.flatMap cV) s.row.length, .list 1 (s.names.flatMap cS) s.names.length, .v (.bool s.count), .list 5 (s.wher.flatMap cO) s.wher.length, .v (.string s.order), .v (.bool s.down), .v (.int .i64 s.limit), .v (.string s.set), .list 5 (s.to.flatMap cO) s.to.length]⟩ : Blk) :: Sx)⟩ : St)) (fun (gh__ : Nat × Option Addr × Nat × List Blk) => match gh__ with | (i, adx, cpx, Sx) => s.cols.length - i) (0, none, 0, []) ⟨(Nat.zero_le _), (OwnL.cast ownL_nil (by first | rfl | simp)), rfl⟩ (Wk.asS rfl su_ (by repeat (first | exact trivial | refine ⟨(by (repeat (first | exact look_hit | (apply look_at; focus (first | rfl | (simp; done) | (congr 2; omega) | (apply row_eq; exact map_step colT hlt) | (apply row_eq; simp; done))) | (apply look_miss; focus rfl))); done), ?_⟩))) ?_
  rintro ⟨i, adx, cpx, Sx⟩ _ ⟨hi, hox, rfl⟩
  refine sr_ ?_
  refine os_ bn_ ?_
  refine nm_ [1, 3, 14, 15, 16, 17] ?_
  refine CD.seq ?_
  refine CD.cond ot (fun hc1 => ?_) (fun hc1 => ?_)
  ·have hc1' := hc1
   (try simp only [V.cnd, ne_eq] at hc1')
   have hlt : i < s.cols.length := by simp at hc1; omega
   have hki := hs.c hc0' _ (List.getElem_mem hlt)
   refine CD.skip ?_
   refine CD.seq ?_
   refine CD.block ?_
   refine sr_ ?_
   refine os_ (ix_ 2 (h := by first | exact .l (j := i) rfl hlt | exact .r (j := i) rfl hlt)) ?_
   refine os_ (still_r1 (mk := Op.load 95) rfl ot (by first | exact ld_blks (k := 0) (ds := [_, _]) rfl rfl Tryd.isAgg95 Tryd.sizeOf95 rfl rfl | exact ld_fms cC_len Tryd.isAgg95 Tryd.sizeOf95 (by first | assumption | omega) | exact ld_fms cV_len Tryd.isAgg95 Tryd.sizeOf95 (by first | assumption | omega) | exact ld_fms cS_len Tryd.isAgg95 Tryd.sizeOf95 (by first | assumption | omega) | exact ld_rows (k := 0) cC_len rfl rfl rfl Tryd.isAgg95 Tryd.sizeOf95 (by first | assumption | omega) | exact ld_rows (k := 0) cV_len rfl rfl rfl Tryd.isAgg95 Tryd.sizeOf95 (by first | assumption | omega) | exact ld_rows (k := 0) cS_len rfl rfl rfl Tryd.isAgg95 Tryd.sizeOf95 (by first | assumption | omega) | exact ld_is (ds := [_, _]) Tryd.isAgg95 Tryd.sizeOf95 rfl rfl)) ?_
   refine OD.alloc (ds := [_, _]) wp_ rfl rfl Tryd.zeroValue95 rfl (fun b5 => ?_)
   refine ot_ 0 [_, _] Tryd.sizeOf95 ?_
   refine OD.wk (Wk.as_ (n := 107) (l' := [(1, _), (3, _), (5, _), (14, _), (15, _), (16, _)]) (S' := (⟨b5, 95, 2, [_, _]⟩ :: ⟨b1, 32, 12, [_, _, _, _, _, _, _, _, _, _, _, _]⟩ :: Sx)) rfl rfl sl_) ?_
   refine OD.nil ?_
   refine CD.draw (bks (List.take 2 _)) kr_ (fun _ h => (List.Sublist.map _ (List.take_sublist _ _)).subset h) ?_
   refine a0_ 0 rfl mv_ ?_
   refine a0_ 1 rfl (fa_ 0) ?_
   refine a0_ 2 rfl (still_r1 (mk := Op.load 9) rfl ot (by first | exact ld_blk (k := 0) rfl rfl Tryd.isAgg9 rfl | exact ld_fm cC_len Tryd.isAgg9 (by first | assumption | omega) rfl | exact ld_fm0 cC_len Tryd.isAgg9 (by first | assumption | omega) rfl | exact ld_fm cV_len Tryd.isAgg9 (by first | assumption | omega) rfl | exact ld_fm0 cV_len Tryd.isAgg9 (by first | assumption | omega) rfl | exact ld_fm cS_len Tryd.isAgg9 (by first | assumption | omega) rfl | exact ld_fm0 cS_len Tryd.isAgg9 (by first | assumption | omega) rfl | exact ld_row (k := 0) cC_len rfl rfl rfl Tryd.isAgg9 (by first | assumption | omega) rfl | exact ld_row0 (k := 0) cC_len rfl rfl rfl Tryd.isAgg9 (by first | assumption | omega) rfl | exact ld_row (k := 1) cC_len rfl rfl rfl Tryd.isAgg9 (by first | assumption | omega) rfl | exact ld_row0 (k := 1) cC_len rfl rfl rfl Tryd.isAgg9 (by first | assumption | omega) rfl | exact ld_row (k := 0) cV_len rfl rfl rfl Tryd.isAgg9 (by first | assumption | omega) rfl | exact ld_row0 (k := 0) cV_len rfl rfl rfl Tryd.isAgg9 (by first | assumption | omega) rfl | exact ld_row (k := 1) cV_len rfl rfl rfl Tryd.isAgg9 (by first | assumption | omega) rfl | exact ld_row0 (k := 1) cV_len rfl rfl rfl Tryd.isAgg9 (by first | assumption | omega) rfl | exact ld_row (k := 0) cS_len rfl rfl rfl Tryd.isAgg9 (by first | assumption | omega) rfl | exact ld_row0 (k := 0) cS_len rfl rfl rfl Tryd.isAgg9 (by first | assumption | omega) rfl | exact ld_row (k := 1) cS_len rfl rfl rfl Tryd.isAgg9 (by first | assumption | omega) rfl | exact ld_row0 (k := 1) cS_len rfl rfl rfl Tryd.isAgg9 (by first | assumption | omega) rfl | exact ld_i Tryd.isAgg9 rfl | exact ld_tab hty Tryd.isAgg9 (types_at hki.1 hki.2))) ?_
   refine a0_ 3 rfl (fa_ 1) ?_
   refine a0_ 4 rfl (still_r1 (mk := Op.load 3) rfl ot (by first | exact ld_blk (k := 0) rfl rfl Tryd.isAgg3 rfl | exact ld_fm cC_len Tryd.isAgg3 (by first | assumption | omega) rfl | exact ld_fm0 cC_len Tryd.isAgg3 (by first | assumption | omega) rfl | exact ld_fm cV_len Tryd.isAgg3 (by first | assumption | omega) rfl | exact ld_fm0 cV_len Tryd.isAgg3 (by first | assumption | omega) rfl | exact ld_fm cS_len Tryd.isAgg3 (by first | assumption | omega) rfl | exact ld_fm0 cS_len Tryd.isAgg3 (by first | assumption | omega) rfl | exact ld_row (k := 0) cC_len rfl rfl rfl Tryd.isAgg3 (by first | assumption | omega) rfl | exact ld_row0 (k := 0) cC_len rfl rfl rfl Tryd.isAgg3 (by first | assumption | omega) rfl | exact ld_row (k := 1) cC_len rfl rfl rfl Tryd.isAgg3 (by first | assumption | omega) rfl | exact ld_row0 (k := 1) cC_len rfl rfl rfl Tryd.isAgg3 (by first | assumption | omega) rfl | exact ld_row (k := 0) cV_len rfl rfl rfl Tryd.isAgg3 (by first | assumption | omega) rfl | exact ld_row0 (k := 0) cV_len rfl rfl rfl Tryd.isAgg3 (by first | assumption | omega) rfl | exact ld_row (k := 1) cV_len rfl rfl rfl Tryd.isAgg3 (by first | assumption | omega) rfl | exact ld_row0 (k := 1) cV_len rfl rfl rfl Tryd.isAgg3 (by first | assumption | omega) rfl | exact ld_row (k := 0) cS_len rfl rfl rfl Tryd.isAgg3 (by first | assumption | omega) rfl | exact ld_row0 (k := 0) cS_len rfl rfl rfl Tryd.isAgg3 (by first | assumption | omega) rfl | exact ld_row (k := 1) cS_len rfl rfl rfl Tryd.isAgg3 (by first | assumption | omega) rfl | exact ld_row0 (k := 1) cS_len rfl rfl rfl Tryd.isAgg3 (by first | assumption | omega) rfl | exact ld_i Tryd.isAgg3 rfl | exact ld_tab hty Tryd.isAgg3 (types_at hki.1 hki.2))) ?_
   refine a0_ 5 rfl (still_r2 (mk := Op.indexAddr 99) rfl opd_glob ot (by first | exact ix_arr Tryd.runUnderlying99 Tryd.sizeOf9 rfl (by first | assumption | omega) | exact ix_arr (j := Int.toNat _) Tryd.runUnderlying99 Tryd.sizeOf9 (Int.toNat_of_nonneg (by omega)).symm (by omega))) ?_
   refine a0_ 6 rfl (still_r1 (mk := Op.load 9) rfl ot (by first | exact ld_blk (k := 0) rfl rfl Tryd.isAgg9 rfl | exact ld_blk (k := 1) rfl rfl Tryd.isAgg9 rfl | exact ld_fm cC_len Tryd.isAgg9 (by first | assumption | omega) rfl | exact ld_fm0 cC_len Tryd.isAgg9 (by first | assumption | omega) rfl | exact ld_fm cV_len Tryd.isAgg9 (by first | assumption | omega) rfl | exact ld_fm0 cV_len Tryd.isAgg9 (by first | assumption | omega) rfl | exact ld_fm cS_len Tryd.isAgg9 (by first | assumption | omega) rfl | exact ld_fm0 cS_len Tryd.isAgg9 (by first | assumption | omega) rfl | exact ld_row (k := 0) cC_len rfl rfl rfl Tryd.isAgg9 (by first | assumption | omega) rfl | exact ld_row0 (k := 0) cC_len rfl rfl rfl Tryd.isAgg9 (by first | assumption | omega) rfl | exact ld_row (k := 1) cC_len rfl rfl rfl Tryd.isAgg9 (by first | assumption | omega) rfl | exact ld_row0 (k := 1) cC_len rfl rfl rfl Tryd.isAgg9 (by first | assumption | omega) rfl | exact ld_row (k := 0) cV_len rfl rfl rfl Tryd.isAgg9 (by first | assumption | omega) rfl | exact ld_row0 (k := 0) cV_len rfl rfl rfl Tryd.isAgg9 (by first | assumption | omega) rfl | exact ld_row (k := 1) cV_len rfl rfl rfl Tryd.isAgg9 (by first | assumption | omega) rfl | exact ld_row0 (k := 1) cV_len rfl rfl rfl Tryd.isAgg9 (by first | assumption | omega) rfl | exact ld_row (k := 0) cS_len rfl rfl rfl Tryd.isAgg9 (by first | assumption | omega) rfl | exact ld_row0 (k := 0) cS_len rfl rfl rfl Tryd.isAgg9 (by first | assumption | omega) rfl | exact ld_row (k := 1) cS_len rfl rfl rfl Tryd.isAgg9 (by first | assumption | omega) rfl | exact ld_row0 (k := 1) cS_len rfl rfl rfl Tryd.isAgg9 (by first | assumption | omega) rfl | exact ld_i Tryd.isAgg9 rfl | exact ld_tab hty Tryd.isAgg9 (types_at hki.1 hki.2))) ?_
   refine AD0.later rfl ?_
   refine AD.one (i := 7) kr_ ?_
   refine ab_ (numD 0 [_, _]) [.string ⟨#[]⟩, .string ⟨#[]⟩] [_, _] Tryd.zeroValue9 Tryd.runUnderlying29 Tryd.sizeOf9 (fun b27 => ?_)
   refine ag_ 0 27 1 2 ?_
   refine AD.one (i := 8) kr_ ?_
   refine ac_ Tryd.call53 (all_vp [s.cols[i].n, typeS s.cols[i].k] (by show 2 ≤ 10; decide)) ?_
   refine AD.one (i := 9) kr_ ?_
   refine ab_ (numD 0 [_]) [.slice none 0 0] [_] Tryd.zeroValue26 Tryd.runUnderlying97 Tryd.sizeOf26 (fun b29 => ?_)
   refine ag_ 0 29 1 1 ?_
   refine AD.one (i := 10) kr_ ?_
   refine AStep.appendOwn (Sq := Sx) (R := [_, _]) rfl wp_ rfl rfl Tryd.underlying97 info26_Pe6 rfl (by decide) ot hox (List.perm_append_comm (l₁ := [_, _])) (fm_len cK_len _) ot (fm_one cK_one [colT s.cols[i]]) (by decide) (by rw [List.length_map, List.length_take]; simp only [maxLen]; omega) (by rw [List.length_map, List.length_take]; omega) bk_ (fun b30 cp30 h130 h230 => ?_)
   refine AD.perm (perm_q11 (S1 := [⟨b30, 26, cp30 * 1, List.flatMap cK ((s.cols.take i).map colT) ++ List.flatMap cK [colT s.cols[i]]⟩]) (A := [_, _])) ?_
   rw [show List.flatMap cK ((s.cols.take i).map colT) ++ List.flatMap cK [colT s.cols[i]] = List.flatMap cK ((s.cols.take i).map colT ++ [colT s.cols[i]]) from List.flatMap_append.symm, show ((s.cols.take i).map colT).length + 1 = ((s.cols.take i).map colT ++ [colT s.cols[i]]).length from by rw [List.length_append]; rfl]
   refine a1_ 11 rfl mv_ ?_
   refine AD.wk (y := ⟨107, [(1, _), (3, _), (14, _), (15, _), (16, _)], (⟨b5, 95, 2, [_, _]⟩ :: ⟨b1, 32, 12, [_, _, _, _, _, _, _, _, _, _, _, _]⟩ :: [⟨b30, 26, cp30 * 1, List.flatMap cK ((s.cols.take i).map colT ++ [colT s.cols[i]])⟩])⟩) (Wk.as_ rfl rfl sl_) rfl ?_
   refine AD.done kr_ ?_
   refine CD.region ?_
   refine os_ bn_ ?_
   refine om_ ?_
   refine nm_ [1, 3, 14, 15, 16] ?_
   refine ⟨((i + 1), (some ⟨b30, 0, none⟩), cp30, [⟨b30, 26, cp30 * 1, List.flatMap cK ((s.cols.take i).map colT ++ [colT s.cols[i]])⟩]), _, ?_, ?_, (by omega), (OwnL.cast (ownL_row (by rw [List.length_append]; exact h130) h230) (by exact map_step colT hlt)), rfl⟩
   ·first | omega | (simp only []; omega)
   exact Wk.asS (n := 107) rfl su_ (by repeat (first | exact trivial | refine ⟨(by (repeat (first | exact look_hit | (apply look_at; focus (first | rfl | (simp; done) | (congr 2; omega) | (apply row_eq; exact map_step colT hlt) | (apply row_eq; simp; done))) | (apply look_miss; focus rfl))); done), ?_⟩))
  have hc1' := hc1
  (try simp only [V.cnd, ne_eq] at hc1')
  have hend := map_end colT (show s.cols.length ≤ i by simp at hc1; omega)
  have hlv := list_vp (G := G) (s.cols.map colT) (by rw [List.length_map]; omega) (colT_10 s.cols)
  rw [← hend] at hlv hcl
  refine CD.exit ?_
  refine sr_ ?_
  refine os_ (fa_ 1) ?_
  refine os_ (still_r1 (mk := Op.load 9) rfl ot (by first | exact ld_blk (k := 0) rfl rfl Tryd.isAgg9 rfl | exact ld_fm cC_len Tryd.isAgg9 (by first | assumption | omega) rfl | exact ld_fm0 cC_len Tryd.isAgg9 (by first | assumption | omega) rfl | exact ld_fm cV_len Tryd.isAgg9 (by first | assumption | omega) rfl | exact ld_fm0 cV_len Tryd.isAgg9 (by first | assumption | omega) rfl | exact ld_fm cS_len Tryd.isAgg9 (by first | assumption | omega) rfl | exact ld_fm0 cS_len Tryd.isAgg9 (by first | assumption | omega) rfl | exact ld_row (k := 0) cC_len rfl rfl rfl Tryd.isAgg9 (by first | assumption | omega) rfl | exact ld_row0 (k := 0) cC_len rfl rfl rfl Tryd.isAgg9 (by first | assumption | omega) rfl | exact ld_row (k := 0) cV_len rfl rfl rfl Tryd.isAgg9 (by first | assumption | omega) rfl | exact ld_row0 (k := 0) cV_len rfl rfl rfl Tryd.isAgg9 (by first | assumption | omega) rfl | exact ld_row (k := 0) cS_len rfl rfl rfl Tryd.isAgg9 (by first | assumption | omega) rfl | exact ld_row0 (k := 0) cS_len rfl rfl rfl Tryd.isAgg9 (by first | assumption | omega) rfl | exact ld_i Tryd.isAgg9 rfl | exact ld_tab hty Tryd.isAgg9 (types_at hki.1 hki.2))) ?_
  refine ob_ (numD 0 [_, _, _]) [.string ⟨#[]⟩, .string ⟨#[]⟩, .string ⟨#[]⟩] [_, _, _] Tryd.zeroValue9 Tryd.runUnderlying29 Tryd.sizeOf9 (fun b34 => ?_)
  refine OD.perm (perm_q22 (S2 := [⟨b34, 9, 3 * 1, List.flatMap cS ([⟨#[67, 82, 69, 65, 84, 69]⟩, ⟨#[84, 65, 66, 76, 69]⟩, s.table])⟩]) (A := [_])) ?_
  refine OD.giveL (t := 34) (Sq := [⟨b34, 9, 3 * 1, List.flatMap cS ([⟨#[67, 82, 69, 65, 84, 69]⟩, ⟨#[84, 65, 66, 76, 69]⟩, s.table])⟩]) lk (ownL_row (g := cS) (sz := 1) (e := 9) (ls := [⟨#[67, 82, 69, 65, 84, 69]⟩, ⟨#[84, 65, 66, 76, 69]⟩, s.table]) (Nat.le_refl _) (show 3 ≤ maxLen by decide)) (fm_len cS_len _) (perm_r22 (A := [_])) ?_
  refine OD.call wp_ rfl rfl rfl Tryd.call53 (all_vc [⟨#[67, 82, 69, 65, 84, 69]⟩, ⟨#[84, 65, 66, 76, 69]⟩, s.table] (by show 3 ≤ 10; decide)) ⟨ot, trivial⟩ (perm_none _) ?_; rintro _ S35 ⟨ad35, cp35, rfl, ho35⟩
  refine OD.perm (perm_q22 (A := [_])) ?_
  refine om_ ?_
  refine OD.giveL (t := 36) (Sq := Sx) lk hox (fm_len cK_len _) (perm_r12 (A := [_])) ?_
  refine oc_ Tryd.call54 (hlv) ?_
  refine OD.appendG (ls := ([⟨#[67, 82, 69, 65, 84, 69]⟩, ⟨#[84, 65, 66, 76, 69]⟩, s.table].map wordT)) (new := (listL ((s.cols.take i).map colT))) (Sq := S35) cT_len cT_one wp_ rfl rfl Tryd.underlying26 info24_Pe6 rfl (by decide) ot ho35 (perm_r11 (A := [_])) ot (list_pos _) (by simp only [maxLen, List.length_append, List.length_map, List.length_cons, List.length_nil]; omega) (by simp only [List.length_append, List.length_map, List.length_cons, List.length_nil]; omega) (fun b38 cp38 h138 h238 => ?_)
  refine OD.perm (perm_q11 (S1 := [⟨b38, 24, cp38 * 3, List.flatMap cT (([⟨#[67, 82, 69, 65, 84, 69]⟩, ⟨#[84, 65, 66, 76, 69]⟩, s.table].map wordT) ++ (listL ((s.cols.take i).map colT)))⟩]) (A := [_])) ?_
  refine om_ ?_
  refine OD.wk (Wk.as_ (n := 107) (l' := [(2, _)]) (S' := (⟨b1, 32, 12, [_, _, _, _, _, _, _, _, _, _, _, _]⟩ :: [⟨b38, 24, cp38 * 3, List.flatMap cT (([⟨#[67, 82, 69, 65, 84, 69]⟩, ⟨#[84, 65, 66, 76, 69]⟩, s.table].map wordT) ++ (listL ((s.cols.take i).map colT)))⟩])) rfl rfl sl_) ?_
  refine OD.nil ?_
  refine CD.giveL (t := 2) (Sq := [⟨b38, 24, cp38 * 3, List.flatMap cT (([⟨#[67, 82, 69, 65, 84, 69]⟩, ⟨#[84, 65, 66, 76, 69]⟩, s.table].map wordT) ++ (listL ((s.cols.take i).map colT)))⟩]) lk (ownL_row h138 h238) (fm_len cT_len _) (perm_r11 (A := [_])) ?_
  refine CD.ret ?_
  refine ⟨.inr rfl, rt_ Tryd.results33 ?_⟩
  refine ⟨?_, rfl⟩; unfold showS; rw [if_pos hc0', ← hend]
 have hc0' := hc0
 (try simp only [V.cnd, ne_eq] at hc0')
 refine sr_ ?_
 refine os_ bn_ ?_
 refine om_ ?_
 refine nm_ [1, 10, 39] ?_
 refine CD.cond ot (fun hc2 => ?_) (fun hc2 => ?_)
 ·have hc2' := hc2
  (try simp only [V.cnd, ne_eq] at hc2')
  refine sr_ ?_
  refine os_ (fa_ 1) ?_
  refine os_ (still_r1 (mk := Op.load 9) rfl ot (by first | exact ld_blk (k := 0) rfl rfl Tryd.isAgg9 rfl | exact ld_fm cC_len Tryd.isAgg9 (by first | assumption | omega) rfl | exact ld_fm0 cC_len Tryd.isAgg9 (by first | assumption | omega) rfl | exact ld_fm cV_len Tryd.isAgg9 (by first | assumption | omega) rfl | exact ld_fm0 cV_len Tryd.isAgg9 (by first | assumption | omega) rfl | exact ld_fm cS_len Tryd.isAgg9 (by first | assumption | omega) rfl | exact ld_fm0 cS_len Tryd.isAgg9 (by first | assumption | omega) rfl | exact ld_row (k := 0) cC_len rfl rfl rfl Tryd.isAgg9 (by first | assumption | omega) rfl | exact ld_row0 (k := 0) cC_len rfl rfl rfl Tryd.isAgg9 (by first | assumption | omega) rfl | exact ld_row (k := 0) cV_len rfl rfl rfl Tryd.isAgg9 (by first | assumption | omega) rfl | exact ld_row0 (k := 0) cV_len rfl rfl rfl Tryd.isAgg9 (by first | assumption | omega) rfl | exact ld_row (k := 0) cS_len rfl rfl rfl Tryd.isAgg9 (by first | assumption | omega) rfl | exact ld_row0 (k := 0) cS_len rfl rfl rfl Tryd.isAgg9 (by first | assumption | omega) rfl | exact ld_i Tryd.isAgg9 rfl | exact ld_tab hty Tryd.isAgg9 (types_at hki.1 hki.2))) ?_
  refine ob_ (numD 0 [_, _, _]) [.string ⟨#[]⟩, .string ⟨#[]⟩, .string ⟨#[]⟩] [_, _, _] Tryd.zeroValue9 Tryd.runUnderlying29 Tryd.sizeOf9 (fun b43 => ?_)
  refine OD.perm (perm_q11 (S1 := [⟨b43, 9, 3 * 1, List.flatMap cS ([⟨#[68, 82, 79, 80]⟩, ⟨#[84, 65, 66, 76, 69]⟩, s.table])⟩]) (A := [_])) ?_
  refine OD.giveL (t := 43) (Sq := [⟨b43, 9, 3 * 1, List.flatMap cS ([⟨#[68, 82, 79, 80]⟩, ⟨#[84, 65, 66, 76, 69]⟩, s.table])⟩]) lk (ownL_row (g := cS) (sz := 1) (e := 9) (ls := [⟨#[68, 82, 79, 80]⟩, ⟨#[84, 65, 66, 76, 69]⟩, s.table]) (Nat.le_refl _) (show 3 ≤ maxLen by decide)) (fm_len cS_len _) (perm_r11 (A := [_])) ?_
  refine oc_ Tryd.call53 (all_vp [⟨#[68, 82, 79, 80]⟩, ⟨#[84, 65, 66, 76, 69]⟩, s.table] (by show 3 ≤ 10; decide)) ?_
  refine om_ ?_
  refine on_ [(2, _)] [⟨b1, 32, 12, [_, _, _, _, _, _, _, _, _, _, _, _]⟩] ?_
  refine CD.ret ?_
  refine ⟨.inr rfl, rt_ Tryd.results33 ?_⟩
  refine ⟨?_, rfl⟩; unfold showS; rw [if_neg hc0', if_pos hc2']
 have hc2' := hc2
 (try simp only [V.cnd, ne_eq] at hc2')
 refine sr_ ?_
 refine os_ bn_ ?_
 refine om_ ?_
 refine nm_ [1, 10, 45] ?_
 refine CD.cond ot (fun hc3 => ?_) (fun hc3 => ?_)
 ·have hc3' := hc3
  (try simp only [V.cnd, ne_eq] at hc3')
  refine sr_ ?_
  refine om_ ?_
  refine nm_ [1, 6] ?_
  refine CD.seq ?_
  refine sr_ ?_
  refine os_ (fa_ 3) ?_
  refine os_ (still_r1 (mk := Op.load 28) rfl ot (by first | exact ld_blk (k := 0) rfl rfl Tryd.isAgg28 rfl | exact ld_fm cC_len Tryd.isAgg28 (by first | assumption | omega) rfl | exact ld_fm0 cC_len Tryd.isAgg28 (by first | assumption | omega) rfl | exact ld_fm cV_len Tryd.isAgg28 (by first | assumption | omega) rfl | exact ld_fm0 cV_len Tryd.isAgg28 (by first | assumption | omega) rfl | exact ld_fm cS_len Tryd.isAgg28 (by first | assumption | omega) rfl | exact ld_fm0 cS_len Tryd.isAgg28 (by first | assumption | omega) rfl | exact ld_row (k := 0) cC_len rfl rfl rfl Tryd.isAgg28 (by first | assumption | omega) rfl | exact ld_row0 (k := 0) cC_len rfl rfl rfl Tryd.isAgg28 (by first | assumption | omega) rfl | exact ld_row (k := 0) cV_len rfl rfl rfl Tryd.isAgg28 (by first | assumption | omega) rfl | exact ld_row0 (k := 0) cV_len rfl rfl rfl Tryd.isAgg28 (by first | assumption | omega) rfl | exact ld_row (k := 0) cS_len rfl rfl rfl Tryd.isAgg28 (by first | assumption | omega) rfl | exact ld_row0 (k := 0) cS_len rfl rfl rfl Tryd.isAgg28 (by first | assumption | omega) rfl | exact ld_i Tryd.isAgg28 rfl | exact ld_tab hty Tryd.isAgg28 (types_at hki.1 hki.2))) ?_
  refine os_ ln_ ?_
  refine om_ ?_
  refine OD.wk (Wk.as_ (n := 107) (l' := [(1, _), (6, _), (48, _), (49, _), (50, _)]) (S' := (⟨b1, 32, 12, [_, _, _, _, _, _, _, _, _, _, _, _]⟩ :: [])) rfl rfl sl_) ?_
  refine OD.nil ?_
  refine CD.block ?_
  refine lp_ (fun (gh__ : Nat × Option Addr × Nat × List Blk) y__ => match gh__ with | (i, adv, cpv, Sv) => (i ≤ s.row.length) ∧ (OwnL 26 1 (((s.row.take i).map showV).flatMap cK) ((s.row.take i).map showV).length adv cpv Sv) ∧ y__ = (⟨107, [(1, .v (.pointer (some ⟨b1, 0, none⟩))), (6, .v (.slice adv ((s.row.take i).map showV).length cpv)), (48, .list 3 (s.row.flatMap cV) s.row.length), (49, .v (.int .i64 (s.row.length : Nat))), (50, .v (.int .i64 (i : Nat)))], ((⟨b1, 32, 12, [.v (.int .i64 s.kind), .v (.string s.table), .list 2 (s.cols.flatMap cC) s.cols.length, .list 3 (s.row.flatMap cV) s.row.length, .list 1 (s.names.flatMap cS) s.names.length, .v (.bool s.count), .list 5 (s.wher.flatMap cO) s.wher.length, .v (.string s.order), .v (.bool s.down), .v (.int .i64 s.limit), .v (.string s.set), .list 5 (s.to.flatMap cO) s.to.length]⟩ : Blk) :: Sv)⟩ : St)) (fun (gh__ : Nat × Option Addr × Nat × List Blk) => match gh__ with | (i, adv, cpv, Sv) => s.row.length - i) (0, none, 0, []) ⟨(Nat.zero_le _), (OwnL.cast ownL_nil (by first | rfl | simp)), rfl⟩ (Wk.asS rfl su_ (by repeat (first | exact trivial | refine ⟨(by (repeat (first | exact look_hit | (apply look_at; focus (first | rfl | (simp; done) | (congr 2; omega) | (apply row_eq; exact map_step showV hlt) | (apply row_eq; simp; done))) | (apply look_miss; focus rfl))); done), ?_⟩))) ?_
  rintro ⟨i, adv, cpv, Sv⟩ _ ⟨hi, hov, rfl⟩
  refine sr_ ?_
  refine os_ bn_ ?_
  refine nm_ [1, 6, 48, 49, 50, 51] ?_
  refine CD.seq ?_
  refine CD.cond ot (fun hc4 => ?_) (fun hc4 => ?_)
  ·have hc4' := hc4
   (try simp only [V.cnd, ne_eq] at hc4')
   have hlt : i < s.row.length := by simp at hc4; omega
   refine CD.skip ?_
   refine CD.seq ?_
   refine CD.block ?_
   refine sr_ ?_
   refine os_ (ix_ 3 (h := by first | exact .l (j := i) rfl hlt | exact .r (j := i) rfl hlt)) ?_
   refine os_ (still_r1 (mk := Op.load 37) rfl ot (by first | exact ld_blks (k := 0) (ds := [_, _, _]) rfl rfl Tryd.isAgg37 Tryd.sizeOf37 rfl rfl | exact ld_fms cC_len Tryd.isAgg37 Tryd.sizeOf37 (by first | assumption | omega) | exact ld_fms cV_len Tryd.isAgg37 Tryd.sizeOf37 (by first | assumption | omega) | exact ld_fms cS_len Tryd.isAgg37 Tryd.sizeOf37 (by first | assumption | omega) | exact ld_rows (k := 0) cC_len rfl rfl rfl Tryd.isAgg37 Tryd.sizeOf37 (by first | assumption | omega) | exact ld_rows (k := 0) cV_len rfl rfl rfl Tryd.isAgg37 Tryd.sizeOf37 (by first | assumption | omega) | exact ld_rows (k := 0) cS_len rfl rfl rfl Tryd.isAgg37 Tryd.sizeOf37 (by first | assumption | omega) | exact ld_is (ds := [_, _, _]) Tryd.isAgg37 Tryd.sizeOf37 rfl rfl)) ?_
   refine OD.alloc (ds := [_, _, _]) wp_ rfl rfl Tryd.zeroValue37 rfl (fun b8 => ?_)
   refine ot_ 0 [_, _, _] Tryd.sizeOf37 ?_
   refine OD.wk (Wk.as_ (n := 107) (l' := [(1, _), (6, _), (8, _), (48, _), (49, _), (50, _)]) (S' := (⟨b8, 37, 3, [_, _, _]⟩ :: ⟨b1, 32, 12, [_, _, _, _, _, _, _, _, _, _, _, _]⟩ :: Sv)) rfl rfl sl_) ?_
   refine OD.nil ?_
   refine CD.region ?_
   refine om_ ?_
   refine os_ (still_r1 (mk := Op.load 37) rfl ot (by first | exact ld_blks (k := 0) (ds := [_, _, _]) rfl rfl Tryd.isAgg37 Tryd.sizeOf37 rfl rfl | exact ld_fms cC_len Tryd.isAgg37 Tryd.sizeOf37 (by first | assumption | omega) | exact ld_fms cV_len Tryd.isAgg37 Tryd.sizeOf37 (by first | assumption | omega) | exact ld_fms cS_len Tryd.isAgg37 Tryd.sizeOf37 (by first | assumption | omega) | exact ld_rows (k := 0) cC_len rfl rfl rfl Tryd.isAgg37 Tryd.sizeOf37 (by first | assumption | omega) | exact ld_rows (k := 1) cC_len rfl rfl rfl Tryd.isAgg37 Tryd.sizeOf37 (by first | assumption | omega) | exact ld_rows (k := 0) cV_len rfl rfl rfl Tryd.isAgg37 Tryd.sizeOf37 (by first | assumption | omega) | exact ld_rows (k := 1) cV_len rfl rfl rfl Tryd.isAgg37 Tryd.sizeOf37 (by first | assumption | omega) | exact ld_rows (k := 0) cS_len rfl rfl rfl Tryd.isAgg37 Tryd.sizeOf37 (by first | assumption | omega) | exact ld_rows (k := 1) cS_len rfl rfl rfl Tryd.isAgg37 Tryd.sizeOf37 (by first | assumption | omega) | exact ld_is (ds := [_, _, _]) Tryd.isAgg37 Tryd.sizeOf37 rfl rfl)) ?_
   refine oc_ Tryd.call55 (showValue_vp s.row[i] (hs.r hc3' _ (List.getElem_mem hlt))) ?_
   refine ob_ (numD 0 [_]) [.slice none 0 0] [_] Tryd.zeroValue26 Tryd.runUnderlying97 Tryd.sizeOf26 (fun b57 => ?_)
   refine og_ 0 57 1 1 ?_
   refine OD.appendG (ls := ((s.row.take i).map showV)) (new := [showV s.row[i]]) (Sq := Sv) cK_len cK_one wp_ rfl rfl Tryd.underlying97 info26_Pe6 rfl (by decide) ot hov (perm_r11 (A := [_, _])) ot (by simp) (by simp only [maxLen, List.length_map, List.length_take, List.length_cons, List.length_nil]; omega) (by simp only [List.length_map, List.length_take, List.length_cons, List.length_nil]; omega) (fun b58 cp58 h158 h258 => ?_)
   refine OD.perm (perm_q11 (S1 := [⟨b58, 26, cp58 * 1, List.flatMap cK (((s.row.take i).map showV) ++ [showV s.row[i]])⟩]) (A := [_, _])) ?_
   refine om_ ?_
   refine OD.wk (Wk.as_ (n := 107) (l' := [(1, _), (6, _), (48, _), (49, _), (50, _)]) (S' := (⟨b8, 37, 3, [_, _, _]⟩ :: ⟨b1, 32, 12, [_, _, _, _, _, _, _, _, _, _, _, _]⟩ :: [⟨b58, 26, cp58 * 1, List.flatMap cK (((s.row.take i).map showV) ++ [showV s.row[i]])⟩])) rfl rfl sl_) ?_
   refine OD.nil ?_
   refine CD.region ?_
   refine os_ bn_ ?_
   refine om_ ?_
   refine nm_ [1, 6, 48, 49, 50] ?_
   refine ⟨((i + 1), (some ⟨b58, 0, none⟩), cp58, [⟨b58, 26, cp58 * 1, List.flatMap cK (((s.row.take i).map showV) ++ [showV s.row[i]])⟩]), _, ?_, ?_, (by omega), (OwnL.cast (ownL_row h158 h258) (by exact map_step showV hlt)), rfl⟩
   ·first | omega | (simp only []; omega)
   exact Wk.asS (n := 107) rfl su_ (by repeat (first | exact trivial | refine ⟨(by (repeat (first | exact look_hit | (apply look_at; focus (first | rfl | (simp; done) | (congr 2; omega) | (apply row_eq; exact map_step showV hlt) | (apply row_eq; simp; done))) | (apply look_miss; focus rfl))); done), ?_⟩))
  have hc4' := hc4
  (try simp only [V.cnd, ne_eq] at hc4')
  have hend3 := map_end showV (show s.row.length ≤ i by simp at hc4; omega)
  have hlv := list_vp (G := G) (s.row.map showV) (by rw [List.length_map]; omega) (showV_10 s.row)
  rw [← hend3] at hlv hvl
  refine CD.exit ?_
  refine sr_ ?_
  refine os_ (fa_ 1) ?_
  refine os_ (still_r1 (mk := Op.load 9) rfl ot (by first | exact ld_blk (k := 0) rfl rfl Tryd.isAgg9 rfl | exact ld_fm cC_len Tryd.isAgg9 (by first | assumption | omega) rfl | exact ld_fm0 cC_len Tryd.isAgg9 (by first | assumption | omega) rfl | exact ld_fm cV_len Tryd.isAgg9 (by first | assumption | omega) rfl | exact ld_fm0 cV_len Tryd.isAgg9 (by first | assumption | omega) rfl | exact ld_fm cS_len Tryd.isAgg9 (by first | assumption | omega) rfl | exact ld_fm0 cS_len Tryd.isAgg9 (by first | assumption | omega) rfl | exact ld_row (k := 0) cC_len rfl rfl rfl Tryd.isAgg9 (by first | assumption | omega) rfl | exact ld_row0 (k := 0) cC_len rfl rfl rfl Tryd.isAgg9 (by first | assumption | omega) rfl | exact ld_row (k := 0) cV_len rfl rfl rfl Tryd.isAgg9 (by first | assumption | omega) rfl | exact ld_row0 (k := 0) cV_len rfl rfl rfl Tryd.isAgg9 (by first | assumption | omega) rfl | exact ld_row (k := 0) cS_len rfl rfl rfl Tryd.isAgg9 (by first | assumption | omega) rfl | exact ld_row0 (k := 0) cS_len rfl rfl rfl Tryd.isAgg9 (by first | assumption | omega) rfl | exact ld_i Tryd.isAgg9 rfl | exact ld_tab hty Tryd.isAgg9 (types_at hki.1 hki.2))) ?_
  refine ob_ (numD 0 [_, _, _, _]) [.string ⟨#[]⟩, .string ⟨#[]⟩, .string ⟨#[]⟩, .string ⟨#[]⟩] [_, _, _, _] Tryd.zeroValue9 Tryd.runUnderlying29 Tryd.sizeOf9 (fun b62 => ?_)
  refine OD.perm (perm_q22 (S2 := [⟨b62, 9, 4 * 1, List.flatMap cS ([⟨#[73, 78, 83, 69, 82, 84]⟩, ⟨#[73, 78, 84, 79]⟩, s.table, ⟨#[86, 65, 76, 85, 69, 83]⟩])⟩]) (A := [_])) ?_
  refine OD.giveL (t := 62) (Sq := [⟨b62, 9, 4 * 1, List.flatMap cS ([⟨#[73, 78, 83, 69, 82, 84]⟩, ⟨#[73, 78, 84, 79]⟩, s.table, ⟨#[86, 65, 76, 85, 69, 83]⟩])⟩]) lk (ownL_row (g := cS) (sz := 1) (e := 9) (ls := [⟨#[73, 78, 83, 69, 82, 84]⟩, ⟨#[73, 78, 84, 79]⟩, s.table, ⟨#[86, 65, 76, 85, 69, 83]⟩]) (Nat.le_refl _) (show 4 ≤ maxLen by decide)) (fm_len cS_len _) (perm_r22 (A := [_])) ?_
  refine OD.call wp_ rfl rfl rfl Tryd.call53 (all_vc [⟨#[73, 78, 83, 69, 82, 84]⟩, ⟨#[73, 78, 84, 79]⟩, s.table, ⟨#[86, 65, 76, 85, 69, 83]⟩] (by show 4 ≤ 10; decide)) ⟨ot, trivial⟩ (perm_none _) ?_; rintro _ S63 ⟨ad63, cp63, rfl, ho63⟩
  refine OD.perm (perm_q22 (A := [_])) ?_
  refine om_ ?_
  refine OD.giveL (t := 64) (Sq := Sv) lk hov (fm_len cK_len _) (perm_r12 (A := [_])) ?_
  refine oc_ Tryd.call54 (hlv) ?_
  refine OD.appendG (ls := ([⟨#[73, 78, 83, 69, 82, 84]⟩, ⟨#[73, 78, 84, 79]⟩, s.table, ⟨#[86, 65, 76, 85, 69, 83]⟩].map wordT)) (new := (listL ((s.row.take i).map showV))) (Sq := S63) cT_len cT_one wp_ rfl rfl Tryd.underlying26 info24_Pe6 rfl (by decide) ot ho63 (perm_r11 (A := [_])) ot (list_pos _) (by simp only [maxLen, List.length_append, List.length_map, List.length_cons, List.length_nil]; omega) (by simp only [List.length_append, List.length_map, List.length_cons, List.length_nil]; omega) (fun b66 cp66 h166 h266 => ?_)
  refine OD.perm (perm_q11 (S1 := [⟨b66, 24, cp66 * 3, List.flatMap cT (([⟨#[73, 78, 83, 69, 82, 84]⟩, ⟨#[73, 78, 84, 79]⟩, s.table, ⟨#[86, 65, 76, 85, 69, 83]⟩].map wordT) ++ (listL ((s.row.take i).map showV)))⟩]) (A := [_])) ?_
  refine om_ ?_
  refine OD.wk (Wk.as_ (n := 107) (l' := [(2, _)]) (S' := (⟨b1, 32, 12, [_, _, _, _, _, _, _, _, _, _, _, _]⟩ :: [⟨b66, 24, cp66 * 3, List.flatMap cT (([⟨#[73, 78, 83, 69, 82, 84]⟩, ⟨#[73, 78, 84, 79]⟩, s.table, ⟨#[86, 65, 76, 85, 69, 83]⟩].map wordT) ++ (listL ((s.row.take i).map showV)))⟩])) rfl rfl sl_) ?_
  refine OD.nil ?_
  refine CD.giveL (t := 2) (Sq := [⟨b66, 24, cp66 * 3, List.flatMap cT (([⟨#[73, 78, 83, 69, 82, 84]⟩, ⟨#[73, 78, 84, 79]⟩, s.table, ⟨#[86, 65, 76, 85, 69, 83]⟩].map wordT) ++ (listL ((s.row.take i).map showV)))⟩]) lk (ownL_row h166 h266) (fm_len cT_len _) (perm_r11 (A := [_])) ?_
  refine CD.ret ?_
  refine ⟨.inr rfl, rt_ Tryd.results33 ?_⟩
  refine ⟨?_, rfl⟩; unfold showS; rw [if_neg hc0', if_neg hc2', if_pos hc3', ← hend3]
 have hc3' := hc3
 (try simp only [V.cnd, ne_eq] at hc3')
 refine sr_ ?_
 refine os_ bn_ ?_
 refine om_ ?_
 refine nm_ [1, 10, 67] ?_
 refine CD.cond ot (fun hc5 => ?_) (fun hc5 => ?_)
 ·have hc5' := hc5
  (try simp only [V.cnd, ne_eq] at hc5')
  refine sr_ ?_
  refine os_ (still_r1 (mk := Op.load 32) rfl ot (by first | exact ld_blks (k := 0) (ds := [_, _, _, _, _, _, _, _, _, _, _, _]) rfl rfl Tryd.isAgg32 Tryd.sizeOf32 rfl rfl | exact ld_fms cC_len Tryd.isAgg32 Tryd.sizeOf32 (by first | assumption | omega) | exact ld_fms cV_len Tryd.isAgg32 Tryd.sizeOf32 (by first | assumption | omega) | exact ld_fms cS_len Tryd.isAgg32 Tryd.sizeOf32 (by first | assumption | omega) | exact ld_rows (k := 0) cC_len rfl rfl rfl Tryd.isAgg32 Tryd.sizeOf32 (by first | assumption | omega) | exact ld_rows (k := 0) cV_len rfl rfl rfl Tryd.isAgg32 Tryd.sizeOf32 (by first | assumption | omega) | exact ld_rows (k := 0) cS_len rfl rfl rfl Tryd.isAgg32 Tryd.sizeOf32 (by first | assumption | omega) | exact ld_is (ds := [_, _, _, _, _, _, _, _, _, _, _, _]) Tryd.isAgg32 Tryd.sizeOf32 rfl rfl)) ?_
  refine oc_ Tryd.call56 (pickp (hs.w (.inl hc5'))) ?_
  refine om_ ?_
  refine on_ [(2, _)] [⟨b1, 32, 12, [_, _, _, _, _, _, _, _, _, _, _, _]⟩] ?_
  refine CD.ret ?_
  refine ⟨.inr rfl, rt_ Tryd.results33 ?_⟩
  refine ⟨?_, rfl⟩; unfold showS; rw [if_neg hc0', if_neg hc2', if_neg hc3', if_pos hc5']
 have hc5' := hc5
 (try simp only [V.cnd, ne_eq] at hc5')
 refine sr_ ?_
 refine os_ bn_ ?_
 refine om_ ?_
 refine nm_ [1, 10, 71] ?_
 refine CD.cond ot (fun hc6 => ?_) (fun hc6 => ?_)
 ·have hc6' := hc6
  (try simp only [V.cnd, ne_eq] at hc6')
  refine CD.seq ?_
  refine CD.draw (bks _) kr_ (fun _ h => h) ?_
  refine a0_ 0 rfl (fa_ 1) ?_
  refine a0_ 1 rfl (still_r1 (mk := Op.load 9) rfl ot (by first | exact ld_blk (k := 0) rfl rfl Tryd.isAgg9 rfl | exact ld_fm cC_len Tryd.isAgg9 (by first | assumption | omega) rfl | exact ld_fm0 cC_len Tryd.isAgg9 (by first | assumption | omega) rfl | exact ld_fm cV_len Tryd.isAgg9 (by first | assumption | omega) rfl | exact ld_fm0 cV_len Tryd.isAgg9 (by first | assumption | omega) rfl | exact ld_fm cS_len Tryd.isAgg9 (by first | assumption | omega) rfl | exact ld_fm0 cS_len Tryd.isAgg9 (by first | assumption | omega) rfl | exact ld_row (k := 0) cC_len rfl rfl rfl Tryd.isAgg9 (by first | assumption | omega) rfl | exact ld_row0 (k := 0) cC_len rfl rfl rfl Tryd.isAgg9 (by first | assumption | omega) rfl | exact ld_row (k := 0) cV_len rfl rfl rfl Tryd.isAgg9 (by first | assumption | omega) rfl | exact ld_row0 (k := 0) cV_len rfl rfl rfl Tryd.isAgg9 (by first | assumption | omega) rfl | exact ld_row (k := 0) cS_len rfl rfl rfl Tryd.isAgg9 (by first | assumption | omega) rfl | exact ld_row0 (k := 0) cS_len rfl rfl rfl Tryd.isAgg9 (by first | assumption | omega) rfl | exact ld_i Tryd.isAgg9 rfl | exact ld_tab hty Tryd.isAgg9 (types_at hki.1 hki.2))) ?_
  refine a0_ 2 rfl (fa_ 10) ?_
  refine a0_ 3 rfl (still_r1 (mk := Op.load 9) rfl ot (by first | exact ld_blk (k := 0) rfl rfl Tryd.isAgg9 rfl | exact ld_fm cC_len Tryd.isAgg9 (by first | assumption | omega) rfl | exact ld_fm0 cC_len Tryd.isAgg9 (by first | assumption | omega) rfl | exact ld_fm cV_len Tryd.isAgg9 (by first | assumption | omega) rfl | exact ld_fm0 cV_len Tryd.isAgg9 (by first | assumption | omega) rfl | exact ld_fm cS_len Tryd.isAgg9 (by first | assumption | omega) rfl | exact ld_fm0 cS_len Tryd.isAgg9 (by first | assumption | omega) rfl | exact ld_row (k := 0) cC_len rfl rfl rfl Tryd.isAgg9 (by first | assumption | omega) rfl | exact ld_row0 (k := 0) cC_len rfl rfl rfl Tryd.isAgg9 (by first | assumption | omega) rfl | exact ld_row (k := 0) cV_len rfl rfl rfl Tryd.isAgg9 (by first | assumption | omega) rfl | exact ld_row0 (k := 0) cV_len rfl rfl rfl Tryd.isAgg9 (by first | assumption | omega) rfl | exact ld_row (k := 0) cS_len rfl rfl rfl Tryd.isAgg9 (by first | assumption | omega) rfl | exact ld_row0 (k := 0) cS_len rfl rfl rfl Tryd.isAgg9 (by first | assumption | omega) rfl | exact ld_i Tryd.isAgg9 rfl | exact ld_tab hty Tryd.isAgg9 (types_at hki.1 hki.2))) ?_
  refine a0_ 8 rfl (fa_ 11) ?_
  refine a0_ 9 rfl (still_r1 (mk := Op.load 30) rfl ot (by first | exact ld_blk (k := 0) rfl rfl Tryd.isAgg30 rfl | exact ld_fm cC_len Tryd.isAgg30 (by first | assumption | omega) rfl | exact ld_fm0 cC_len Tryd.isAgg30 (by first | assumption | omega) rfl | exact ld_fm cV_len Tryd.isAgg30 (by first | assumption | omega) rfl | exact ld_fm0 cV_len Tryd.isAgg30 (by first | assumption | omega) rfl | exact ld_fm cS_len Tryd.isAgg30 (by first | assumption | omega) rfl | exact ld_fm0 cS_len Tryd.isAgg30 (by first | assumption | omega) rfl | exact ld_row (k := 0) cC_len rfl rfl rfl Tryd.isAgg30 (by first | assumption | omega) rfl | exact ld_row0 (k := 0) cC_len rfl rfl rfl Tryd.isAgg30 (by first | assumption | omega) rfl | exact ld_row (k := 0) cV_len rfl rfl rfl Tryd.isAgg30 (by first | assumption | omega) rfl | exact ld_row0 (k := 0) cV_len rfl rfl rfl Tryd.isAgg30 (by first | assumption | omega) rfl | exact ld_row (k := 0) cS_len rfl rfl rfl Tryd.isAgg30 (by first | assumption | omega) rfl | exact ld_row0 (k := 0) cS_len rfl rfl rfl Tryd.isAgg30 (by first | assumption | omega) rfl | exact ld_i Tryd.isAgg30 rfl | exact ld_tab hty Tryd.isAgg30 (types_at hki.1 hki.2))) ?_
  refine a0_ 11 rfl (fa_ 6) ?_
  refine a0_ 12 rfl (still_r1 (mk := Op.load 30) rfl ot (by first | exact ld_blk (k := 0) rfl rfl Tryd.isAgg30 rfl | exact ld_fm cC_len Tryd.isAgg30 (by first | assumption | omega) rfl | exact ld_fm0 cC_len Tryd.isAgg30 (by first | assumption | omega) rfl | exact ld_fm cV_len Tryd.isAgg30 (by first | assumption | omega) rfl | exact ld_fm0 cV_len Tryd.isAgg30 (by first | assumption | omega) rfl | exact ld_fm cS_len Tryd.isAgg30 (by first | assumption | omega) rfl | exact ld_fm0 cS_len Tryd.isAgg30 (by first | assumption | omega) rfl | exact ld_row (k := 0) cC_len rfl rfl rfl Tryd.isAgg30 (by first | assumption | omega) rfl | exact ld_row0 (k := 0) cC_len rfl rfl rfl Tryd.isAgg30 (by first | assumption | omega) rfl | exact ld_row (k := 0) cV_len rfl rfl rfl Tryd.isAgg30 (by first | assumption | omega) rfl | exact ld_row0 (k := 0) cV_len rfl rfl rfl Tryd.isAgg30 (by first | assumption | omega) rfl | exact ld_row (k := 0) cS_len rfl rfl rfl Tryd.isAgg30 (by first | assumption | omega) rfl | exact ld_row0 (k := 0) cS_len rfl rfl rfl Tryd.isAgg30 (by first | assumption | omega) rfl | exact ld_i Tryd.isAgg30 rfl | exact ld_tab hty Tryd.isAgg30 (types_at hki.1 hki.2))) ?_
  refine AD0.later rfl ?_
  refine AD.one (i := 4) kr_ ?_
  refine ab_ (numD 0 [_, _, _, _]) [.string ⟨#[]⟩, .string ⟨#[]⟩, .string ⟨#[]⟩, .string ⟨#[]⟩] [_, _, _, _] Tryd.zeroValue9 Tryd.runUnderlying29 Tryd.sizeOf9 (fun b77 => ?_)
  refine ag_ 0 77 1 4 ?_
  refine AD.one (i := 5) kr_ ?_
  refine ac_ Tryd.call53 (all_vp [⟨#[85, 80, 68, 65, 84, 69]⟩, s.table, ⟨#[83, 69, 84]⟩, s.set] (by show 4 ≤ 10; decide)) ?_
  refine AD.one (i := 6) kr_ ?_
  refine ac_ Tryd.call58 (mark_vp ⟨#[61]⟩) ?_
  refine AD.two (i := 7) (j := 10) kr_ ?_ ?_
  ·skip
   refine ab_ (numD 0 [_]) [.int .i64 0, .string ⟨#[]⟩, .int .i64 0] [_, _, _] Tryd.zeroValue24 Tryd.runUnderlying26 Tryd.sizeOf24 (fun b80 => ?_)
   refine ag_ 0 80 3 1 ?_
   refine AD.one (i := 10) kr_ ?_
   refine ac_ Tryd.call59 (showOps_vp s.to h40t (hs.t hc6') (fun o h => (hf.x o h).2)) ?_
   refine AD.one (i := 13) kr_ ?_
   refine ac_ Tryd.call60 (showWhere_vp s.wher h40 (hs.w (.inr (.inl hc6'))) (fun o h => (hf.w o h).2) (by omega)) ?_
   refine AD.one (i := 14) kr_ ?_
   refine ab_ (numD 0 [_, _, _, _]) [.slice none 0 0, .slice none 0 0, .slice none 0 0, .slice none 0 0] [_, _, _, _] Tryd.zeroValue26 Tryd.runUnderlying97 Tryd.sizeOf26 (fun b87 => ?_)
   refine ag_ 0 87 1 4 ?_
   refine AD.one (i := 15) kr_ ?_
   refine ac_ Tryd.call57 (concat_vp [[⟨#[85, 80, 68, 65, 84, 69]⟩, s.table, ⟨#[83, 69, 84]⟩, s.set].map wordT, [markT ⟨#[61]⟩], showO s.to, showW s.wher] (by show 4 ≤ 1000; decide) (by simp only [List.flatten_cons, List.flatten_nil, List.length_append, List.length_map, List.length_cons, List.length_nil]; omega) (by simp only [List.flatten_cons, List.flatten_nil, List.length_append, List.length_map, List.length_cons, List.length_nil]; omega)) ?_
   refine a1_ 16 rfl mv_ ?_
   refine aw_ [(2, _)] [⟨b1, 32, 12, [_, _, _, _, _, _, _, _, _, _, _, _]⟩] ?_
   refine AD.done kr_ ?_
   refine CD.ret ?_
   refine ⟨.inr rfl, rt_ Tryd.results33 ?_⟩
   refine ⟨?_, rfl⟩; unfold showS; rw [if_neg hc0', if_neg hc2', if_neg hc3', if_neg hc5', if_pos hc6']
  refine ac_ Tryd.call59 (showOps_vp s.to h40t (hs.t hc6') (fun o h => (hf.x o h).2)) ?_
  refine AD.two (i := 7) (j := 13) kr_ ?_ ?_
  ·skip
   refine ab_ (numD 0 [_]) [.int .i64 0, .string ⟨#[]⟩, .int .i64 0] [_, _, _] Tryd.zeroValue24 Tryd.runUnderlying26 Tryd.sizeOf24 (fun b80 => ?_)
   refine ag_ 0 80 3 1 ?_
   refine AD.one (i := 13) kr_ ?_
   refine ac_ Tryd.call60 (showWhere_vp s.wher h40 (hs.w (.inr (.inl hc6'))) (fun o h => (hf.w o h).2) (by omega)) ?_
   refine AD.one (i := 14) kr_ ?_
   refine ab_ (numD 0 [_, _, _, _]) [.slice none 0 0, .slice none 0 0, .slice none 0 0, .slice none 0 0] [_, _, _, _] Tryd.zeroValue26 Tryd.runUnderlying97 Tryd.sizeOf26 (fun b87 => ?_)
   refine ag_ 0 87 1 4 ?_
   refine AD.one (i := 15) kr_ ?_
   refine ac_ Tryd.call57 (concat_vp [[⟨#[85, 80, 68, 65, 84, 69]⟩, s.table, ⟨#[83, 69, 84]⟩, s.set].map wordT, [markT ⟨#[61]⟩], showO s.to, showW s.wher] (by show 4 ≤ 1000; decide) (by simp only [List.flatten_cons, List.flatten_nil, List.length_append, List.length_map, List.length_cons, List.length_nil]; omega) (by simp only [List.flatten_cons, List.flatten_nil, List.length_append, List.length_map, List.length_cons, List.length_nil]; omega)) ?_
   refine a1_ 16 rfl mv_ ?_
   refine aw_ [(2, _)] [⟨b1, 32, 12, [_, _, _, _, _, _, _, _, _, _, _, _]⟩] ?_
   refine AD.done kr_ ?_
   refine CD.ret ?_
   refine ⟨.inr rfl, rt_ Tryd.results33 ?_⟩
   refine ⟨?_, rfl⟩; unfold showS; rw [if_neg hc0', if_neg hc2', if_neg hc3', if_neg hc5', if_pos hc6']
  refine ac_ Tryd.call60 (showWhere_vp s.wher h40 (hs.w (.inr (.inl hc6'))) (fun o h => (hf.w o h).2) (by omega)) ?_
  refine AD.one (i := 7) kr_ ?_
  refine ab_ (numD 0 [_]) [.int .i64 0, .string ⟨#[]⟩, .int .i64 0] [_, _, _] Tryd.zeroValue24 Tryd.runUnderlying26 Tryd.sizeOf24 (fun b80 => ?_)
  refine ag_ 0 80 3 1 ?_
  refine AD.one (i := 14) kr_ ?_
  refine ab_ (numD 0 [_, _, _, _]) [.slice none 0 0, .slice none 0 0, .slice none 0 0, .slice none 0 0] [_, _, _, _] Tryd.zeroValue26 Tryd.runUnderlying97 Tryd.sizeOf26 (fun b87 => ?_)
  refine ag_ 0 87 1 4 ?_
  refine AD.one (i := 15) kr_ ?_
  refine ac_ Tryd.call57 (concat_vp [[⟨#[85, 80, 68, 65, 84, 69]⟩, s.table, ⟨#[83, 69, 84]⟩, s.set].map wordT, [markT ⟨#[61]⟩], showO s.to, showW s.wher] (by show 4 ≤ 1000; decide) (by simp only [List.flatten_cons, List.flatten_nil, List.length_append, List.length_map, List.length_cons, List.length_nil]; omega) (by simp only [List.flatten_cons, List.flatten_nil, List.length_append, List.length_map, List.length_cons, List.length_nil]; omega)) ?_
  refine a1_ 16 rfl mv_ ?_
  refine aw_ [(2, _)] [⟨b1, 32, 12, [_, _, _, _, _, _, _, _, _, _, _, _]⟩] ?_
  refine AD.done kr_ ?_
  refine CD.ret ?_
  refine ⟨.inr rfl, rt_ Tryd.results33 ?_⟩
  refine ⟨?_, rfl⟩; unfold showS; rw [if_neg hc0', if_neg hc2', if_neg hc3', if_neg hc5', if_pos hc6']
 have hc6' := hc6
 (try simp only [V.cnd, ne_eq] at hc6')
 refine sr_ ?_
 refine os_ bn_ ?_
 refine om_ ?_
 refine nm_ [1, 89] ?_
 refine CD.cond ot (fun hc7 => ?_) (fun hc7 => ?_)
 ·have hc7' := hc7
  (try simp only [V.cnd, ne_eq] at hc7')
  refine CD.seq ?_
  refine CD.draw (bks (List.take 1 _)) kr_ (fun _ h => (List.Sublist.map _ (List.take_sublist _ _)).subset h) ?_
  refine a0_ 0 rfl (fa_ 1) ?_
  refine a0_ 1 rfl (still_r1 (mk := Op.load 9) rfl ot (by first | exact ld_blk (k := 0) rfl rfl Tryd.isAgg9 rfl | exact ld_fm cC_len Tryd.isAgg9 (by first | assumption | omega) rfl | exact ld_fm0 cC_len Tryd.isAgg9 (by first | assumption | omega) rfl | exact ld_fm cV_len Tryd.isAgg9 (by first | assumption | omega) rfl | exact ld_fm0 cV_len Tryd.isAgg9 (by first | assumption | omega) rfl | exact ld_fm cS_len Tryd.isAgg9 (by first | assumption | omega) rfl | exact ld_fm0 cS_len Tryd.isAgg9 (by first | assumption | omega) rfl | exact ld_row (k := 0) cC_len rfl rfl rfl Tryd.isAgg9 (by first | assumption | omega) rfl | exact ld_row0 (k := 0) cC_len rfl rfl rfl Tryd.isAgg9 (by first | assumption | omega) rfl | exact ld_row (k := 0) cV_len rfl rfl rfl Tryd.isAgg9 (by first | assumption | omega) rfl | exact ld_row0 (k := 0) cV_len rfl rfl rfl Tryd.isAgg9 (by first | assumption | omega) rfl | exact ld_row (k := 0) cS_len rfl rfl rfl Tryd.isAgg9 (by first | assumption | omega) rfl | exact ld_row0 (k := 0) cS_len rfl rfl rfl Tryd.isAgg9 (by first | assumption | omega) rfl | exact ld_i Tryd.isAgg9 rfl | exact ld_tab hty Tryd.isAgg9 (types_at hki.1 hki.2))) ?_
  refine a0_ 4 rfl (fa_ 6) ?_
  refine a0_ 5 rfl (still_r1 (mk := Op.load 30) rfl ot (by first | exact ld_blk (k := 0) rfl rfl Tryd.isAgg30 rfl | exact ld_fm cC_len Tryd.isAgg30 (by first | assumption | omega) rfl | exact ld_fm0 cC_len Tryd.isAgg30 (by first | assumption | omega) rfl | exact ld_fm cV_len Tryd.isAgg30 (by first | assumption | omega) rfl | exact ld_fm0 cV_len Tryd.isAgg30 (by first | assumption | omega) rfl | exact ld_fm cS_len Tryd.isAgg30 (by first | assumption | omega) rfl | exact ld_fm0 cS_len Tryd.isAgg30 (by first | assumption | omega) rfl | exact ld_row (k := 0) cC_len rfl rfl rfl Tryd.isAgg30 (by first | assumption | omega) rfl | exact ld_row0 (k := 0) cC_len rfl rfl rfl Tryd.isAgg30 (by first | assumption | omega) rfl | exact ld_row (k := 0) cV_len rfl rfl rfl Tryd.isAgg30 (by first | assumption | omega) rfl | exact ld_row0 (k := 0) cV_len rfl rfl rfl Tryd.isAgg30 (by first | assumption | omega) rfl | exact ld_row (k := 0) cS_len rfl rfl rfl Tryd.isAgg30 (by first | assumption | omega) rfl | exact ld_row0 (k := 0) cS_len rfl rfl rfl Tryd.isAgg30 (by first | assumption | omega) rfl | exact ld_i Tryd.isAgg30 rfl | exact ld_tab hty Tryd.isAgg30 (types_at hki.1 hki.2))) ?_
  refine AD0.later rfl ?_
  refine AD.one (i := 2) kr_ ?_
  refine ab_ (numD 0 [_, _, _]) [.string ⟨#[]⟩, .string ⟨#[]⟩, .string ⟨#[]⟩] [_, _, _] Tryd.zeroValue9 Tryd.runUnderlying29 Tryd.sizeOf9 (fun b93 => ?_)
  refine ag_ 0 93 1 3 ?_
  refine AD.one (i := 3) kr_ ?_
  refine AStep.call rfl wp_ rfl rfl rfl Tryd.call53 (all_vc [⟨#[68, 69, 76, 69, 84, 69]⟩, ⟨#[70, 82, 79, 77]⟩, s.table] (by show 3 ≤ 10; decide)) ⟨ot, trivial⟩ (perm_none _) bk_ ?_; rintro _ S94 ⟨ad94, cp94, rfl, ho94⟩
  refine AD.perm (perm_q11 (A := [_])) ?_
  refine AD.one (i := 6) kr_ ?_
  refine ac_ Tryd.call60 (showWhere_vp s.wher h40 (hs.w (.inr (.inr hc7'))) (fun o h => (hf.w o h).2) (by omega)) ?_
  refine AD.one (i := 7) kr_ ?_
  refine AStep.appendAny (ls := ([⟨#[68, 69, 76, 69, 84, 69]⟩, ⟨#[70, 82, 79, 77]⟩, s.table].map wordT)) (new := (showW s.wher)) (Sq := S94) cT_len cT_one rfl wp_ rfl rfl Tryd.underlying26 info24_Pe6 rfl (by decide) Tryd.runUnderlying26 Tryd.sizeOf24 ot ho94 (perm_r11 (A := [_])) ot (by simp only [maxLen, List.length_append, List.length_map, List.length_cons, List.length_nil]; omega) (by simp only [List.length_append, List.length_map, List.length_cons, List.length_nil]; omega) (fun ad98 cp98 S98 ho98 => ?_)
  refine AD.perm (perm_q11 (A := [_])) ?_
  refine a1_ 8 rfl mv_ ?_
  refine AD.wk (y := ⟨107, [(2, _)], (⟨b1, 32, 12, [_, _, _, _, _, _, _, _, _, _, _, _]⟩ :: S98)⟩) (Wk.as_ rfl rfl sl_) rfl ?_
  refine AD.done kr_ ?_
  refine CD.giveL (t := 2) (Sq := S98) lk ho98 (fm_len cT_len _) (perm_r11 (A := [_])) ?_
  refine CD.ret ?_
  refine ⟨.inr rfl, rt_ Tryd.results33 ?_⟩
  refine ⟨?_, rfl⟩; unfold showS; rw [if_neg hc0', if_neg hc2', if_neg hc3', if_neg hc5', if_neg hc6', if_pos hc7']
 have hc7' := hc7
 (try simp only [V.cnd, ne_eq] at hc7')
 refine CD.skip ?_
 refine CD.seq ?_
 obtain ⟨j, hj, hj3⟩ : ∃ j : Nat, s.kind = ((7 + j : Nat) : Int) ∧ j < endN.length := ⟨(s.kind - 7).toNat, by have := hs.k1; have := hs.k9; omega, by have := hs.k1; have := hs.k9; show _ < 3; omega⟩
 refine CD.region ?_
 refine ob_ (numD 0 [_, _, _]) [.string ⟨#[]⟩, .string ⟨#[]⟩, .string ⟨#[]⟩] [_, _, _] Tryd.zeroValue9 Tryd.runUnderlying29 Tryd.sizeOf9 (fun b99 => ?_)
 refine OD.perm (perm_q11 (S1 := [⟨b99, 9, 3 * 1, List.flatMap cS (endN)⟩]) (A := [_])) ?_
 refine OD.giveL (t := 99) (Sq := [⟨b99, 9, 3 * 1, List.flatMap cS (endN)⟩]) lk (ownL_row (g := cS) (sz := 1) (e := 9) (ls := endN) (Nat.le_refl _) (show 3 ≤ maxLen by decide)) (fm_len cS_len _) (perm_r11 (A := [_])) ?_
 refine os_ (fa_ 0) ?_
 refine os_ (still_r1 (mk := Op.load 3) rfl ot (by first | exact ld_blk (k := 0) rfl rfl Tryd.isAgg3 rfl | exact ld_fm cC_len Tryd.isAgg3 (by first | assumption | omega) rfl | exact ld_fm0 cC_len Tryd.isAgg3 (by first | assumption | omega) rfl | exact ld_fm cV_len Tryd.isAgg3 (by first | assumption | omega) rfl | exact ld_fm0 cV_len Tryd.isAgg3 (by first | assumption | omega) rfl | exact ld_fm cS_len Tryd.isAgg3 (by first | assumption | omega) rfl | exact ld_fm0 cS_len Tryd.isAgg3 (by first | assumption | omega) rfl | exact ld_row (k := 0) cC_len rfl rfl rfl Tryd.isAgg3 (by first | assumption | omega) rfl | exact ld_row0 (k := 0) cC_len rfl rfl rfl Tryd.isAgg3 (by first | assumption | omega) rfl | exact ld_row (k := 0) cV_len rfl rfl rfl Tryd.isAgg3 (by first | assumption | omega) rfl | exact ld_row0 (k := 0) cV_len rfl rfl rfl Tryd.isAgg3 (by first | assumption | omega) rfl | exact ld_row (k := 0) cS_len rfl rfl rfl Tryd.isAgg3 (by first | assumption | omega) rfl | exact ld_row0 (k := 0) cS_len rfl rfl rfl Tryd.isAgg3 (by first | assumption | omega) rfl | exact ld_i Tryd.isAgg3 rfl | exact ld_tab hty Tryd.isAgg3 (types_at hki.1 hki.2))) ?_
 refine os_ (still_bin (r := .int .i64 ((j : Nat) : Int)) rfl ot opd_const (bin_sub (by rw [hj, show (((7 + j : Nat)) : Int) - 7 = ((j : Nat) : Int) by omega]; exact wrap_i64 (by omega) (by have : j < 3 := hj3; omega)))) ?_
 refine os_ (ix_ 1 (h := by first | exact .l (j := j) rfl hj3 | exact .r (j := j) rfl hj3)) ?_
 refine os_ (still_r1 (mk := Op.load 9) rfl ot (by exact ld_fm0 (i := j) cS_len Tryd.isAgg9 hj3 rfl)) ?_
 refine ob_ (numD 0 [_]) [.string ⟨#[]⟩] [_] Tryd.zeroValue9 Tryd.runUnderlying29 Tryd.sizeOf9 (fun b105 => ?_)
 refine OD.perm (perm_q11 (S1 := [⟨b105, 9, 1 * 1, List.flatMap cS ([endN[j]])⟩]) (A := [_])) ?_
 refine OD.giveL (t := 105) (Sq := [⟨b105, 9, 1 * 1, List.flatMap cS ([endN[j]])⟩]) lk (ownL_row (g := cS) (sz := 1) (e := 9) (ls := [endN[j]]) (Nat.le_refl _) (show 1 ≤ maxLen by decide)) (fm_len cS_len _) (perm_r11 (A := [_])) ?_
 refine oc_ Tryd.call53 (all_vp [endN[j]] (by show 1 ≤ 10; decide)) ?_
 refine om_ ?_
 refine on_ [(2, _)] [⟨b1, 32, 12, [_, _, _, _, _, _, _, _, _, _, _, _]⟩] ?_
 refine CD.ret ?_
 refine ⟨.inr rfl, rt_ Tryd.results33 ?_⟩
 refine ⟨?_, rfl⟩; unfold showS; rw [if_neg hc0', if_neg hc2', if_neg hc3', if_neg hc5', if_neg hc6', if_neg hc7', hj, show (((7 + j : Nat) : Int) - 7).toNat = j by omega, getD_at hj3]; first | done | rfl

end Go.Proofs.YtjgekbmahhhokaaDoor.Pa

namespace Go.Proofs.YtjgekbmahhhokaaDoor.Pa
open Go.RowKit V Pk Go.Proofs.YtjgekbmahhhokaaDoor.Vl Go.Proofs.YtjgekbmahhhokaaDoor.Nm
set_option linter.unusedVariables false
set_option linter.unusedSimpArgs false

variable {G : List (Nat × List Value)}
theorem colsA_good : ∀ (l pre : List ColL), colsA pre l = 0 → ∀ c ∈ l, nameF c.n = 0 ∧ 1 ≤ c.k ∧ c.k ≤ 3
 | [], _, _, c, hc => by cases hc
 | a :: l, pre, h, c, hc => by
  have h : (if colF pre a ≠ 0 then colF pre a else colsA (pre ++ [a]) l) = 0 := h
  by_cases h0 : colF pre a = 0
  ·rw [if_neg (by simp [h0])] at h
   rcases List.mem_cons.1 hc with rfl | hc
   ·unfold colF at h0
    by_cases h1 : nameF c.n = 0
    ·rw [if_neg (by simp [h1])] at h0
     by_cases h2 : c.k < 1 ∨ c.k > 3
     ·rw [if_pos h2] at h0; cases h0
     exact ⟨h1, by omega⟩
    rw [if_pos h1] at h0; exact absurd h0 h1
   exact colsA_good l _ h c hc
  rw [if_pos h0] at h; exact absurd h h0
theorem cols_good {l : List ColL} (h : colsF l = 0) : (1 ≤ l.length ∧ l.length ≤ 6) ∧ ∀ c ∈ l, nameF c.n = 0 ∧ 1 ≤ c.k ∧ c.k ≤ 3 := by
 unfold colsF at h
 split at h
 ·cases h
 exact ⟨by omega, colsA_good l [] h⟩
theorem first_0 {α : Type} {f : α → Int} : ∀ {l : List α}, firstE f l = 0 → ∀ a ∈ l, f a = 0
 | [], _, a, h => by cases h
 | b :: r, h, a, ha => by
  unfold firstE at h
  split at h
  ·exact absurd h (by assumption)
  rcases List.mem_cons.1 ha with rfl | ha
  ·have hn : ¬ f a ≠ 0 := by assumption
   omega
  exact first_0 h a ha
theorem where_0 {l : List OpL} (h : whereF l = 0) : l.length = 0 ∨ exprL 0 l = 0 := by
 unfold whereF at h
 split at h
 ·exact .inl (by assumption)
 right; unfold exprF at h; split at h
 ·cases h
 exact h
theorem expr_0 {l : List OpL} (h : exprF l = 0) : exprL 0 l = 0 ∧ l.length ≤ 40 := by
 unfold exprF at h; split at h
 ·cases h
 exact ⟨h, by omega⟩
theorem err_0 {s : StL} (h : checkS s = 0) : errS s = 0 ∧ bareF s (hasS s) = true ∧ (s.kind < 7 → nameF s.table = 0) := by
 unfold checkS at h
 split at h
 ·rename_i h1; exact absurd h h1.2
 rename_i h1
 split at h
 ·cases h
 rename_i h2
 refine ⟨h, ?_, fun hk => ?_⟩
 ·cases hb : bareF s (hasS s) with
  | true => rfl
  | false => exact absurd ⟨h, hb⟩ h2
 by_cases hn : nameF s.table = 0
 ·exact hn
 exact absurd ⟨hk, hn⟩ h1
theorem sh_of {s : StL} (hf : FinS s) (h1 : 1 ≤ s.kind) (h9 : s.kind ≤ 9) (h : checkS s = 0) : ShS s := by
 have he := (err_0 h).1
 unfold errS at he
 refine ⟨hf, h1, h9, fun hk => ?_, fun hk v hv => ?_, fun hk => ?_, fun hk => ?_⟩
 ·rw [if_pos hk] at he
  exact fun c hc => ((cols_good he).2 c hc).2
 ·rw [if_neg (by omega), if_pos hk] at he
  unfold rowF at he
  split at he
  ·cases he
  exact lit_ok (first_0 he v hv) (hf.r v hv).1 (hf.r v hv).2
 ·by_cases h4 : s.kind = 4
  ·rw [if_neg (by omega), if_neg (by omega), if_pos h4] at he
   unfold pickF at he
   repeat' split at he
   all_goals first | (exfalso; omega) | exact where_0 (by omega)
  by_cases h5 : s.kind = 5
  ·rw [if_neg (by omega), if_neg (by omega), if_neg h4, if_pos h5] at he
   repeat' split at he
   all_goals first | (exfalso; omega) | exact where_0 he
  rw [if_neg (by omega), if_neg (by omega), if_neg h4, if_neg h5, if_pos (by omega)] at he
  exact where_0 he
 rw [if_neg (by omega), if_neg (by omega), if_neg (by omega), if_pos hk] at he
 repeat' split at he
 all_goals first | (exfalso; omega) | exact (expr_0 (by assumption)).1
def CheckF (s : StL) : Int := if s.kind < 1 ∨ s.kind > 9 then 2 else if checkS s ≠ 0 then checkS s else if (showS s).length > 100 then 10 else 0
def ShowF (s : StL) : List Tk × Int := if CheckF s ≠ 0 then ([], CheckF s) else (showS s, 0)
theorem Check_0 {s : StL} (h : CheckF s = 0) : 1 ≤ s.kind ∧ s.kind ≤ 9 ∧ checkS s = 0 ∧ (showS s).length ≤ 100 := by
 unfold CheckF at h
 split at h
 ·cases h
 split at h
 ·rename_i h2; exact absurd h h2
 split at h
 ·cases h
 rename_i h2 _; exact ⟨by omega, by omega, by omega, by omega⟩

set_option maxHeartbeats 4000000 in
set_option maxRecDepth 100000 in
theorem Check_vp (hm : (0, marksC) ∈ G) (hw : (2, wordsC) ∈ G) (hty : (1, typesC) ∈ G) (s : StL) (hf : FinS s) : VP Tryd.prog G 17 [.agg (cSt s)] (.v (.int .i64 (CheckF s))) := by
 refine VC.body Tryd.func17 rfl Tryd.ntmps17 le_ fun X0 w0 S00 => ?_
 have hmx : maxLen = 9223372036854775807 := rfl
 have hcv := checkS_vp hm hw s hf
 unfold cSt at hcv
 unfold cSt
 have hkx : (s.kind < 1 ∨ s.kind > 9) ∨ ¬ (s.kind < 1 ∨ s.kind > 9) := by omega
 refine sr_ ?_
 refine OD.box (ds := [_, _, _, _, _, _, _, _, _, _, _, _]) wp_ rfl rfl ot rfl rfl (fun b1 => ?_)
 refine om_ ?_
 refine on_ [(1, _)] [⟨b1, 32, 12, [_, _, _, _, _, _, _, _, _, _, _, _]⟩] ?_
 refine CD.seq ?_
 refine sr_ ?_
 refine os_ (fa_ 0) ?_
 refine os_ (lb_ 0) ?_
 refine os_ bn_ ?_
 refine om_ ?_
 refine OD.split (t := 7) lk (fun hg7 => ?_) (fun hg7 => ?_)
 ·have hg7' := hg7; (try simp only [V.cnd, ne_eq] at hg7')
  refine sk_ ?_
  refine sk_ ?_
  refine sk_ ?_
  refine os_ pkT_ ?_
  refine nm_ [1, 11] ?_
  refine CD.condT ot (by first | rfl | assumption) ?_
  have hres : CheckF s = 2 := if_pos (by omega)
  refine sr_ ?_
  refine om_ ?_
  refine nm_ [2] ?_
  refine CD.ret ?_
  refine r1_ ?_
  rw [hres]; exact ⟨rfl, rfl⟩
 have hg7' := hg7; (try simp only [V.cnd, ne_eq] at hg7')
 refine os_ (fa_ 0) ?_
 refine os_ (lb_ 0) ?_
 refine os_ bn_ ?_
 refine os_ pkF_ ?_
 refine nm_ [1, 11] ?_
 refine CD.cond ot (fun hc0 => ?_) (fun hc0 => ?_)
 ·have hc0' := hc0
  (try simp only [V.cnd, ne_eq] at hc0')
  have hres : CheckF s = 2 := if_pos (by omega)
  refine sr_ ?_
  refine om_ ?_
  refine nm_ [2] ?_
  refine CD.ret ?_
  refine r1_ ?_
  rw [hres]; exact ⟨rfl, rfl⟩
 have hc0' := hc0
 (try simp only [V.cnd, ne_eq] at hc0')
 have hk : ¬ (s.kind < 1 ∨ s.kind > 9) := by omega
 refine CD.skip ?_
 refine CD.seq ?_
 refine sr_ ?_
 refine os_ (lab_ 0 [_, _, _, _, _, _, _, _, _, _, _, _]) ?_
 refine oc_ Tryd.call34 (hcv) ?_
 refine om_ ?_
 refine on_ [(1, _), (3, _)] [⟨b1, 32, 12, [_, _, _, _, _, _, _, _, _, _, _, _]⟩] ?_
 refine sr_ ?_
 refine om_ ?_
 refine os_ bn_ ?_
 refine nm_ [1, 3, 15] ?_
 refine CD.cond ot (fun hc1 => ?_) (fun hc1 => ?_)
 ·have hc1' := hc1
  (try simp only [V.cnd, ne_eq] at hc1')
  have hn : checkS s ≠ 0 := by simpa using hc1
  have hres : CheckF s = checkS s := by unfold CheckF; rw [if_neg hk, if_pos hn]
  refine sr_ ?_
  refine om_ ?_
  refine om_ ?_
  refine nm_ [2] ?_
  refine CD.ret ?_
  refine r1_ ?_
  rw [hres]; exact ⟨rfl, rfl⟩
 have hc1' := hc1
 (try simp only [V.cnd, ne_eq] at hc1')
 have h0 : checkS s = 0 := by simpa using hc1
 have hsv := show_vp hty s (sh_of hf (by omega) (by omega) h0)
 unfold cSt at hsv
 have hn0 : ¬ checkS s ≠ 0 := fun h => h h0
 refine CD.skip ?_
 refine CD.seq ?_
 refine sr_ ?_
 refine os_ (lab_ 0 [_, _, _, _, _, _, _, _, _, _, _, _]) ?_
 refine oc_ Tryd.call33 (hsv) ?_
 refine os_ ln_ ?_
 refine os_ bn_ ?_
 refine on_ [(20, _)] [⟨b1, 32, 12, [_, _, _, _, _, _, _, _, _, _, _, _]⟩] ?_
 refine CD.cond ot (fun hc2 => ?_) (fun hc2 => ?_)
 ·have hc2' := hc2
  (try simp only [V.cnd, ne_eq] at hc2')
  have hres : CheckF s = 10 := by unfold CheckF; rw [if_neg hk, if_neg hn0, if_pos (by simp at hc2; omega)]
  refine sr_ ?_
  refine om_ ?_
  refine nm_ [2] ?_
  refine CD.ret ?_
  refine r1_ ?_
  rw [hres]; exact ⟨rfl, rfl⟩
 have hc2' := hc2
 (try simp only [V.cnd, ne_eq] at hc2')
 have hres : CheckF s = 0 := by unfold CheckF; rw [if_neg hk, if_neg hn0, if_neg (by simp at hc2; omega)]
 refine CD.skip ?_
 refine sr_ ?_
 refine om_ ?_
 refine nm_ [2] ?_
 refine CD.ret ?_
 refine r1_ ?_
 rw [hres]; exact ⟨rfl, rfl⟩

set_option maxHeartbeats 4000000 in
set_option maxRecDepth 100000 in
theorem Show_vp (hm : (0, marksC) ∈ G) (hw : (2, wordsC) ∈ G) (hty : (1, typesC) ∈ G) (s : StL) (hf : FinS s) : VP Tryd.prog G 16 [.agg (cSt s)] (.tup [.list 3 ((ShowF s).1.flatMap cT) (ShowF s).1.length, .v (.int .i64 (ShowF s).2)]) := by
 refine VC.body Tryd.func16 rfl Tryd.ntmps16 le_ fun X0 w0 S00 => ?_
 have hmx : maxLen = 9223372036854775807 := rfl
 have hcv := Check_vp hm hw hty s hf
 unfold cSt at hcv
 unfold cSt
 refine sr_ ?_
 refine OD.box (ds := [_, _, _, _, _, _, _, _, _, _, _, _]) wp_ rfl rfl ot rfl rfl (fun b1 => ?_)
 refine om_ ?_
 refine om_ ?_
 refine on_ [(1, _)] [⟨b1, 32, 12, [_, _, _, _, _, _, _, _, _, _, _, _]⟩] ?_
 refine CD.seq ?_
 refine sr_ ?_
 refine os_ (lab_ 0 [_, _, _, _, _, _, _, _, _, _, _, _]) ?_
 refine oc_ Tryd.call17 (hcv) ?_
 refine om_ ?_
 refine on_ [(1, _), (4, _)] [⟨b1, 32, 12, [_, _, _, _, _, _, _, _, _, _, _, _]⟩] ?_
 refine sr_ ?_
 refine om_ ?_
 refine os_ bn_ ?_
 refine nm_ [1, 4, 8] ?_
 refine CD.cond ot (fun hc0 => ?_) (fun hc0 => ?_)
 ·have hc0' := hc0
  (try simp only [V.cnd, ne_eq] at hc0')
  have hn : CheckF s ≠ 0 := by simpa using hc0
  have hres : ShowF s = ([], CheckF s) := if_pos hn
  refine sr_ ?_
  refine om_ ?_
  refine om_ ?_
  refine om_ ?_
  refine nm_ [2, 3] ?_
  refine CD.wk (Wk.giveNil (t := 2) (sz := 3) lk) ?_
  refine CD.ret ?_
  refine r2_ ?_
  rw [hres]; exact ⟨rfl, rfl⟩
 have hc0' := hc0
 (try simp only [V.cnd, ne_eq] at hc0')
 have h0 : CheckF s = 0 := by simpa using hc0
 have hres : ShowF s = (showS s, 0) := if_neg (fun h => h h0)
 obtain ⟨q1, q2, q3, _⟩ := Check_0 h0
 have hsv := show_vp hty s (sh_of hf q1 q2 q3)
 unfold cSt at hsv
 refine CD.skip ?_
 refine sr_ ?_
 refine os_ (lab_ 0 [_, _, _, _, _, _, _, _, _, _, _, _]) ?_
 refine oc_ Tryd.call33 (hsv) ?_
 refine om_ ?_
 refine om_ ?_
 refine on_ [(2, _), (3, _)] [⟨b1, 32, 12, [_, _, _, _, _, _, _, _, _, _, _, _]⟩] ?_
 refine CD.ret ?_
 refine ⟨.inr rfl, _, [], List.nil_sublist _, ret_two Tryd.results16 (res_tmp le_ lk) (res_tmp le_ lk), ?_⟩
 rw [hres]; exact ⟨rfl, rfl⟩

end Go.Proofs.YtjgekbmahhhokaaDoor.Pa

namespace Go.Proofs.YtjgekbmahhhokaaDoor.Pa
open Go.RowKit V Pk Go.Proofs.YtjgekbmahhhokaaDoor.Vl Go.Proofs.YtjgekbmahhhokaaDoor.Nm
set_option linter.unusedVariables false
set_option linter.unusedSimpArgs false

theorem eqs24 (x y : Tk) : ∀ w, (Op.equalIn 10000 24 (.agg [.int .i64 x.k, .string x.s, .int .i64 x.n].toArray) (.agg [.int .i64 y.k, .string y.s, .int .i64 y.n].toArray)).run Tryd.prog w = .ok (x.k == y.k && (x.s.toList == y.s.toList && x.n == y.n)) w := fun w => by
 have hS : Tryd.prog.underlying 24 = some (.struct (Tryd.prog.fieldsOf 24)) := by kernel_rfl
 have hp : Tryd.prog.stoodInHeld 24 = false := by kernel_rfl
 rw [show (10000 : Nat) = 9999 + 1 from rfl, run_equalIn_agg w 9999 24 _ _ hS hp]
 have u := Tryd.underlying24
 have u3 := Tryd.underlying3
 have u9 := Tryd.underlying9
 have a3 := Tryd.isAgg3
 have a9 := Tryd.isAgg9
 have z3 := Tryd.sizeOf3
 have z9 := Tryd.sizeOf9
 simp only [Program.fieldsOf, u]
 go_simp
 by_cases h1 : x.k = y.k <;> by_cases h2 : x.s.toList = y.s.toList <;> by_cases h3 : x.n = y.n <;> simp [h1, h2, h3]

variable {G : List (Nat × List Value)}

set_option maxHeartbeats 4000000 in
set_option maxRecDepth 100000 in
theorem sameT_vp (ts : List Tk) (hl : ts.length ≤ 1000) : VP Tryd.prog G 35 [.list 3 (ts.flatMap cT) ts.length, .list 3 (ts.flatMap cT) ts.length] (.v (.bool true)) := by
 refine VC.body Tryd.func35 rfl Tryd.ntmps35 le_ fun X0 w0 S00 => ?_
 refine sr_ ?_
 refine om_ ?_
 refine nm_ [0, 1] ?_
 refine CD.seq ?_
 refine sr_ ?_
 refine om_ ?_
 refine os_ ln_ ?_
 refine om_ ?_
 refine os_ ln_ ?_
 refine os_ bn_ ?_
 refine nm_ [0, 1, 10] ?_
 refine CD.cond ot (fun hc0 => ?_) (fun hc0 => ?_)
 ·exact absurd hc0 (by simp)
 have hc0' := hc0
 (try simp only [V.cnd, ne_eq] at hc0')
 refine CD.skip ?_
 refine CD.seq ?_
 refine sr_ ?_
 refine om_ ?_
 refine nm_ [0, 1, 5] ?_
 refine CD.block ?_
 refine lp_ (fun (i : Nat) y__ => (i ≤ ts.length) ∧ y__ = (⟨26, [(0, .list 3 (ts.flatMap cT) ts.length), (1, .list 3 (ts.flatMap cT) ts.length), (5, .v (.int .i64 (i : Nat)))], []⟩ : St)) (fun (i : Nat) => ts.length - i) 0 ⟨(Nat.zero_le _), rfl⟩ (Wk.asS rfl sv_ sq_) ?_
 rintro i _ ⟨hi, rfl⟩
 refine CD.seq ?_
 refine sr_ ?_
 refine om_ ?_
 refine om_ ?_
 refine os_ ln_ ?_
 refine os_ bn_ ?_
 refine nm_ [0, 1, 5, 14] ?_
 refine CD.cond ot (fun hc1 => ?_) (fun hc1 => ?_)
 ·have hc1' := hc1
  (try simp only [V.cnd, ne_eq] at hc1')
  have hlt : i < ts.length := by omega
  refine CD.skip ?_
  refine CD.seq ?_
  refine CD.block ?_
  refine CD.seq ?_
  refine CD.draw (bks _) kr_ (fun _ h => h) ?_
  refine a0_ 0 rfl mv_ ?_
  refine a0_ 1 rfl mv_ ?_
  refine a0_ 2 rfl (ix_ 3) ?_
  refine a0_ 3 rfl (la_ [_, _, _]) ?_
  refine a0_ 4 rfl mv_ ?_
  refine a0_ 5 rfl mv_ ?_
  refine a0_ 6 rfl (ix_ 3) ?_
  refine a0_ 7 rfl (la_ [_, _, _]) ?_
  refine a0_ 8 rfl (still_neS (us := [_, _, _]) (us' := [_, _, _]) rfl ot ot Tryd.eqGuardType24 (eqs24 ts[i] ts[i])) ?_
  refine AD0.later rfl ?_
  refine aw_ [(0, _), (1, _), (5, _), (25, _)] [] ?_
  refine AD.done kr_ ?_
  refine CD.cond ot (fun hc2 => ?_) (fun hc2 => ?_)
  ·exact absurd hc2 (by simp)
  have hc2' := hc2
  (try simp only [V.cnd, ne_eq] at hc2')
  refine CD.skip ?_
  refine CD.region ?_
  refine om_ ?_
  refine os_ bn_ ?_
  refine om_ ?_
  refine nm_ [0, 1, 5] ?_
  refine ⟨(i + 1), _, ?_, ?_, (by omega), rfl⟩
  ·first | omega | (simp only []; omega)
  exact Wk.asS (n := 26) rfl sv_ sq_
 have hc1' := hc1
 (try simp only [V.cnd, ne_eq] at hc1')
 refine CD.exit ?_
 refine sr_ ?_
 refine om_ ?_
 refine nm_ [4] ?_
 refine CD.ret ?_
 refine r1_ ?_
 exact ⟨by first | rfl | (simp [*]; done), rfl⟩

set_option maxHeartbeats 4000000 in
set_option maxRecDepth 100000 in
theorem sameS_vp (hm : (0, marksC) ∈ G) (hw : (2, wordsC) ∈ G) (hty : (1, typesC) ∈ G) (s : StL) (hf : FinS s) (h0 : CheckF s = 0) : VP Tryd.prog G 18 [.agg (cSt s), .agg (cSt s)] (.v (.bool true)) := by
 refine VC.body Tryd.func18 rfl Tryd.ntmps18 le_ fun X0 w0 S00 => ?_
 have hsv := Show_vp hm hw hty s hf
 rw [show ShowF s = (showS s, 0) from if_neg (fun h => h h0)] at hsv
 have hsl := (Check_0 h0).2.2.2
 unfold cSt at hsv
 unfold cSt
 refine sr_ ?_
 refine OD.box (ds := [_, _, _, _, _, _, _, _, _, _, _, _]) wp_ rfl rfl ot rfl rfl (fun b2 => ?_)
 refine OD.box (ds := [_, _, _, _, _, _, _, _, _, _, _, _]) wp_ rfl rfl ot rfl rfl (fun b3 => ?_)
 refine om_ ?_
 refine on_ [(2, _), (3, _)] [⟨b3, 32, 12, [_, _, _, _, _, _, _, _, _, _, _, _]⟩, ⟨b2, 32, 12, [_, _, _, _, _, _, _, _, _, _, _, _]⟩] ?_
 refine sr_ ?_
 refine os_ (lab_ 1 [_, _, _, _, _, _, _, _, _, _, _, _]) ?_
 refine oc_ Tryd.call16 (hsv) ?_
 refine om_ ?_
 refine os_ ex_ ?_
 refine os_ ex_ ?_
 refine om_ ?_
 refine om_ ?_
 refine on_ [(2, _), (3, _), (5, _), (6, _)] [⟨b3, 32, 12, [_, _, _, _, _, _, _, _, _, _, _, _]⟩, ⟨b2, 32, 12, [_, _, _, _, _, _, _, _, _, _, _, _]⟩] ?_
 refine sr_ ?_
 refine os_ (lab_ 0 [_, _, _, _, _, _, _, _, _, _, _, _]) ?_
 refine oc_ Tryd.call16 (hsv) ?_
 refine om_ ?_
 refine os_ ex_ ?_
 refine os_ ex_ ?_
 refine om_ ?_
 refine om_ ?_
 refine on_ [(2, _), (3, _), (5, _), (6, _), (7, _), (8, _)] [⟨b3, 32, 12, [_, _, _, _, _, _, _, _, _, _, _, _]⟩, ⟨b2, 32, 12, [_, _, _, _, _, _, _, _, _, _, _, _]⟩] ?_
 refine sr_ ?_
 refine om_ ?_
 refine os_ bn_ ?_
 refine om_ ?_
 refine OD.split (t := 21) lk (fun hg21 => ?_) (fun hg21 => ?_)
 ·have hg21' := hg21; (try simp only [V.cnd, ne_eq] at hg21')
  refine om_ ?_
  refine os_ bn_ ?_
  refine os_ pkT_ ?_
  refine om_ ?_
  refine OD.split (t := 25) lk (fun hg25 => ?_) (fun hg25 => ?_)
  ·have hg25' := hg25; (try simp only [V.cnd, ne_eq] at hg25')
   refine os_ (fa_ 0) ?_
   refine os_ (lb_ 1) ?_
   refine os_ (fa_ 0) ?_
   refine os_ (lb_ 0) ?_
   refine os_ bn_ ?_
   refine os_ pkT_ ?_
   refine om_ ?_
   refine OD.split (t := 32) lk (fun hg32 => ?_) (fun hg32 => ?_)
   ·have hg32' := hg32; (try simp only [V.cnd, ne_eq] at hg32')
    refine os_ (fa_ 1) ?_
    refine os_ (lb_ 1) ?_
    refine os_ (fa_ 1) ?_
    refine os_ (lb_ 0) ?_
    refine os_ bn_ ?_
    refine os_ pkT_ ?_
    refine om_ ?_
    refine OD.split (t := 39) lk (fun hg39 => ?_) (fun hg39 => ?_)
    ·have hg39' := hg39; (try simp only [V.cnd, ne_eq] at hg39')
     refine os_ (fa_ 9) ?_
     refine os_ (lb_ 1) ?_
     refine os_ (fa_ 9) ?_
     refine os_ (lb_ 0) ?_
     refine os_ bn_ ?_
     refine os_ pkT_ ?_
     refine om_ ?_
     refine OD.split (t := 46) lk (fun hg46 => ?_) (fun hg46 => ?_)
     ·have hg46' := hg46; (try simp only [V.cnd, ne_eq] at hg46')
      refine os_ (fa_ 6) ?_
      refine os_ (lb_ 1) ?_
      refine os_ ln_ ?_
      refine os_ (fa_ 6) ?_
      refine os_ (lb_ 0) ?_
      refine os_ ln_ ?_
      refine os_ bn_ ?_
      refine os_ pkT_ ?_
      refine om_ ?_
      refine OD.split (t := 55) lk (fun hg55 => ?_) (fun hg55 => ?_)
      ·have hg55' := hg55; (try simp only [V.cnd, ne_eq] at hg55')
       refine os_ (fa_ 3) ?_
       refine os_ (lb_ 1) ?_
       refine os_ ln_ ?_
       refine os_ (fa_ 3) ?_
       refine os_ (lb_ 0) ?_
       refine os_ ln_ ?_
       refine os_ bn_ ?_
       refine os_ pkT_ ?_
       refine om_ ?_
       refine OD.split (t := 64) lk (fun hg64 => ?_) (fun hg64 => ?_)
       ·have hg64' := hg64; (try simp only [V.cnd, ne_eq] at hg64')
        refine om_ ?_
        refine om_ ?_
        refine OD.callP wt_ rfl rfl rfl Tryd.call35 (sameT_vp (showS s) (by omega)) ⟨ot, ot, trivial⟩ ?_
        refine os_ pkT_ ?_
        refine om_ ?_
        refine on_ [(4, _)] [⟨b3, 32, 12, [_, _, _, _, _, _, _, _, _, _, _, _]⟩, ⟨b2, 32, 12, [_, _, _, _, _, _, _, _, _, _, _, _]⟩] ?_
        refine CD.ret ?_
        refine ⟨.inr rfl, rt_ Tryd.results18 ?_⟩
        exact ⟨rfl, rfl⟩
       exact absurd hg64 (by simp)
      exact absurd hg55 (by simp)
     exact absurd hg46 (by simp)
    exact absurd hg39 (by simp)
   exact absurd hg32 (by simp)
  exact absurd hg25 (by simp)
 exact absurd hg21 (by simp)

end Go.Proofs.YtjgekbmahhhokaaDoor.Pa

namespace Go.Proofs.YtjgekbmahhhokaaDoor.Pa
open Go.RowKit V Pk Go.Proofs.YtjgekbmahhhokaaDoor.Vl Go.Proofs.YtjgekbmahhhokaaDoor.Nm
set_option linter.unusedVariables false
set_option linter.unusedSimpArgs false

def isR (r : List Tk) (k : Int) (s : ByteArray) : Bool := match r with
 | [] => false
 | t :: _ => (t.k == k) && eqS t.s s
theorem isQ_R (l : List Tk) (p : Nat) (k : Int) (s : ByteArray) : isQ l p k s = isR (l.drop p) k s := by
 by_cases h : p < l.length
 ·rw [isQ_T h, List.drop_eq_getElem_cons h]; rfl
 rw [isQ_F h, List.drop_of_length_le (by omega)]; rfl
theorem drop_at {l : List Tk} {p : Nat} {t : Tk} {r : List Tk} (h : l.drop p = t :: r) : ∃ hp : p < l.length, l[p] = t ∧ l.drop (p + 1) = r := by
 have hp : p < l.length := by have := congrArg List.length h; simp at this; omega
 rw [List.drop_eq_getElem_cons hp] at h
 injection h with h1 h2
 exact ⟨hp, h1, h2⟩
theorem drop_app {l : List Tk} {p : Nat} {a r : List Tk} (h : l.drop p = a ++ r) : l.drop (p + a.length) = r := by
 rw [← List.drop_drop, h, List.drop_left]
theorem size_0 {s : ByteArray} (h : s.size = 0) : s = ⟨#[]⟩ := by
 obtain ⟨d⟩ := s
 have : d = #[] := Array.eq_empty_of_size_eq_zero h
 rw [this]
theorem kept_no {s : ByteArray} (h : nameF s = 0) {w : ByteArray} (hw : w ∈ wordsL) : eqS s w = false := by
 unfold nameF at h
 split at h
 ·cases h
 split at h
 ·cases h
 rename_i h2
 cases he : eqS s w with
 | false => rfl
 | true => exact absurd (by rw [Bool.or_eq_true]; exact .inr (List.any_eq_true.2 ⟨w, hw, he⟩)) h2
theorem name_ok {s : ByteArray} (h : nameF s = 0) : okWord s = true ∧ s.size ≤ 8 := by
 unfold nameF at h
 split at h
 ·cases h
 split at h
 ·cases h
 rename_i h1 h2
 rw [Bool.or_eq_true, Bool.not_eq_true'] at h2
 refine ⟨?_, by omega⟩
 cases hw : okWord s with
 | true => rfl
 | false => exact absurd (.inl hw) h2
theorem isR_word (s : ByteArray) (r : List Tk) (w : ByteArray) : isR (wordT s :: r) 1 w = eqS s w := by
 show ((1 : Int) == 1 && eqS s w) = _; simp
theorem isR_k {t : Tk} {r : List Tk} {k : Int} {s : ByteArray} (h : (t.k == k) = false) : isR (t :: r) k s = false := by
 show (t.k == k && eqS t.s s) = false; rw [h]; rfl
theorem nq_w {l : List Tk} {p : Nat} {s w : ByteArray} {r : List Tk} (hd : l.drop p = wordT s :: r) (h : eqS s w = false) : ¬ isQ l p 1 w = true := by rw [isQ_R, hd, isR_word, h]; exact Bool.false_ne_true
theorem yq_w {l : List Tk} {p : Nat} {s w : ByteArray} {r : List Tk} (hd : l.drop p = wordT s :: r) (h : eqS s w = true) : isQ l p 1 w = true := by rw [isQ_R, hd, isR_word, h]
theorem nq_k {l : List Tk} {p : Nat} {t : Tk} {k : Int} {w : ByteArray} {r : List Tk} (hd : l.drop p = t :: r) (h : (t.k == k) = false) : ¬ isQ l p k w = true := by rw [isQ_R, hd, isR_k h]; exact Bool.false_ne_true
theorem yq_m {l : List Tk} {p : Nat} {w : ByteArray} {r : List Tk} (hd : l.drop p = markT w :: r) : isQ l p 4 w = true := by
 rw [isQ_R, hd]; show ((4 : Int) == 4 && eqS w w) = true; rw [eqS_iff.2 rfl]; rfl
theorem nq_m {l : List Tk} {p : Nat} {s w : ByteArray} {r : List Tk} (hd : l.drop p = markT s :: r) (h : eqS s w = false) : ¬ isQ l p 4 w = true := by
 rw [isQ_R, hd]; show ¬ ((4 : Int) == 4 && eqS s w) = true; rw [h]; decide
theorem lit_of {v : Vl} (h : litF v = 0) {l : List Tk} {p : Nat} {r : List Tk} (ops : List OpL) (hd : l.drop p = showV v ++ r) : litP l p ops = .ok (v, true) (p + (showV v).length) ops := by
 obtain ⟨k, n, s⟩ := v
 have hc : checkV ⟨k, n, s⟩ = 0 ∧ ¬ (k = 2 ∧ n = -9223372036854775808) := by
  unfold litF at h
  split at h
  ·cases h
  exact ⟨h, by assumption⟩
 obtain ⟨hc, -⟩ := hc
 unfold checkV at hc
 dsimp only at hc
 by_cases h0 : k = 0
 ·subst h0
  rw [if_pos rfl] at hc
  have hn : n = 0 ∧ s.size = 0 := by (split at hc; cases hc; constructor <;> omega)
  obtain ⟨rfl, hs⟩ := hn
  rw [size_0 hs] at hd ⊢
  have e : showV ⟨0, 0, ⟨#[]⟩⟩ = [wordT ⟨#[78, 85, 76, 76]⟩] := by unfold showV; rw [if_pos rfl]
  rw [e] at hd ⊢
  unfold litP
  rw [if_pos (yq_w hd (by decide +kernel))]; rfl
 rw [if_neg h0] at hc
 by_cases h1 : k = 1
 ·subst h1
  rw [if_pos rfl] at hc
  have hn : (n = 0 ∨ n = 1) ∧ s.size = 0 := by (split at hc; cases hc; constructor <;> omega)
  obtain ⟨hn, hs⟩ := hn
  rw [size_0 hs] at hd ⊢
  rcases hn with rfl | rfl
  ·have e : showV ⟨1, 0, ⟨#[]⟩⟩ = [wordT ⟨#[70, 65, 76, 83, 69]⟩] := by unfold showV; rw [if_neg (by show ¬ (1 : Int) = 0; decide), if_pos rfl, if_pos rfl]
   rw [e] at hd ⊢
   unfold litP
   rw [if_neg (nq_w hd (by decide +kernel)), if_neg (nq_w hd (by decide +kernel)), if_pos (yq_w hd (by decide +kernel))]; rfl
  have e : showV ⟨1, 1, ⟨#[]⟩⟩ = [wordT ⟨#[84, 82, 85, 69]⟩] := by unfold showV; rw [if_neg (by show ¬ (1 : Int) = 0; decide), if_pos rfl, if_neg (by show ¬ (1 : Int) = 0; decide)]
  rw [e] at hd ⊢
  unfold litP
  rw [if_neg (nq_w hd (by decide +kernel)), if_pos (yq_w hd (by decide +kernel))]; rfl
 rw [if_neg h1] at hc
 by_cases h2 : k = 2
 ·subst h2
  rw [if_pos rfl] at hc
  have hs : s.size = 0 := by (split at hc; cases hc; omega)
  rw [size_0 hs] at hd ⊢
  by_cases hn : n < 0
  ·have e : showV ⟨2, n, ⟨#[]⟩⟩ = [markT ⟨#[45]⟩, ⟨2, ⟨#[]⟩, -n⟩] := by unfold showV; rw [if_neg (by show ¬ (2 : Int) = 0; decide), if_neg (by show ¬ (2 : Int) = 1; decide), if_neg (by show ¬ (2 : Int) = 3; decide), if_pos hn]
   rw [e] at hd ⊢
   obtain ⟨hp, e1, hd2⟩ := drop_at hd
   obtain ⟨hp2, e2, _⟩ := drop_at hd2
   unfold litP
   rw [if_neg (nq_k hd rfl), if_neg (nq_k hd rfl), if_neg (nq_k hd rfl), dif_neg (by rw [tk_at hp, e1]; exact fun h => absurd h.2 (by show ¬ (4 : Int) = 3; decide)), if_pos (yq_m hd), dif_pos ⟨hp2, by rw [tk_at hp2, e2]⟩]
   show (Rs.ok ((⟨2, -(l[p + 1]'hp2).n, ⟨#[]⟩⟩ : Vl), true) _ _ : Rs (Vl × Bool)) = _
   rw [e2]; simp
  have e : showV ⟨2, n, ⟨#[]⟩⟩ = [⟨2, ⟨#[]⟩, n⟩] := by unfold showV; rw [if_neg (by show ¬ (2 : Int) = 0; decide), if_neg (by show ¬ (2 : Int) = 1; decide), if_neg (by show ¬ (2 : Int) = 3; decide), if_neg hn]
  rw [e] at hd ⊢
  obtain ⟨hp, e1, hd2⟩ := drop_at hd
  unfold litP
  rw [if_neg (nq_k hd rfl), if_neg (nq_k hd rfl), if_neg (nq_k hd rfl), dif_neg (by rw [tk_at hp, e1]; exact fun h => absurd h.2 (by show ¬ (2 : Int) = 3; decide)), if_neg (nq_k hd rfl), dif_pos ⟨hp, by rw [tk_at hp, e1]⟩]
  show (Rs.ok ((⟨2, (l[p]'hp).n, ⟨#[]⟩⟩ : Vl), true) _ _ : Rs (Vl × Bool)) = _
  rw [e1]; rfl
 rw [if_neg h2] at hc
 by_cases h3 : k = 3
 ·subst h3
  rw [if_pos rfl] at hc
  have hn : n = 0 ∧ s.size ≤ 20 := by (split at hc; cases hc; split at hc; cases hc; constructor <;> omega)
  obtain ⟨rfl, hs⟩ := hn
  have e : showV ⟨3, 0, s⟩ = [⟨3, s, 0⟩] := by unfold showV; rw [if_neg (by show ¬ (3 : Int) = 0; decide), if_neg (by show ¬ (3 : Int) = 1; decide), if_pos rfl]
  rw [e] at hd ⊢
  obtain ⟨hp, e1, hd2⟩ := drop_at hd
  unfold litP
  rw [if_neg (nq_k hd rfl), if_neg (nq_k hd rfl), if_neg (nq_k hd rfl), dif_pos ⟨hp, by rw [tk_at hp, e1]⟩, if_neg (by rw [e1]; show ¬ s.size > 20; omega)]
  rw [e1]; rfl
 rw [if_neg h3] at hc; cases hc
theorem lit_no {l : List Tk} {p : Nat} {t : Tk} {r : List Tk} (ops : List OpL) (hd : l.drop p = t :: r) (h1 : ¬ isQ l p 1 wNULL = true) (h2 : ¬ isQ l p 1 wTRUE = true) (h3 : ¬ isQ l p 1 wFALSE = true) (h4 : t.k ≠ 3) (h5 : ¬ isQ l p 4 ⟨#[45]⟩ = true) (h6 : t.k ≠ 2) : litP l p ops = .ok (noVl, false) p ops := by
 obtain ⟨hp, e1, -⟩ := drop_at hd
 unfold litP
 rw [if_neg h1, if_neg h2, if_neg h3, dif_neg (by rw [tk_at hp, e1]; exact fun h => h4 h.2), if_neg h5, dif_neg (by rw [tk_at hp, e1]; exact fun h => h6 h.2)]
theorem name_of {l : List Tk} {p : Nat} {s : ByteArray} {r : List Tk} (ops : List OpL) (h : nameF s = 0) (hd : l.drop p = wordT s :: r) : nameP l p ops = .ok s (p + 1) ops := by
 obtain ⟨hp, e1, -⟩ := drop_at hd
 unfold nameP
 rw [dif_pos hp, e1, if_neg (by show ¬ (1 : Int) ≠ 1; decide), if_neg (by show ¬ nameF s ≠ 0; omega)]; rfl
theorem must_of {l : List Tk} {p : Nat} {w : ByteArray} {r : List Tk} (ops : List OpL) (hd : l.drop p = wordT w :: r) : mustP l [w] p ops = .ok () (p + 1) ops := by
 rw [mustP, if_pos (by rw [isQ_R, hd, isR_word]; exact eqS_iff.2 rfl)]; rfl
theorem mark_of {l : List Tk} {p : Nat} {w : ByteArray} {r : List Tk} (ops : List OpL) (hd : l.drop p = markT w :: r) : markP l w p ops = .ok () (p + 1) ops := by
 unfold markP
 rw [if_pos (by rw [isQ_R, hd]; show ((4 : Int) == 4 && eqS w w) = true; rw [eqS_iff.2 rfl]; rfl)]
/-! The levels, one by one. -/
theorem prim_eq (l : List Tk) (n p : Nat) (ops : List OpL) : exP l (n + 1) .prim p ops = (litP l p ops).bind fun v p ops => if v.2 = true then putP l ⟨1, v.1, ⟨#[]⟩⟩ p ops
   else if isQ l p 4 ⟨#[40]⟩ = true then (exP l n .or (p + 1) ops).bind fun _ p ops => markP l ⟨#[41]⟩ p ops
   else (nameP l p ops).bind fun s p ops => putP l ⟨2, noVl, s⟩ p ops := by rw [exP]
theorem prod_eq (l : List Tk) (n p : Nat) (ops : List OpL) : exP l (n + 1) .prod p ops = (exP l n .prim p ops).bind fun _ p ops => exP l n .prodL p ops := by rw [exP]
theorem prodL_eq (l : List Tk) (n p : Nat) (ops : List OpL) : exP l (n + 1) .prodL p ops = if isQ l p 4 ⟨#[42]⟩ = true then (exP l n .prim (p + 1) ops).bind fun _ p ops => (putP l (opN 10) p ops).bind fun _ p ops => exP l n .prodL p ops else .ok () p ops := by rw [exP]
theorem sum_eq (l : List Tk) (n p : Nat) (ops : List OpL) : exP l (n + 1) .sum p ops = (exP l n .prod p ops).bind fun _ p ops => exP l n .sumL p ops := by rw [exP]
theorem sumL_eq (l : List Tk) (n p : Nat) (ops : List OpL) : exP l (n + 1) .sumL p ops = if isQ l p 4 ⟨#[43]⟩ = true then (exP l n .prod (p + 1) ops).bind fun _ p ops => (putP l (opN 8) p ops).bind fun _ p ops => exP l n .sumL p ops
   else if isQ l p 4 ⟨#[45]⟩ = true then (exP l n .prod (p + 1) ops).bind fun _ p ops => (putP l (opN 9) p ops).bind fun _ p ops => exP l n .sumL p ops
   else .ok () p ops := by rw [exP]
theorem not_eq (l : List Tk) (n p : Nat) (ops : List OpL) : exP l (n + 1) .not p ops = if isQ l p 1 ⟨#[78, 79, 84]⟩ = true then (exP l n .not (p + 1) ops).bind fun _ p ops => putP l (opN 5) p ops else exP l n .comp p ops := by rw [exP]
theorem and_eq (l : List Tk) (n p : Nat) (ops : List OpL) : exP l (n + 1) .and p ops = (exP l n .not p ops).bind fun _ p ops => exP l n .andL p ops := by rw [exP]
theorem andL_eq (l : List Tk) (n p : Nat) (ops : List OpL) : exP l (n + 1) .andL p ops = if isQ l p 1 ⟨#[65, 78, 68]⟩ = true then (exP l n .not (p + 1) ops).bind fun _ p ops => (putP l (opN 3) p ops).bind fun _ p ops => exP l n .andL p ops else .ok () p ops := by rw [exP]
theorem or_eq (l : List Tk) (n p : Nat) (ops : List OpL) : exP l (n + 1) .or p ops = (exP l n .and p ops).bind fun _ p ops => exP l n .orL p ops := by rw [exP]
theorem orL_eq (l : List Tk) (n p : Nat) (ops : List OpL) : exP l (n + 1) .orL p ops = if isQ l p 1 ⟨#[79, 82]⟩ = true then (exP l n .and (p + 1) ops).bind fun _ p ops => (putP l (opN 4) p ops).bind fun _ p ops => exP l n .orL p ops else .ok () p ops := by rw [exP]
theorem comp_eq2 (l : List Tk) (n p : Nat) (ops : List OpL) : exP l (n + 1) .comp p ops = (exP l n .sum p ops).bind (fun _ p1 o1 => compK l n ops.length p1 o1) := comp_eq
theorem bind_cong {α β : Type} {r r' : Rs α} {f f' : α → Nat → List OpL → Rs β} (h : r.bind f ≠ .stuck) (h1 : r ≠ .stuck → r' = r) (h2 : ∀ v p o, f v p o ≠ .stuck → f' v p o = f v p o) : r'.bind f' = r.bind f := by
 rw [h1 (bind_ns h)]
 cases r with
 | ok v p o => exact h2 v p o h
 | no p e => rfl
 | stuck => rfl
theorem exP_mono (l : List Tk) : ∀ (n : Nat) (lv : Lv) (p : Nat) (ops : List OpL), exP l n lv p ops ≠ .stuck → exP l (n + 1) lv p ops = exP l n lv p ops
 | 0, lv, p, ops, h => absurd (by rw [exP]) h
 | n + 1, .prim, p, ops, h => by
  rw [prim_eq l n] at h
  rw [prim_eq l (n + 1) p ops, prim_eq l n p ops]
  refine bind_cong h (fun _ => rfl) fun v p o h => ?_
  split
  ·rfl
  split
  ·rw [if_neg (by assumption), if_pos (by assumption)] at h
   exact bind_cong h (exP_mono l n _ _ _) fun _ _ _ _ => rfl
  rfl
 | n + 1, .prod, p, ops, h => by
  rw [prod_eq l n] at h
  rw [prod_eq l (n + 1) p ops, prod_eq l n p ops]
  exact bind_cong h (exP_mono l n _ _ _) fun _ _ _ h => exP_mono l n _ _ _ h
 | n + 1, .sum, p, ops, h => by
  rw [sum_eq l n] at h
  rw [sum_eq l (n + 1) p ops, sum_eq l n p ops]
  exact bind_cong h (exP_mono l n _ _ _) fun _ _ _ h => exP_mono l n _ _ _ h
 | n + 1, .and, p, ops, h => by
  rw [and_eq l n] at h
  rw [and_eq l (n + 1) p ops, and_eq l n p ops]
  exact bind_cong h (exP_mono l n _ _ _) fun _ _ _ h => exP_mono l n _ _ _ h
 | n + 1, .or, p, ops, h => by
  rw [or_eq l n] at h
  rw [or_eq l (n + 1) p ops, or_eq l n p ops]
  exact bind_cong h (exP_mono l n _ _ _) fun _ _ _ h => exP_mono l n _ _ _ h
 | n + 1, .not, p, ops, h => by
  rw [not_eq l n] at h
  rw [not_eq l (n + 1) p ops, not_eq l n p ops]
  by_cases hq : isQ l p 1 ⟨#[78, 79, 84]⟩ = true
  ·rw [if_pos hq] at h
   rw [if_pos hq, if_pos hq]
   exact bind_cong h (exP_mono l n _ _ _) fun _ _ _ _ => rfl
  rw [if_neg hq] at h
  rw [if_neg hq, if_neg hq]
  exact exP_mono l n _ _ _ h
 | n + 1, .prodL, p, ops, h => by
  rw [prodL_eq l n] at h
  rw [prodL_eq l (n + 1) p ops, prodL_eq l n p ops]
  split
  ·rw [if_pos (by assumption)] at h
   exact bind_cong h (exP_mono l n _ _ _) fun _ _ _ h => bind_cong h (fun _ => rfl) fun _ _ _ h => exP_mono l n _ _ _ h
  rfl
 | n + 1, .andL, p, ops, h => by
  rw [andL_eq l n] at h
  rw [andL_eq l (n + 1) p ops, andL_eq l n p ops]
  split
  ·rw [if_pos (by assumption)] at h
   exact bind_cong h (exP_mono l n _ _ _) fun _ _ _ h => bind_cong h (fun _ => rfl) fun _ _ _ h => exP_mono l n _ _ _ h
  rfl
 | n + 1, .orL, p, ops, h => by
  rw [orL_eq l n] at h
  rw [orL_eq l (n + 1) p ops, orL_eq l n p ops]
  split
  ·rw [if_pos (by assumption)] at h
   exact bind_cong h (exP_mono l n _ _ _) fun _ _ _ h => bind_cong h (fun _ => rfl) fun _ _ _ h => exP_mono l n _ _ _ h
  rfl
 | n + 1, .sumL, p, ops, h => by
  rw [sumL_eq l n] at h
  rw [sumL_eq l (n + 1) p ops, sumL_eq l n p ops]
  split
  ·rw [if_pos (by assumption)] at h
   exact bind_cong h (exP_mono l n _ _ _) fun _ _ _ h => bind_cong h (fun _ => rfl) fun _ _ _ h => exP_mono l n _ _ _ h
  split
  ·rw [if_neg (by assumption), if_pos (by assumption)] at h
   exact bind_cong h (exP_mono l n _ _ _) fun _ _ _ h => bind_cong h (fun _ => rfl) fun _ _ _ h => exP_mono l n _ _ _ h
  rfl
 | n + 1, .comp, p, ops, h => by
  rw [comp_eq2 l n] at h
  rw [comp_eq2 l (n + 1) p ops, comp_eq2 l n p ops]
  refine bind_cong h (exP_mono l n _ _ _) fun _ p1 o1 h => ?_
  unfold compK at h ⊢
  split
  ·rfl
  rw [if_neg (by assumption)] at h
  split
  ·rfl
  rename_i m hm
  rw [hm] at h
  exact bind_cong h (exP_mono l n _ _ _) fun _ _ _ _ => rfl
theorem exP_more {l : List Tk} {n : Nat} {lv : Lv} {p : Nat} {ops : List OpL} (h : exP l n lv p ops ≠ .stuck) : ∀ k, exP l (n + k) lv p ops = exP l n lv p ops
 | 0 => rfl
 | k + 1 => by
  have ih := exP_more h k
  rw [← Nat.add_assoc, exP_mono l (n + k) lv p ops (by rw [ih]; exact h), ih]
def PX (l : List Tk) (lv : Lv) (p : Nat) (ops : List OpL) (q : Nat) (os : List OpL) : Prop := ∃ n, ∀ m, n ≤ m → exP l m lv p ops = .ok () q os
theorem PX.done {l : List Tk} {lv : Lv} {p q n : Nat} {ops os : List OpL} (h : PX l lv p ops q os) (hs : exP l n lv p ops ≠ .stuck) : exP l n lv p ops = .ok () q os := by
 obtain ⟨k, hk⟩ := h
 rw [← exP_more hs k]; exact hk _ (by omega)
theorem put_of {l : List Tk} {o : OpL} {p : Nat} {ops : List OpL} (h : ops.length ≠ 40) : putP l o p ops = .ok () p (ops ++ [o]) := by unfold putP; rw [if_neg h]
variable {l : List Tk} {p p1 p2 q : Nat} {ops o1 o2 os : List OpL}
theorem PX.prim_lit {v : Vl} (h : litP l p ops = .ok (v, true) q ops) (h4 : ops.length ≠ 40) : PX l .prim p ops q (ops ++ [⟨1, v, ⟨#[]⟩⟩]) := ⟨1, fun m hm => by
 obtain ⟨m, rfl⟩ : ∃ k, m = k + 1 := ⟨m - 1, by omega⟩
 rw [prim_eq, h, bind_ok, if_pos rfl, put_of h4]⟩
theorem PX.prim_col {s : ByteArray} {r : List Tk} (hn : nameF s = 0) (hd : l.drop p = wordT s :: r) (h4 : ops.length ≠ 40) : PX l .prim p ops (p + 1) (ops ++ [⟨2, noVl, s⟩]) := ⟨1, fun m hm => by
 obtain ⟨m, rfl⟩ : ∃ k, m = k + 1 := ⟨m - 1, by omega⟩
 rw [prim_eq, lit_no ops hd (nq_w hd (kept_no hn (List.mem_of_getElem? (i := 24) rfl))) (nq_w hd (kept_no hn (List.mem_of_getElem? (i := 25) rfl))) (nq_w hd (kept_no hn (List.mem_of_getElem? (i := 26) rfl))) (by show (1 : Int) ≠ 3; decide) (nq_k hd rfl) (by show (1 : Int) ≠ 2; decide), bind_ok, if_neg Bool.false_ne_true, if_neg (nq_k hd rfl), name_of ops hn hd, bind_ok, put_of h4]⟩
theorem PX.prim_par {r : List Tk} (hd : l.drop p = markT ⟨#[40]⟩ :: r) (h1 : PX l .or (p + 1) ops q os) {r2 : List Tk} (hd2 : l.drop q = markT ⟨#[41]⟩ :: r2) : PX l .prim p ops (q + 1) os := by
 obtain ⟨n1, h1⟩ := h1
 refine ⟨n1 + 1, fun m hm => ?_⟩
 obtain ⟨m, rfl⟩ : ∃ k, m = k + 1 := ⟨m - 1, by omega⟩
 rw [prim_eq, lit_no ops hd (nq_k hd rfl) (nq_k hd rfl) (nq_k hd rfl) (by show (4 : Int) ≠ 3; decide) (nq_m hd (by decide +kernel)) (by show (4 : Int) ≠ 2; decide), bind_ok, if_neg Bool.false_ne_true, if_pos (yq_m hd), h1 m (by omega), bind_ok, mark_of os hd2]

theorem PX.prod (h1 : PX l .prim p ops p1 o1) (h2 : PX l .prodL p1 o1 q os) : PX l .prod p ops q os := by
 obtain ⟨n1, h1⟩ := h1; obtain ⟨n2, h2⟩ := h2
 refine ⟨n1 + n2 + 1, fun m hm => ?_⟩
 obtain ⟨m, rfl⟩ : ∃ k, m = k + 1 := ⟨m - 1, by omega⟩
 rw [prod_eq, h1 m (by omega), bind_ok, h2 m (by omega)]

theorem PX.sum (h1 : PX l .prod p ops p1 o1) (h2 : PX l .sumL p1 o1 q os) : PX l .sum p ops q os := by
 obtain ⟨n1, h1⟩ := h1; obtain ⟨n2, h2⟩ := h2
 refine ⟨n1 + n2 + 1, fun m hm => ?_⟩
 obtain ⟨m, rfl⟩ : ∃ k, m = k + 1 := ⟨m - 1, by omega⟩
 rw [sum_eq, h1 m (by omega), bind_ok, h2 m (by omega)]

theorem PX.and (h1 : PX l .not p ops p1 o1) (h2 : PX l .andL p1 o1 q os) : PX l .and p ops q os := by
 obtain ⟨n1, h1⟩ := h1; obtain ⟨n2, h2⟩ := h2
 refine ⟨n1 + n2 + 1, fun m hm => ?_⟩
 obtain ⟨m, rfl⟩ : ∃ k, m = k + 1 := ⟨m - 1, by omega⟩
 rw [and_eq, h1 m (by omega), bind_ok, h2 m (by omega)]

theorem PX.or (h1 : PX l .and p ops p1 o1) (h2 : PX l .orL p1 o1 q os) : PX l .or p ops q os := by
 obtain ⟨n1, h1⟩ := h1; obtain ⟨n2, h2⟩ := h2
 refine ⟨n1 + n2 + 1, fun m hm => ?_⟩
 obtain ⟨m, rfl⟩ : ∃ k, m = k + 1 := ⟨m - 1, by omega⟩
 rw [or_eq, h1 m (by omega), bind_ok, h2 m (by omega)]

theorem PX.prodL_stop (h0 : isR (l.drop p) 4 ⟨#[42]⟩ = false) : PX l .prodL p ops p ops := ⟨1, fun m hm => by
 obtain ⟨m, rfl⟩ : ∃ k, m = k + 1 := ⟨m - 1, by omega⟩
 rw [prodL_eq, if_neg (by rw [isQ_R, h0]; decide)]⟩

theorem PX.sumL_stop (h0 : isR (l.drop p) 4 ⟨#[43]⟩ = false) (h1 : isR (l.drop p) 4 ⟨#[45]⟩ = false) : PX l .sumL p ops p ops := ⟨1, fun m hm => by
 obtain ⟨m, rfl⟩ : ∃ k, m = k + 1 := ⟨m - 1, by omega⟩
 rw [sumL_eq, if_neg (by rw [isQ_R, h0]; decide), if_neg (by rw [isQ_R, h1]; decide)]⟩

theorem PX.andL_stop (h0 : isR (l.drop p) 1 ⟨#[65, 78, 68]⟩ = false) : PX l .andL p ops p ops := ⟨1, fun m hm => by
 obtain ⟨m, rfl⟩ : ∃ k, m = k + 1 := ⟨m - 1, by omega⟩
 rw [andL_eq, if_neg (by rw [isQ_R, h0]; decide)]⟩

theorem PX.orL_stop (h0 : isR (l.drop p) 1 ⟨#[79, 82]⟩ = false) : PX l .orL p ops p ops := ⟨1, fun m hm => by
 obtain ⟨m, rfl⟩ : ∃ k, m = k + 1 := ⟨m - 1, by omega⟩
 rw [orL_eq, if_neg (by rw [isQ_R, h0]; decide)]⟩

theorem PX.mul  (h : isR (l.drop p) 4 ⟨#[42]⟩ = true) (h1 : PX l .prim (p + 1) ops p1 o1) (h4 : o1.length ≠ 40) (h2 : PX l .prodL p1 (o1 ++ [opN 10]) q os) : PX l .prodL p ops q os := by
 obtain ⟨n1, h1⟩ := h1; obtain ⟨n2, h2⟩ := h2
 refine ⟨n1 + n2 + 1, fun m hm => ?_⟩
 obtain ⟨m, rfl⟩ : ∃ k, m = k + 1 := ⟨m - 1, by omega⟩
 rw [prodL_eq, if_pos (by rw [isQ_R, h]), h1 m (by omega), bind_ok, put_of h4, bind_ok, h2 m (by omega)]

theorem PX.add  (h : isR (l.drop p) 4 ⟨#[43]⟩ = true) (h1 : PX l .prod (p + 1) ops p1 o1) (h4 : o1.length ≠ 40) (h2 : PX l .sumL p1 (o1 ++ [opN 8]) q os) : PX l .sumL p ops q os := by
 obtain ⟨n1, h1⟩ := h1; obtain ⟨n2, h2⟩ := h2
 refine ⟨n1 + n2 + 1, fun m hm => ?_⟩
 obtain ⟨m, rfl⟩ : ∃ k, m = k + 1 := ⟨m - 1, by omega⟩
 rw [sumL_eq, if_pos (by rw [isQ_R, h]), h1 m (by omega), bind_ok, put_of h4, bind_ok, h2 m (by omega)]

theorem PX.sub (g0 : isR (l.drop p) 4 ⟨#[43]⟩ = false) (h : isR (l.drop p) 4 ⟨#[45]⟩ = true) (h1 : PX l .prod (p + 1) ops p1 o1) (h4 : o1.length ≠ 40) (h2 : PX l .sumL p1 (o1 ++ [opN 9]) q os) : PX l .sumL p ops q os := by
 obtain ⟨n1, h1⟩ := h1; obtain ⟨n2, h2⟩ := h2
 refine ⟨n1 + n2 + 1, fun m hm => ?_⟩
 obtain ⟨m, rfl⟩ : ∃ k, m = k + 1 := ⟨m - 1, by omega⟩
 rw [sumL_eq, if_neg (by rw [isQ_R, g0]; decide), if_pos (by rw [isQ_R, h]), h1 m (by omega), bind_ok, put_of h4, bind_ok, h2 m (by omega)]

theorem PX.andGo  (h : isR (l.drop p) 1 ⟨#[65, 78, 68]⟩ = true) (h1 : PX l .not (p + 1) ops p1 o1) (h4 : o1.length ≠ 40) (h2 : PX l .andL p1 (o1 ++ [opN 3]) q os) : PX l .andL p ops q os := by
 obtain ⟨n1, h1⟩ := h1; obtain ⟨n2, h2⟩ := h2
 refine ⟨n1 + n2 + 1, fun m hm => ?_⟩
 obtain ⟨m, rfl⟩ : ∃ k, m = k + 1 := ⟨m - 1, by omega⟩
 rw [andL_eq, if_pos (by rw [isQ_R, h]), h1 m (by omega), bind_ok, put_of h4, bind_ok, h2 m (by omega)]

theorem PX.orGo  (h : isR (l.drop p) 1 ⟨#[79, 82]⟩ = true) (h1 : PX l .and (p + 1) ops p1 o1) (h4 : o1.length ≠ 40) (h2 : PX l .orL p1 (o1 ++ [opN 4]) q os) : PX l .orL p ops q os := by
 obtain ⟨n1, h1⟩ := h1; obtain ⟨n2, h2⟩ := h2
 refine ⟨n1 + n2 + 1, fun m hm => ?_⟩
 obtain ⟨m, rfl⟩ : ∃ k, m = k + 1 := ⟨m - 1, by omega⟩
 rw [orL_eq, if_pos (by rw [isQ_R, h]), h1 m (by omega), bind_ok, put_of h4, bind_ok, h2 m (by omega)]

theorem PX.not_go (h : isR (l.drop p) 1 ⟨#[78, 79, 84]⟩ = true) (h1 : PX l .not (p + 1) ops q os) (h4 : os.length ≠ 40) : PX l .not p ops q (os ++ [opN 5]) := by
 obtain ⟨n1, h1⟩ := h1
 refine ⟨n1 + 1, fun m hm => ?_⟩
 obtain ⟨m, rfl⟩ : ∃ k, m = k + 1 := ⟨m - 1, by omega⟩
 rw [not_eq, if_pos (by rw [isQ_R, h]), h1 m (by omega), bind_ok, put_of h4]
theorem PX.not_no (h : isR (l.drop p) 1 ⟨#[78, 79, 84]⟩ = false) (h1 : PX l .comp p ops q os) : PX l .not p ops q os := by
 obtain ⟨n1, h1⟩ := h1
 refine ⟨n1 + 1, fun m hm => ?_⟩
 obtain ⟨m, rfl⟩ : ∃ k, m = k + 1 := ⟨m - 1, by omega⟩
 rw [not_eq, if_neg (by rw [isQ_R, h]; decide), h1 m (by omega)]
theorem PX.comp_stop (h1 : PX l .sum p ops q os) (h2 : isR (l.drop q) 1 ⟨#[73, 83]⟩ = false) (h3 : (marksP.find? fun m => isR (l.drop q) 4 m.1) = none) : PX l .comp p ops q os := by
 obtain ⟨n1, h1⟩ := h1
 refine ⟨n1 + 1, fun m hm => ?_⟩
 obtain ⟨m, rfl⟩ : ∃ k, m = k + 1 := ⟨m - 1, by omega⟩
 rw [comp_eq2, h1 m (by omega), bind_ok, comp_N (by rw [isQ_R, h2]) (by simp only [isQ_R]; exact h3)]
theorem PX.comp_is {r : List Tk} (h1 : PX l .sum p ops q os) (hd : l.drop q = wordT ⟨#[73, 83]⟩ :: wordT wNULL :: r) (h4 : os.length ≠ 40) : PX l .comp p ops (q + 2) (os ++ [opN 11]) := by
 obtain ⟨n1, h1⟩ := h1
 refine ⟨n1 + 1, fun m hm => ?_⟩
 obtain ⟨m, rfl⟩ : ∃ k, m = k + 1 := ⟨m - 1, by omega⟩
 obtain ⟨-, -, hd2⟩ := drop_at hd
 have hn : ¬ isQ l (q + 1) 1 ⟨#[78, 79, 84]⟩ = true := nq_w hd2 (by decide +kernel)
 rw [comp_eq2, h1 m (by omega), bind_ok, comp_T (yq_w hd (by decide +kernel)), if_neg hn, must_of os hd2, bind_ok, put_of h4, bind_ok, if_neg hn]
theorem PX.comp_m {t : ByteArray} {k : Int} (h1 : PX l .sum p ops p1 o1) (h2 : isR (l.drop p1) 1 ⟨#[73, 83]⟩ = false) (h3 : (marksP.find? fun m => isR (l.drop p1) 4 m.1) = some (t, k, false, false)) (h5 : PX l .sum (p1 + 1) o1 q os) (h4 : os.length ≠ 40) : PX l .comp p ops q (os ++ [opN k]) := by
 obtain ⟨n1, h1⟩ := h1; obtain ⟨n2, h5⟩ := h5
 refine ⟨n1 + n2 + 1, fun m hm => ?_⟩
 obtain ⟨m, rfl⟩ : ∃ k, m = k + 1 := ⟨m - 1, by omega⟩
 rw [comp_eq2, h1 m (by omega), bind_ok, comp_S (by rw [isQ_R, h2]) (by simp only [isQ_R]; exact h3), h5 m (by omega), bind_ok, if_neg Bool.false_ne_true, put_of h4, bind_ok, if_neg Bool.false_ne_true]
def stopT (r : List Tk) : Bool := !(isR r 4 ⟨#[42]⟩) && (!(isR r 4 ⟨#[43]⟩) && (!(isR r 4 ⟨#[45]⟩) && (!(isR r 1 ⟨#[73, 83]⟩) && ((marksP.find? fun m => isR r 4 m.1).isNone && (!(isR r 1 ⟨#[65, 78, 68]⟩) && !(isR r 1 ⟨#[79, 82]⟩))))))
theorem stop_inv {r : List Tk} (h : stopT r = true) : isR r 4 ⟨#[42]⟩ = false ∧ isR r 4 ⟨#[43]⟩ = false ∧ isR r 4 ⟨#[45]⟩ = false ∧ isR r 1 ⟨#[73, 83]⟩ = false ∧ (marksP.find? fun m => isR r 4 m.1) = none ∧ isR r 1 ⟨#[65, 78, 68]⟩ = false ∧ isR r 1 ⟨#[79, 82]⟩ = false := by
 unfold stopT at h
 simp only [Bool.and_eq_true, Bool.not_eq_true'] at h
 obtain ⟨h1, h2, h3, h4, h5, h6, h7⟩ := h
 exact ⟨h1, h2, h3, h4, Option.isNone_iff_eq_none.1 h5, h6, h7⟩
theorem PX.to_prod (h : PX l .prim p ops q os) (h1 : isR (l.drop q) 4 ⟨#[42]⟩ = false) : PX l .prod p ops q os := PX.prod h (PX.prodL_stop h1)
theorem PX.to_sum (h : PX l .prod p ops q os) (h1 : isR (l.drop q) 4 ⟨#[43]⟩ = false) (h2 : isR (l.drop q) 4 ⟨#[45]⟩ = false) : PX l .sum p ops q os := PX.sum h (PX.sumL_stop h1 h2)
theorem PX.not_of (h : PX l .sum p ops q os) (hn : isR (l.drop p) 1 ⟨#[78, 79, 84]⟩ = false) (h1 : isR (l.drop q) 1 ⟨#[73, 83]⟩ = false) (h2 : (marksP.find? fun m => isR (l.drop q) 4 m.1) = none) : PX l .not p ops q os := PX.not_no hn (PX.comp_stop h h1 h2)
theorem PX.or_of (h : PX l .not p ops q os) (h1 : isR (l.drop q) 1 ⟨#[65, 78, 68]⟩ = false) (h2 : isR (l.drop q) 1 ⟨#[79, 82]⟩ = false) : PX l .or p ops q os := PX.or (PX.and h (PX.andL_stop h1)) (PX.orL_stop h2)
theorem PX.all (h : PX l .prim p ops q os) (hn : isR (l.drop p) 1 ⟨#[78, 79, 84]⟩ = false) (hs : stopT (l.drop q) = true) : PX l .or p ops q os := by
 obtain ⟨h1, h2, h3, h4, h5, h6, h7⟩ := stop_inv hs
 exact PX.or_of (PX.not_of ((h.to_prod h1).to_sum h2 h3) hn h4 h5) h6 h7
inductive Ex where
 | lit (v : Vl)
 | col (s : ByteArray)
 | not (e : Ex)
 | isn (e : Ex)
 | bin (k : Int) (a b : Ex)
def Ex.opl : Ex → List OpL
 | .lit v => [⟨1, v, ⟨#[]⟩⟩]
 | .col s => [⟨2, noVl, s⟩]
 | .not e => e.opl ++ [opN 5]
 | .isn e => e.opl ++ [opN 11]
 | .bin k a b => a.opl ++ b.opl ++ [opN k]
def Ex.tkl : Ex → List Tk
 | .lit v => showV v
 | .col s => [wordT s]
 | .not e => [[markT ⟨#[40]⟩, wordT ⟨#[78, 79, 84]⟩], e.tkl, [markT ⟨#[41]⟩]].flatten
 | .isn e => [[markT ⟨#[40]⟩], e.tkl, [wordT ⟨#[73, 83]⟩, wordT ⟨#[78, 85, 76, 76]⟩], [markT ⟨#[41]⟩]].flatten
 | .bin k a b => [[markT ⟨#[40]⟩], a.tkl, [betT k], b.tkl, [markT ⟨#[41]⟩]].flatten
def Ex.good : Ex → Prop
 | .lit v => litF v = 0
 | .col s => nameF s = 0
 | .not e => e.good
 | .isn e => e.good
 | .bin k a b => (k = 3 ∨ k = 4 ∨ 6 ≤ k ∧ k ≤ 10) ∧ a.good ∧ b.good
theorem first_not : ∀ {e : Ex}, e.good → ∀ r, isR (e.tkl ++ r) 1 ⟨#[78, 79, 84]⟩ = false
 | .lit v, h, r => by
  show isR (showV v ++ r) _ _ = false
  unfold showV
  repeat' split
  all_goals first | exact isR_k rfl | exact (isR_word _ _ _).trans (by decide +kernel)
 | .col s, h, r => by show isR (wordT s :: r) 1 _ = false; rw [isR_word]; exact kept_no h (List.mem_of_getElem? (i := 22) rfl)
 | .not e, _, r => by show isR (markT _ :: _) 1 _ = false; exact isR_k rfl
 | .isn e, _, r => by show isR (markT _ :: _) 1 _ = false; exact isR_k rfl
 | .bin k a b, _, r => by show isR (markT _ :: _) 1 _ = false; exact isR_k rfl
end Go.Proofs.YtjgekbmahhhokaaDoor.Pa

namespace Go.Proofs.YtjgekbmahhhokaaDoor.Pa
open Go.RowKit V Pk Go.Proofs.YtjgekbmahhhokaaDoor.Vl Go.Proofs.YtjgekbmahhhokaaDoor.Nm
set_option linter.unusedVariables false
set_option linter.unusedSimpArgs false

theorem len_flat3 (a b c : List Tk) : [a, b, c].flatten.length = a.length + b.length + c.length := by simp; omega
theorem first_at {e : Ex} (h : e.good) {l : List Tk} {p : Nat} {r : List Tk} (hd : l.drop p = e.tkl ++ r) : isR (l.drop p) 1 ⟨#[78, 79, 84]⟩ = false := by rw [hd]; exact first_not h r
theorem prim_ok : ∀ (e : Ex), e.good → ∀ {l : List Tk} {p : Nat} {r : List Tk} {ops : List OpL}, l.drop p = e.tkl ++ r → ops.length + e.opl.length ≤ 40 → PX l .prim p ops (p + e.tkl.length) (ops ++ e.opl)
 | .lit v, h, l, p, r, ops, hd, hl => PX.prim_lit (lit_of h ops hd) (by simp only [Ex.opl, List.length_cons, List.length_nil] at hl; omega)
 | .col s, h, l, p, r, ops, hd, hl => PX.prim_col h hd (by simp only [Ex.opl, List.length_cons, List.length_nil] at hl; omega)
 | .not e, h, l, p, r, ops, hd, hl => by
  simp only [Ex.opl, List.length_append, List.length_cons, List.length_nil] at hl
  have hd' : l.drop p = markT ⟨#[40]⟩ :: wordT ⟨#[78, 79, 84]⟩ :: (e.tkl ++ (markT ⟨#[41]⟩ :: r)) := by rw [hd]; simp [Ex.tkl]
  obtain ⟨-, -, hd1⟩ := drop_at hd'
  obtain ⟨-, -, hd2⟩ := drop_at hd1
  have hd3 := drop_app hd2
  have h1 := prim_ok e h hd2 (ops := ops) (by omega)
  obtain ⟨s1, s2, s3, s4, s5, s6, s7⟩ := stop_inv (r := l.drop (p + 1 + 1 + e.tkl.length)) (by rw [hd3]; kernel_rfl)
  have h2 := PX.not_of ((h1.to_prod s1).to_sum s2 s3) (first_at (e := e) h hd2) s4 s5
  have h3 := PX.or_of (PX.not_go (by rw [hd1]; kernel_rfl) h2 (by rw [List.length_append]; omega)) s6 s7
  have h4 := PX.prim_par hd' h3 hd3
  rw [show p + (Ex.not e).tkl.length = p + 1 + 1 + e.tkl.length + 1 by rw [Ex.tkl, len_flat3]; simp only [List.length_cons, List.length_nil]; omega, Ex.opl, ← List.append_assoc]
  exact h4
 | .isn e, h, l, p, r, ops, hd, hl => by
  simp only [Ex.opl, List.length_append, List.length_cons, List.length_nil] at hl
  have hd' : l.drop p = markT ⟨#[40]⟩ :: (e.tkl ++ (wordT ⟨#[73, 83]⟩ :: wordT wNULL :: (markT ⟨#[41]⟩ :: r))) := by rw [hd]; simp [Ex.tkl]; rfl
  obtain ⟨-, -, hd1⟩ := drop_at hd'
  have hd2 := drop_app hd1
  obtain ⟨-, -, hd3⟩ := drop_at hd2
  obtain ⟨-, -, hd4⟩ := drop_at hd3
  have h1 := prim_ok e h hd1 (ops := ops) (by omega)
  obtain ⟨s1, s2, s3, s4, s5, s6, s7⟩ := stop_inv (r := l.drop (p + 1 + e.tkl.length + 1 + 1)) (by rw [hd4]; kernel_rfl)
  have h2 := PX.comp_is ((h1.to_prod (by rw [hd2]; kernel_rfl)).to_sum (by rw [hd2]; kernel_rfl) (by rw [hd2]; kernel_rfl)) hd2 (by rw [List.length_append]; omega)
  have h3 := PX.or_of (PX.not_no (first_at (e := e) h hd1) h2) s6 s7
  have h4 := PX.prim_par hd' h3 hd4
  rw [show p + (Ex.isn e).tkl.length = p + 1 + e.tkl.length + 2 + 1 by rw [Ex.tkl]; simp; omega, Ex.opl, ← List.append_assoc]
  exact h4
 | .bin k a b, h, l, p, r, ops, hd, hl => by
  simp only [Ex.opl, List.length_append, List.length_cons, List.length_nil] at hl
  obtain ⟨hk, ga, gb⟩ := h
  have hd' : l.drop p = markT ⟨#[40]⟩ :: (a.tkl ++ (betT k :: (b.tkl ++ (markT ⟨#[41]⟩ :: r)))) := by rw [hd]; simp [Ex.tkl]
  obtain ⟨-, -, hd1⟩ := drop_at hd'
  have hd2 := drop_app hd1
  obtain ⟨-, -, hd3⟩ := drop_at hd2
  have hd4 := drop_app hd3
  have ha := prim_ok a ga hd1 (ops := ops) (by omega)
  have hb := prim_ok b gb hd3 (ops := ops ++ a.opl) (by rw [List.length_append]; omega)
  obtain ⟨s1, s2, s3, s4, s5, s6, s7⟩ := stop_inv (r := l.drop (p + 1 + a.tkl.length + 1 + b.tkl.length)) (by rw [hd4]; kernel_rfl)
  have hla : (ops ++ a.opl).length ≠ 40 := by rw [List.length_append]; omega
  have hlb : (ops ++ a.opl ++ b.opl).length ≠ 40 := by rw [List.length_append, List.length_append]; omega
  have na := first_at ga hd1
  have nb := first_at gb hd3
  have key : PX l .or (p + 1) ops (p + 1 + a.tkl.length + 1 + b.tkl.length) (ops ++ a.opl ++ b.opl ++ [opN k]) := by
   have hk' : k = 3 ∨ k = 4 ∨ k = 6 ∨ k = 7 ∨ k = 8 ∨ k = 9 ∨ k = 10 := by omega
   rcases hk' with rfl | rfl | rfl | rfl | rfl | rfl | rfl
   ·have xa := PX.not_of ((ha.to_prod (by rw [hd2]; kernel_rfl)).to_sum (by rw [hd2]; kernel_rfl) (by rw [hd2]; kernel_rfl)) na (by rw [hd2]; kernel_rfl) (by rw [hd2]; kernel_rfl)
    have xb := PX.not_of ((hb.to_prod s1).to_sum s2 s3) nb s4 s5
    exact PX.or (PX.and xa (PX.andGo (by rw [hd2]; kernel_rfl) xb hlb (PX.andL_stop s6))) (PX.orL_stop s7)
   ·have xa := PX.and (PX.not_of ((ha.to_prod (by rw [hd2]; kernel_rfl)).to_sum (by rw [hd2]; kernel_rfl) (by rw [hd2]; kernel_rfl)) na (by rw [hd2]; kernel_rfl) (by rw [hd2]; kernel_rfl)) (PX.andL_stop (by rw [hd2]; kernel_rfl))
    have xb := PX.and (PX.not_of ((hb.to_prod s1).to_sum s2 s3) nb s4 s5) (PX.andL_stop s6)
    exact PX.or xa (PX.orGo (by rw [hd2]; kernel_rfl) xb hlb (PX.orL_stop s7))
   ·exact PX.or_of (PX.not_no na (PX.comp_m (t := ⟨#[61]⟩) ((ha.to_prod (by rw [hd2]; kernel_rfl)).to_sum (by rw [hd2]; kernel_rfl) (by rw [hd2]; kernel_rfl)) (by rw [hd2]; kernel_rfl) (by rw [hd2]; kernel_rfl) ((hb.to_prod s1).to_sum s2 s3) hlb)) s6 s7
   ·exact PX.or_of (PX.not_no na (PX.comp_m (t := ⟨#[60]⟩) ((ha.to_prod (by rw [hd2]; kernel_rfl)).to_sum (by rw [hd2]; kernel_rfl) (by rw [hd2]; kernel_rfl)) (by rw [hd2]; kernel_rfl) (by rw [hd2]; kernel_rfl) ((hb.to_prod s1).to_sum s2 s3) hlb)) s6 s7
   ·exact PX.or_of (PX.not_of (PX.sum (ha.to_prod (by rw [hd2]; kernel_rfl)) (PX.add (by rw [hd2]; kernel_rfl) (hb.to_prod s1) hlb (PX.sumL_stop s2 s3))) na s4 s5) s6 s7
   ·exact PX.or_of (PX.not_of (PX.sum (ha.to_prod (by rw [hd2]; kernel_rfl)) (PX.sub (by rw [hd2]; kernel_rfl) (by rw [hd2]; kernel_rfl) (hb.to_prod s1) hlb (PX.sumL_stop s2 s3))) na s4 s5) s6 s7
   exact PX.or_of (PX.not_of (PX.to_sum (PX.prod ha (PX.mul (by rw [hd2]; kernel_rfl) hb hlb (PX.prodL_stop s1))) s2 s3) na s4 s5) s6 s7
  have h4 := PX.prim_par hd' key hd4
  rw [show p + (Ex.bin k a b).tkl.length = p + 1 + a.tkl.length + 1 + b.tkl.length + 1 by rw [Ex.tkl]; simp; omega, Ex.opl, ← List.append_assoc, ← List.append_assoc]
  exact h4
theorem exprP_of {e : Ex} (h : e.good) {l : List Tk} {p : Nat} {r : List Tk} (hd : l.drop p = e.tkl ++ r) (hs : stopT r = true) (hl : e.opl.length ≤ 40) (hp : p ≤ l.length) : exprP l p = .ok e.opl (p + e.tkl.length) e.opl := by
 have h1 := prim_ok e h hd (ops := []) (by simpa using hl)
 have h2 := PX.all h1 (first_at h hd) (by rw [drop_app hd]; exact hs)
 unfold exprP
 rw [h2.done (exP_ns _ _ _ _ hp (by simp only [rk]; omega)), bind_ok]; rfl
theorem zero_no {v : Vl} (h : zeroV v = true) : v = noVl := by
 obtain ⟨k, n, s⟩ := v
 unfold zeroV at h
 simp only [Bool.and_eq_true, beq_iff_eq] at h
 obtain ⟨rfl, rfl, h3⟩ := h
 have := eqS_iff.1 (show eqS s ⟨#[]⟩ = true by unfold eqS; rw [h3]; simp)
 rw [this]; rfl
theorem opErr_form {h : Int} {o : OpL} (he : opErr h o = 0) : (o.k ≠ 1 → o.v = noVl) ∧ (o.k ≠ 2 → o.nm = ⟨#[]⟩) ∧ (o.k = 2 → nameF o.nm = 0) := by
 unfold opErr at he
 split at he
 ·cases he
 split at he
 ·exact absurd he (by assumption)
 split at he
 ·cases he
 split at he
 ·rename_i h4; exact absurd he h4.2
 rename_i h3 h4
 simp only [Bool.or_eq_true, Bool.and_eq_true, bne_iff_ne, ne_eq, Bool.not_eq_true', not_or, not_and] at h3
 refine ⟨fun hk => zero_no (by simpa using h3.1 hk), fun hk => eqS_iff.1 (by have := h3.2 hk; unfold eqS; simpa using this), fun hk => ?_⟩
 by_cases hn : nameF o.nm = 0
 ·exact hn
 exact absurd ⟨hk, hn⟩ h4
theorem snoc_of {α : Type} {st : List α} (h : 0 < st.length) : ∃ s0 e, st = s0 ++ [e] :=
 ⟨st.dropLast, st.getLast (List.ne_nil_of_length_pos h), (List.dropLast_concat_getLast (List.ne_nil_of_length_pos h)).symm⟩
theorem step1 (s0 : List (List Tk)) (a : List Tk) {o : OpL} (hp : popsF o.k = 1) : stepO (s0 ++ [a]) o = s0 ++ [tokO o a []] := by
 have e1 : lowO (s0 ++ [a]) o = s0.length := by unfold lowO; rw [hp, List.length_append]; rfl
 unfold stepO
 rw [e1, List.take_left' rfl, List.getD_eq_getElem?_getD, List.getElem?_append_right (Nat.le_refl _), List.getD_eq_getElem?_getD, List.getElem?_append_right (by omega), Nat.sub_self, show s0.length + 1 - s0.length = 1 by omega]; rfl
theorem step2 (s0 : List (List Tk)) (a b : List Tk) {o : OpL} (hp : popsF o.k = 2) : stepO (s0 ++ [a, b]) o = s0 ++ [tokO o a b] := by
 have e1 : lowO (s0 ++ [a, b]) o = s0.length := by unfold lowO; rw [hp, List.length_append]; rfl
 unfold stepO
 rw [e1, List.take_left' rfl, List.getD_eq_getElem?_getD, List.getElem?_append_right (Nat.le_refl _), List.getD_eq_getElem?_getD, List.getElem?_append_right (by omega), Nat.sub_self, show s0.length + 1 - s0.length = 1 by omega]; rfl
theorem step0 (s0 : List (List Tk)) {o : OpL} (hp : popsF o.k = 0) (t : List Tk) (ht : ∀ a b, tokO o a b = t) : stepO s0 o = s0 ++ [t] := by
 have e1 : lowO s0 o = s0.length := by unfold lowO; rw [hp]; rfl
 unfold stepO
 rw [e1, List.take_length, ht]
theorem stack_ok : ∀ (l : List OpL) (st : List Ex), (∀ e ∈ st, e.good) → exprL (st.length : Int) l = 0 → ∃ e : Ex, e.good ∧ st.flatMap Ex.opl ++ l = e.opl ∧ l.foldl stepO (st.map Ex.tkl) = [e.tkl]
  | [], st, hg, he => by
    rw [exprL] at he
    have h1 : st.length = 1 := by (split at he; omega; cases he)
    obtain ⟨s0, e, rfl⟩ := snoc_of (st := st) (by omega)
    have : s0 = [] := List.eq_nil_of_length_eq_zero (by simpa using h1)
    subst this
    exact ⟨e, hg e (by simp), by simp, rfl⟩
  | o :: r, st, hg, he => by
    have hop : opErr (st.length : Int) o = 0 := exprL_0 (l := o :: r) (i := 0) (by simp) he
    obtain ⟨k1, k11, hl, hp⟩ := opErr_0 hop
    obtain ⟨f1, f2, f3⟩ := opErr_form hop
    rw [exprL, if_pos hop] at he
    obtain ⟨k, v, nm⟩ := o
    simp only at k1 k11 hl hp f1 f2 f3 he
    have fin : ∀ (s0 : List Ex) (e : Ex), (∀ x ∈ s0, x.good) → e.good → (s0.length : Int) + 1 = (st.length : Int) + (1 - popsF k) → st.flatMap Ex.opl ++ [⟨k, v, nm⟩] = (s0 ++ [e]).flatMap Ex.opl → stepO (st.map Ex.tkl) ⟨k, v, nm⟩ = (s0 ++ [e]).map Ex.tkl →
        ∃ e : Ex, e.good ∧ st.flatMap Ex.opl ++ (⟨k, v, nm⟩ :: r) = e.opl ∧ (⟨k, v, nm⟩ :: r).foldl stepO (st.map Ex.tkl) = [e.tkl] := fun s0 e g0 ge hl2 ho ht => by
      obtain ⟨e2, q1, q2, q3⟩ := stack_ok r (s0 ++ [e]) (fun x hx => (List.mem_append.1 hx).elim (g0 x) (fun h => by rw [List.mem_singleton.1 h]; exact ge)) (by rw [List.length_append]; simp only [List.length_cons, List.length_nil]; rw [show (((s0.length + (0 + 1) : Nat)) : Int) = (st.length : Int) + (1 - popsF k) by omega]; exact he)
      refine ⟨e2, q1, ?_, ?_⟩
      · rw [← q2, ← ho, List.append_assoc]; rfl
      rw [List.foldl_cons, ht]; exact q3
    by_cases h1 : k = 1
    · subst h1
      have e2 := f2 (by decide)
      subst e2
      exact fin st (.lit v) hg hl (by have : popsF 1 = 0 := by decide
                                      omega) (by rw [List.flatMap_append]; rfl) (by rw [step0 _ (show popsF 1 = 0 by decide) (showV v) (fun a b => by unfold tokO; rw [if_pos rfl]), List.map_append]; rfl)
    by_cases h2 : k = 2
    · subst h2
      have e1 := f1 (by decide)
      subst e1
      exact fin st (.col nm) hg (f3 rfl) (by have : popsF 2 = 0 := by decide
                                             omega) (by rw [List.flatMap_append]; rfl) (by rw [step0 _ (show popsF 2 = 0 by decide) [wordT nm] (fun a b => by unfold tokO; rw [if_neg (by show ¬ (2 : Int) = 1; decide), if_pos rfl]), List.map_append]; rfl)
    have e1 := f1 h1
    have e2 := f2 h2
    subst e1 e2
    by_cases h5 : k = 5
    · subst h5
      have hp1 : popsF 5 = 1 := by decide
      obtain ⟨s0, e, rfl⟩ := snoc_of (st := st) (by omega)
      refine fin s0 (.not e) (fun x hx => hg x (List.mem_append_left _ hx)) (hg e (by simp)) (by rw [List.length_append, hp1]; simp only [List.length_cons, List.length_nil]; omega) (by simp only [List.flatMap_append, List.flatMap_cons, List.flatMap_nil, List.append_nil, Ex.opl, List.append_assoc]; rfl) ?_
      rw [List.map_append, List.map_cons, List.map_nil, step1 _ _ hp1, List.map_append]
      unfold tokO
      rw [if_neg (by show ¬ (5 : Int) = 1; decide), if_neg (by show ¬ (5 : Int) = 2; decide), if_pos rfl]; rfl
    by_cases h11 : k = 11
    · subst h11
      have hp1 : popsF 11 = 1 := by decide
      obtain ⟨s0, e, rfl⟩ := snoc_of (st := st) (by omega)
      refine fin s0 (.isn e) (fun x hx => hg x (List.mem_append_left _ hx)) (hg e (by simp)) (by rw [List.length_append, hp1]; simp only [List.length_cons, List.length_nil]; omega) (by simp only [List.flatMap_append, List.flatMap_cons, List.flatMap_nil, List.append_nil, Ex.opl, List.append_assoc]; rfl) ?_
      rw [List.map_append, List.map_cons, List.map_nil, step1 _ _ hp1, List.map_append]
      unfold tokO
      rw [if_neg (by show ¬ (11 : Int) = 1; decide), if_neg (by show ¬ (11 : Int) = 2; decide), if_neg (by show ¬ (11 : Int) = 5; decide), if_pos rfl]; rfl
    have hp2 : popsF k = 2 := by unfold popsF; rw [if_neg (by omega), if_neg (by omega)]
    obtain ⟨s1, b, rfl⟩ := snoc_of (st := st) (by omega)
    rw [List.length_append] at hp
    simp only [List.length_cons, List.length_nil] at hp
    obtain ⟨s0, a, rfl⟩ := snoc_of (st := s1) (by omega)
    have e3 : s0 ++ [a] ++ [b] = s0 ++ [a, b] := by rw [List.append_assoc]; rfl
    refine fin s0 (.bin k a b) (fun x hx => hg x (List.mem_append_left _ (List.mem_append_left _ hx))) ⟨by omega, hg a (by simp), hg b (by simp)⟩ (by rw [List.length_append, List.length_append, hp2]; simp only [List.length_cons, List.length_nil]; omega) (by simp only [List.flatMap_append, List.flatMap_cons, List.flatMap_nil, List.append_nil, Ex.opl, List.append_assoc]; rfl) ?_
    rw [e3, List.map_append, List.map_cons, List.map_cons, List.map_nil, step2 _ _ _ hp2, List.map_append]
    unfold tokO
    rw [if_neg h1, if_neg h2, if_neg h5, if_neg h11]; rfl
theorem tree_of {l : List OpL} (h : exprL 0 l = 0) : ∃ e : Ex, e.good ∧ l = e.opl ∧ showO l = e.tkl := by
 obtain ⟨e, h1, h2, h3⟩ := stack_ok l [] (fun _ h => by cases h) h
 refine ⟨e, h1, h2, ?_⟩
 unfold showO
 rw [show l.foldl stepO [] = [e.tkl] from h3]; rfl

end Go.Proofs.YtjgekbmahhhokaaDoor.Pa

namespace Go.Proofs.YtjgekbmahhhokaaDoor.Pa
open Go.RowKit V Pk Go.Proofs.YtjgekbmahhhokaaDoor.Vl Go.Proofs.YtjgekbmahhhokaaDoor.Nm
set_option linter.unusedVariables false
set_option linter.unusedSimpArgs false

variable {l : List Tk}
theorem where_of {w : List OpL} (h : w.length = 0 ∨ exprL 0 w = 0) (h40 : w.length ≤ 40) {p : Nat} {r : List Tk} (ops : List OpL) (hd : l.drop p = showW w ++ r) (hs : stopT r = true) (hw : isR r 1 ⟨#[87, 72, 69, 82, 69]⟩ = false) : ∃ q os, whereP l p ops = .ok w q os ∧ l.drop q = r := by
 by_cases h0 : w.length = 0
 ·have hw0 : w = [] := List.eq_nil_of_length_eq_zero h0
  subst hw0
  have e : showW [] = [] := if_pos rfl
  rw [e] at hd
  refine ⟨p, ops, ?_, hd⟩
  unfold whereP
  rw [if_neg (by rw [isQ_R, hd]; show ¬ isR r 1 _ = true; rw [hw]; exact Bool.false_ne_true)]
 obtain ⟨e, ge, he, ht⟩ := tree_of (h.resolve_left h0)
 have e1 : showW w = wordT ⟨#[87, 72, 69, 82, 69]⟩ :: e.tkl := by unfold showW; rw [if_neg h0, ht]; rfl
 rw [e1] at hd
 obtain ⟨hp, -, hd1⟩ := drop_at hd
 have h1 := exprP_of ge hd1 hs (by rw [← he]; exact h40) hp
 refine ⟨p + 1 + e.tkl.length, e.opl, ?_, drop_app hd1⟩
 unfold whereP
 rw [if_pos (yq_w hd (by decide +kernel)), h1, he]
def sepT : List (List Tk) → List Tk
 | [] => []
 | [t] => t
 | t :: u :: r => t ++ markT ⟨#[44]⟩ :: sepT (u :: r)
theorem sep_snoc (t : List Tk) : ∀ (a : List (List Tk)), a ≠ [] → sepT (a ++ [t]) = sepT a ++ markT ⟨#[44]⟩ :: t
 | [], h => absurd rfl h
 | [x], _ => rfl
 | x :: y :: r, _ => by
  have := sep_snoc t (y :: r) (by simp)
  show x ++ markT _ :: sepT ((y :: r) ++ [t]) = (x ++ markT _ :: sepT (y :: r)) ++ _
  rw [this]; simp
theorem take_snoc {α : Type} {ts : List α} {i : Nat} (hi : i < ts.length) : ts.take (i + 1) = ts.take i ++ [ts[i]] := List.take_succ_eq_append_getElem hi
theorem pre_sep (ts : List (List Tk)) : ∀ i, i ≤ ts.length → preL ts i = markT ⟨#[40]⟩ :: sepT (ts.take i)
 | 0, _ => rfl
 | i + 1, h => by
  rw [preL, pre_sep ts i (by omega), getD_at (by omega), take_snoc (by omega)]
  by_cases h0 : i = 0
  ·subst h0; rfl
  rw [if_pos (by omega), sep_snoc _ _ (by intro e; have := congrArg List.length e; simp only [List.length_take, List.length_nil] at this; omega)]
  simp
theorem list_sep (ts : List (List Tk)) : listL ts = markT ⟨#[40]⟩ :: (sepT ts ++ [markT ⟨#[41]⟩]) := by
 unfold listL
 rw [pre_sep ts ts.length (Nat.le_refl _), List.take_length]; rfl
theorem preN_sep (ns : List ByteArray) : ∀ i, i ≤ ns.length → preN ns i = sepT ((ns.take i).map fun s => [wordT s])
 | 0, _ => rfl
 | i + 1, h => by
  rw [preN, preN_sep ns i (by omega), getD_at (by omega), take_snoc (by omega), List.map_append]
  by_cases h0 : i = 0
  ·subst h0; rfl
  rw [if_pos (by omega), List.map_cons, List.map_nil, sep_snoc _ _ (by intro e; have := congrArg List.length e; simp only [List.length_map, List.length_take, List.length_nil] at this; omega)]
  simp
theorem kind_of {p : Nat} {k : Int} {r : List Tk} (h1 : 1 ≤ k) (h3 : k ≤ 3) (hd : l.drop p = wordT (typeS k) :: r) : kindP l p = k := by
 have hk : k = 1 ∨ k = 2 ∨ k = 3 := by omega
 unfold kindP
 rcases hk with rfl | rfl | rfl
 ·rw [if_neg (nq_w hd (by decide +kernel)), if_neg (nq_w hd (by decide +kernel)), if_pos (yq_w hd (by decide +kernel))]
 ·rw [if_neg (nq_w hd (by decide +kernel)), if_pos (yq_w hd (by decide +kernel))]
 rw [if_pos (yq_w hd (by decide +kernel))]
theorem col_inv {pre : List ColL} {c : ColL} {r : List ColL} (h : colsA pre (c :: r) = 0) : nameF c.n = 0 ∧ (1 ≤ c.k ∧ c.k ≤ 3) ∧ ¬ (pre.any fun d => eqS d.n c.n) = true ∧ colsA (pre ++ [c]) r = 0 := by
 have h : (if colF pre c ≠ 0 then colF pre c else colsA (pre ++ [c]) r) = 0 := h
 split at h
 ·exact absurd h (by assumption)
 rename_i h0
 have h0 : colF pre c = 0 := by omega
 unfold colF at h0
 split at h0
 ·exact absurd h0 (by assumption)
 split at h0
 ·cases h0
 split at h0
 ·cases h0
 rename_i q1 q2 q3
 exact ⟨by omega, by omega, q3, h⟩
theorem colsP_of : ∀ (cs out : List ColL) (n p : Nat) (r : List Tk) (ops : List OpL), cs ≠ [] → l.drop p = sepT (cs.map colT) ++ markT ⟨#[41]⟩ :: r → colsA out cs = 0 → out.length + cs.length ≤ 6 → cs.length ≤ n → ∃ q, colsP l n out p ops = .ok (out ++ cs) q ops ∧ l.drop q = r
 | [], _, _, _, _, _, h, _, _, _, _ => absurd rfl h
 | c :: rs, out, 0, p, r, ops, _, _, _, _, hn => by simp at hn
 | c :: rs, out, n + 1, p, r, ops, _, hd, hc, h6, hn => by
  obtain ⟨hnm, ⟨k1, k3⟩, hany, hc2⟩ := col_inv hc
  simp only [List.length_cons] at h6 hn
  have hsep : ∃ u, l.drop p = wordT c.n :: wordT (typeS c.k) :: u ∧ ((rs = [] ∧ u = markT ⟨#[41]⟩ :: r) ∨ (rs ≠ [] ∧ u = markT ⟨#[44]⟩ :: (sepT (rs.map colT) ++ markT ⟨#[41]⟩ :: r))) := by
   cases rs with
   | nil => exact ⟨_, hd, .inl ⟨rfl, rfl⟩⟩
   | cons c2 r2 => exact ⟨_, by rw [hd]; simp [sepT, colT], .inr ⟨by simp, rfl⟩⟩
  obtain ⟨u, hd0, hu⟩ := hsep
  obtain ⟨-, -, hd1⟩ := drop_at hd0
  obtain ⟨-, -, hd2⟩ := drop_at hd1
  rw [colsP, if_neg (by omega), name_of ops hnm hd0, bind_ok, if_neg hany, kind_of k1 k3 hd1, if_neg (by omega)]
  rcases hu with ⟨rfl, rfl⟩ | ⟨hne, rfl⟩
  ·obtain ⟨-, -, hd3⟩ := drop_at hd2
   refine ⟨p + 1 + 1 + 1, ?_, hd3⟩
   rw [if_neg (nq_m hd2 (by decide +kernel)), mark_of ops hd2, bind_ok]
  obtain ⟨-, -, hd3⟩ := drop_at hd2
  obtain ⟨q, e1, e2⟩ := colsP_of rs (out ++ [c]) n (p + 1 + 2) r ops hne hd3 hc2 (by rw [List.length_append]; simp only [List.length_cons, List.length_nil]; omega) (by omega)
  refine ⟨q, ?_, e2⟩
  rw [if_pos (yq_m hd2)]
  rw [List.append_assoc] at e1
  exact e1
theorem rowP_of : ∀ (vs out : List Vl) (n p : Nat) (r : List Tk) (ops : List OpL), vs ≠ [] → l.drop p = sepT (vs.map showV) ++ markT ⟨#[41]⟩ :: r → (∀ v ∈ vs, litF v = 0) → out.length + vs.length ≤ 6 → vs.length ≤ n → ∃ q, rowP l n out p ops = .ok (out ++ vs) q ops ∧ l.drop q = r
 | [], _, _, _, _, _, h, _, _, _, _ => absurd rfl h
 | c :: rs, out, 0, p, r, ops, _, _, _, _, hn => by simp at hn
 | c :: rs, out, n + 1, p, r, ops, _, hd, hc, h6, hn => by
  have hl := hc c List.mem_cons_self
  simp only [List.length_cons] at h6 hn
  have hsep : ∃ u, l.drop p = showV c ++ u ∧ ((rs = [] ∧ u = markT ⟨#[41]⟩ :: r) ∨ (rs ≠ [] ∧ u = markT ⟨#[44]⟩ :: (sepT (rs.map showV) ++ markT ⟨#[41]⟩ :: r))) := by
   cases rs with
   | nil => exact ⟨_, hd, .inl ⟨rfl, rfl⟩⟩
   | cons c2 r2 => exact ⟨_, by rw [hd]; simp [sepT], .inr ⟨by simp, rfl⟩⟩
  obtain ⟨u, hd0, hu⟩ := hsep
  have hd2 := drop_app hd0
  rw [rowP, if_neg (by omega), lit_of hl ops hd0, bind_ok, if_neg (show ¬ true = false by decide)]
  rcases hu with ⟨rfl, rfl⟩ | ⟨hne, rfl⟩
  ·obtain ⟨-, -, hd3⟩ := drop_at hd2
   refine ⟨_, ?_, hd3⟩
   rw [if_neg (nq_m hd2 (by decide +kernel)), mark_of ops hd2, bind_ok]
  obtain ⟨-, -, hd3⟩ := drop_at hd2
  obtain ⟨q, e1, e2⟩ := rowP_of rs (out ++ [c]) n _ r ops hne hd3 (fun v hv => hc v (List.mem_cons_of_mem _ hv)) (by rw [List.length_append]; simp only [List.length_cons, List.length_nil]; omega) (by omega)
  refine ⟨q, ?_, e2⟩
  rw [if_pos (yq_m hd2)]
  rw [List.append_assoc] at e1
  exact e1
theorem namesP_of : ∀ (ns out : List ByteArray) (n p : Nat) (r : List Tk) (ops : List OpL), ns ≠ [] → l.drop p = sepT (ns.map fun s => [wordT s]) ++ r → isR r 4 ⟨#[44]⟩ = false → (∀ s ∈ ns, nameF s = 0) → out.length + ns.length ≤ 6 → ns.length ≤ n → ∃ q, namesP l n out p ops = .ok (out ++ ns) q ops ∧ l.drop q = r
 | [], _, _, _, _, _, h, _, _, _, _, _ => absurd rfl h
 | c :: rs, out, 0, p, r, ops, _, _, _, _, _, hn => by simp at hn
 | c :: rs, out, n + 1, p, r, ops, _, hd, hr, hc, h6, hn => by
  have hl := hc c List.mem_cons_self
  simp only [List.length_cons] at h6 hn
  have hsep : ∃ u, l.drop p = wordT c :: u ∧ ((rs = [] ∧ u = r) ∨ (rs ≠ [] ∧ u = markT ⟨#[44]⟩ :: (sepT (rs.map fun s => [wordT s]) ++ r))) := by
   cases rs with
   | nil => exact ⟨_, hd, .inl ⟨rfl, rfl⟩⟩
   | cons c2 r2 => exact ⟨_, by rw [hd]; simp [sepT], .inr ⟨by simp, rfl⟩⟩
  obtain ⟨u, hd0, hu⟩ := hsep
  obtain ⟨-, -, hd2⟩ := drop_at hd0
  rw [namesP, if_neg (by omega), name_of ops hl hd0, bind_ok]
  rcases hu with ⟨rfl, rfl⟩ | ⟨hne, rfl⟩
  ·refine ⟨_, ?_, hd2⟩
   rw [if_neg (by rw [isQ_R, hd2, hr]; exact Bool.false_ne_true)]
  obtain ⟨-, -, hd3⟩ := drop_at hd2
  obtain ⟨q, e1, e2⟩ := namesP_of rs (out ++ [c]) n _ r ops hne hd3 hr (fun v hv => hc v (List.mem_cons_of_mem _ hv)) (by rw [List.length_append]; simp only [List.length_cons, List.length_nil]; omega) (by omega)
  refine ⟨q, ?_, e2⟩
  rw [if_pos (yq_m hd2)]
  rw [List.append_assoc] at e1
  exact e1
theorem len0 {α : Type} {a : List α} (h : (a.length : Int) = 0) : a = [] := List.eq_nil_of_length_eq_zero (by omega)
theorem eq_has {s : StL} (h : bareF s (hasS s) = true) : s = hasS s := by
 obtain ⟨kind, table, cols, row, names, count, wher, order, down, limit, set, to⟩ := s
 by_cases h1 : kind = 1
 ·have e : hasS ⟨kind, table, cols, row, names, count, wher, order, down, limit, set, to⟩ = { st0 with kind := kind, table := tabS ⟨kind, table, cols, row, names, count, wher, order, down, limit, set, to⟩, cols := cols } := by unfold hasS; rw [if_pos h1]
  rw [e] at h ⊢
  unfold bareF at h
  simp only [Bool.and_eq_true, beq_iff_eq, eqS_iff] at h
  obtain ⟨a1, a2, a3, a4, a5, a6, a7, a8, a9, a10, a11⟩ := h
  have ba3 := len0 a3; subst ba3
  have ba4 := len0 a4; subst ba4
  have ba6 := len0 a6; subst ba6
  have ba11 := len0 a11; subst ba11
  have ba5 : count = st0.count := a5; subst ba5
  have ba7 : order = st0.order := a7; subst ba7
  have ba8 : down = st0.down := a8; subst ba8
  have ba9 : limit = st0.limit := a9; subst ba9
  have ba10 : set = st0.set := a10; subst ba10
  have ba1 : table = tabS _ := a1
  show (⟨kind, table, _, _, _, _, _, _, _, _, _, _⟩ : StL) = ⟨kind, tabS _, _, _, _, _, _, _, _, _, _, _⟩
  rw [← ba1]; rfl
 by_cases h3 : kind = 3
 ·have e : hasS ⟨kind, table, cols, row, names, count, wher, order, down, limit, set, to⟩ = { st0 with kind := kind, table := tabS ⟨kind, table, cols, row, names, count, wher, order, down, limit, set, to⟩, row := row } := by unfold hasS; rw [if_neg h1, if_pos h3]
  rw [e] at h ⊢
  unfold bareF at h
  simp only [Bool.and_eq_true, beq_iff_eq, eqS_iff] at h
  obtain ⟨a1, a2, a3, a4, a5, a6, a7, a8, a9, a10, a11⟩ := h
  have ba2 := len0 a2; subst ba2
  have ba4 := len0 a4; subst ba4
  have ba6 := len0 a6; subst ba6
  have ba11 := len0 a11; subst ba11
  have ba5 : count = st0.count := a5; subst ba5
  have ba7 : order = st0.order := a7; subst ba7
  have ba8 : down = st0.down := a8; subst ba8
  have ba9 : limit = st0.limit := a9; subst ba9
  have ba10 : set = st0.set := a10; subst ba10
  have ba1 : table = tabS _ := a1
  show (⟨kind, table, _, _, _, _, _, _, _, _, _, _⟩ : StL) = ⟨kind, tabS _, _, _, _, _, _, _, _, _, _, _⟩
  rw [← ba1]; rfl
 by_cases h4 : kind = 4
 ·have e : hasS ⟨kind, table, cols, row, names, count, wher, order, down, limit, set, to⟩ = { st0 with kind := kind, table := tabS ⟨kind, table, cols, row, names, count, wher, order, down, limit, set, to⟩, names := names, count := count, wher := wher, order := order, down := down, limit := limit } := by unfold hasS; rw [if_neg h1, if_neg h3, if_pos h4]
  rw [e] at h ⊢
  unfold bareF at h
  simp only [Bool.and_eq_true, beq_iff_eq, eqS_iff] at h
  obtain ⟨a1, a2, a3, a4, a5, a6, a7, a8, a9, a10, a11⟩ := h
  have ba2 := len0 a2; subst ba2
  have ba3 := len0 a3; subst ba3
  have ba11 := len0 a11; subst ba11
  have ba10 : set = st0.set := a10; subst ba10
  have ba1 : table = tabS _ := a1
  show (⟨kind, table, _, _, _, _, _, _, _, _, _, _⟩ : StL) = ⟨kind, tabS _, _, _, _, _, _, _, _, _, _, _⟩
  rw [← ba1]; rfl
 by_cases h5 : kind = 5
 ·have e : hasS ⟨kind, table, cols, row, names, count, wher, order, down, limit, set, to⟩ = { st0 with kind := kind, table := tabS ⟨kind, table, cols, row, names, count, wher, order, down, limit, set, to⟩, set := set, to := to, wher := wher } := by unfold hasS; rw [if_neg h1, if_neg h3, if_neg h4, if_pos h5]
  rw [e] at h ⊢
  unfold bareF at h
  simp only [Bool.and_eq_true, beq_iff_eq, eqS_iff] at h
  obtain ⟨a1, a2, a3, a4, a5, a6, a7, a8, a9, a10, a11⟩ := h
  have ba2 := len0 a2; subst ba2
  have ba3 := len0 a3; subst ba3
  have ba4 := len0 a4; subst ba4
  have ba5 : count = st0.count := a5; subst ba5
  have ba7 : order = st0.order := a7; subst ba7
  have ba8 : down = st0.down := a8; subst ba8
  have ba9 : limit = st0.limit := a9; subst ba9
  have ba1 : table = tabS _ := a1
  show (⟨kind, table, _, _, _, _, _, _, _, _, _, _⟩ : StL) = ⟨kind, tabS _, _, _, _, _, _, _, _, _, _, _⟩
  rw [← ba1]; rfl
 by_cases h6 : kind = 6
 ·have e : hasS ⟨kind, table, cols, row, names, count, wher, order, down, limit, set, to⟩ = { st0 with kind := kind, table := tabS ⟨kind, table, cols, row, names, count, wher, order, down, limit, set, to⟩, wher := wher } := by unfold hasS; rw [if_neg h1, if_neg h3, if_neg h4, if_neg h5, if_pos h6]
  rw [e] at h ⊢
  unfold bareF at h
  simp only [Bool.and_eq_true, beq_iff_eq, eqS_iff] at h
  obtain ⟨a1, a2, a3, a4, a5, a6, a7, a8, a9, a10, a11⟩ := h
  have ba2 := len0 a2; subst ba2
  have ba3 := len0 a3; subst ba3
  have ba4 := len0 a4; subst ba4
  have ba11 := len0 a11; subst ba11
  have ba5 : count = st0.count := a5; subst ba5
  have ba7 : order = st0.order := a7; subst ba7
  have ba8 : down = st0.down := a8; subst ba8
  have ba9 : limit = st0.limit := a9; subst ba9
  have ba10 : set = st0.set := a10; subst ba10
  have ba1 : table = tabS _ := a1
  show (⟨kind, table, _, _, _, _, _, _, _, _, _, _⟩ : StL) = ⟨kind, tabS _, _, _, _, _, _, _, _, _, _, _⟩
  rw [← ba1]; rfl
 have e : hasS ⟨kind, table, cols, row, names, count, wher, order, down, limit, set, to⟩ = { st0 with kind := kind, table := tabS ⟨kind, table, cols, row, names, count, wher, order, down, limit, set, to⟩ } := by unfold hasS; rw [if_neg h1, if_neg h3, if_neg h4, if_neg h5, if_neg h6]
 rw [e] at h ⊢
 unfold bareF at h
 simp only [Bool.and_eq_true, beq_iff_eq, eqS_iff] at h
 obtain ⟨a1, a2, a3, a4, a5, a6, a7, a8, a9, a10, a11⟩ := h
 have ba2 := len0 a2; subst ba2
 have ba3 := len0 a3; subst ba3
 have ba4 := len0 a4; subst ba4
 have ba6 := len0 a6; subst ba6
 have ba11 := len0 a11; subst ba11
 have ba5 : count = st0.count := a5; subst ba5
 have ba7 : order = st0.order := a7; subst ba7
 have ba8 : down = st0.down := a8; subst ba8
 have ba9 : limit = st0.limit := a9; subst ba9
 have ba10 : set = st0.set := a10; subst ba10
 have ba1 : table = tabS _ := a1
 show (⟨kind, table, _, _, _, _, _, _, _, _, _, _⟩ : StL) = ⟨kind, tabS _, _, _, _, _, _, _, _, _, _, _⟩
 rw [← ba1]; rfl

end Go.Proofs.YtjgekbmahhhokaaDoor.Pa

namespace Go.Proofs.YtjgekbmahhhokaaDoor.Pa
open Go.RowKit V Pk Go.Proofs.YtjgekbmahhhokaaDoor.Vl Go.Proofs.YtjgekbmahhhokaaDoor.Nm
set_option linter.unusedVariables false
set_option linter.unusedSimpArgs false

variable {l : List Tk}
def TailOk (r : List Tk) : Prop := r = [] ∨ r = [markT ⟨#[41]⟩]
theorem tail_stop {r : List Tk} (h : TailOk r) : stopT r = true ∧ isR r 1 ⟨#[87, 72, 69, 82, 69]⟩ = false ∧ isR r 1 ⟨#[79, 82, 68, 69, 82]⟩ = false ∧ isR r 1 ⟨#[76, 73, 77, 73, 84]⟩ = false ∧ isR r 1 ⟨#[68, 69, 83, 67]⟩ = false := by
 rcases h with rfl | rfl
 ·exact ⟨by kernel_rfl, by kernel_rfl, by kernel_rfl, by kernel_rfl, by kernel_rfl⟩
 exact ⟨by kernel_rfl, by kernel_rfl, by kernel_rfl, by kernel_rfl, by kernel_rfl⟩
theorem stopW {r : List Tk} (h : stopT r = true) (w : List OpL) : stopT (showW w ++ r) = true := by
 unfold showW; split
 ·exact h
 show stopT (wordT _ :: _) = true; kernel_rfl
theorem head_of {s : StL} (hc : s.count = true → s.names = []) (hn : ∀ x ∈ s.names, nameF x = 0) (h6 : s.names.length ≤ 6) {p : Nat} {r : List Tk} (ops : List OpL) (hd : l.drop p = headT s ++ (wordT ⟨#[70, 82, 79, 77]⟩ :: r)) : ∃ q, headP l p ops = .ok (s.names, s.count) q ops ∧ l.drop q = wordT ⟨#[70, 82, 79, 77]⟩ :: r := by
 unfold headT at hd
 by_cases h1 : s.count = true
 ·rw [if_pos h1] at hd
  have hd0 : l.drop p = wordT ⟨#[67, 79, 85, 78, 84]⟩ :: markT ⟨#[40]⟩ :: markT ⟨#[42]⟩ :: markT ⟨#[41]⟩ :: (wordT ⟨#[70, 82, 79, 77]⟩ :: r) := hd
  obtain ⟨-, -, hd1⟩ := drop_at hd0
  obtain ⟨-, -, hd2⟩ := drop_at hd1
  obtain ⟨-, -, hd3⟩ := drop_at hd2
  obtain ⟨-, -, hd4⟩ := drop_at hd3
  refine ⟨_, ?_, hd4⟩
  unfold headP
  rw [if_neg (nq_k hd0 rfl), if_pos (yq_w hd0 (by decide +kernel)), mark_of ops hd1, bind_ok, mark_of ops hd2, bind_ok, mark_of ops hd3, bind_ok, hc h1, h1]
 rw [if_neg h1] at hd
 have hcf : s.count = false := by simpa using h1
 by_cases h2 : s.names.length = 0
 ·rw [if_pos h2] at hd
  obtain ⟨-, -, hd1⟩ := drop_at (show l.drop p = markT ⟨#[42]⟩ :: (wordT ⟨#[70, 82, 79, 77]⟩ :: r) from hd)
  refine ⟨_, ?_, hd1⟩
  unfold headP
  rw [if_pos (yq_m (show l.drop p = markT ⟨#[42]⟩ :: (wordT ⟨#[70, 82, 79, 77]⟩ :: r) from hd)), List.eq_nil_of_length_eq_zero h2, hcf]
 rw [if_neg h2, preN_sep _ _ (Nat.le_refl _), List.take_length] at hd
 obtain ⟨n0, rs, hns⟩ : ∃ a b, s.names = a :: b := by
  cases hq : s.names with
  | nil => rw [hq] at h2; exact absurd rfl h2
  | cons a b => exact ⟨a, b, rfl⟩
 have hd0 : ∃ u, l.drop p = wordT n0 :: u := by
  rw [hns] at hd
  cases rs with
  | nil => exact ⟨_, hd⟩
  | cons c2 r2 => exact ⟨_, hd⟩
 obtain ⟨u, hd0⟩ := hd0
 have hn0 := hn n0 (by rw [hns]; exact List.mem_cons_self)
 obtain ⟨q, e1, e2⟩ := namesP_of s.names [] 8 p _ ops (by rw [hns]; simp) hd (isR_k rfl) hn (by simpa using h6) (by omega)
 refine ⟨q, ?_, e2⟩
 unfold headP
 rw [if_neg (nq_k hd0 rfl), if_neg (nq_w hd0 (kept_no hn0 (List.mem_of_getElem? (i := 7) rfl))), e1, bind_ok, hcf]; rfl
theorem lim_of {s S0 : StL} (hl : -1 ≤ s.limit) (h0 : S0.limit = -1) {p : Nat} {r : List Tk} (hr : TailOk r) (ops : List OpL) (hd : l.drop p = limT s ++ r) : ∃ q, limP l S0 p ops = .ok { S0 with limit := s.limit } q ops ∧ l.drop q = r := by
 unfold limT at hd
 by_cases h : 0 ≤ s.limit
 ·rw [if_pos h] at hd
  have hd0 : l.drop p = wordT ⟨#[76, 73, 77, 73, 84]⟩ :: ⟨2, ⟨#[]⟩, s.limit⟩ :: r := hd
  obtain ⟨-, -, hd1⟩ := drop_at hd0
  obtain ⟨hp, e1, hd2⟩ := drop_at hd1
  refine ⟨p + 2, ?_, hd2⟩
  rw [lim_1 (yq_w hd0 (by decide +kernel)) hp (by rw [e1]), e1]
 rw [if_neg h] at hd
 refine ⟨p, ?_, hd⟩
 rw [lim_3 (by rw [isQ_R, hd]; exact (tail_stop hr).2.2.2.1), show s.limit = S0.limit by omega]
theorem limT_R {s : StL} {r : List Tk} (hr : TailOk r) : isR (limT s ++ r) 1 ⟨#[79, 82, 68, 69, 82]⟩ = false ∧ isR (limT s ++ r) 1 ⟨#[68, 69, 83, 67]⟩ = false ∧ isR (limT s ++ r) 1 ⟨#[87, 72, 69, 82, 69]⟩ = false ∧ stopT (limT s ++ r) = true := by
 obtain ⟨h1, h2, h3, h4, h5⟩ := tail_stop hr
 unfold limT; split
 ·exact ⟨by show isR (wordT _ :: _) _ _ = false; kernel_rfl, by show isR (wordT _ :: _) _ _ = false; kernel_rfl, by show isR (wordT _ :: _) _ _ = false; kernel_rfl, by show stopT (wordT _ :: _) = true; kernel_rfl⟩
 exact ⟨h3, h5, h2, h1⟩
theorem ord_of {s S0 : StL} (ho : ¬ eqS s.order ⟨#[]⟩ = true → nameF s.order = 0) (hdn : eqS s.order ⟨#[]⟩ = true → s.down = false) (h0 : S0.order = ⟨#[]⟩) (h00 : S0.down = false) {p : Nat} {r : List Tk} (hr : TailOk r) (ops : List OpL) (hd : l.drop p = ordT s ++ (limT s ++ r)) : ∃ q, ordP l S0 p ops = .ok { S0 with order := s.order, down := s.down } q ops ∧ l.drop q = limT s ++ r := by
 obtain ⟨r1, r2, -, -⟩ := limT_R (s := s) hr
 unfold ordT at hd
 by_cases h : eqS s.order ⟨#[]⟩ = true
 ·rw [if_pos h] at hd
  refine ⟨p, ?_, hd⟩
  unfold ordP
  rw [if_neg (by rw [isQ_R, hd]; show ¬ isR (limT s ++ r) _ _ = true; rw [r1]; exact Bool.false_ne_true), hdn h, eqS_iff.1 h, ← h0, ← h00]
 rw [if_neg h] at hd
 have hd0 : l.drop p = wordT ⟨#[79, 82, 68, 69, 82]⟩ :: wordT ⟨#[66, 89]⟩ :: wordT s.order :: ((if s.down = true then [wordT ⟨#[68, 69, 83, 67]⟩] else []) ++ (limT s ++ r)) := by rw [hd]; simp
 obtain ⟨-, -, hd1⟩ := drop_at hd0
 obtain ⟨-, -, hd2⟩ := drop_at hd1
 obtain ⟨-, -, hd3⟩ := drop_at hd2
 by_cases h5 : s.down = true
 ·rw [if_pos h5] at hd3
  obtain ⟨-, -, hd4⟩ := drop_at (show l.drop (p + 1 + 1 + 1) = wordT ⟨#[68, 69, 83, 67]⟩ :: (limT s ++ r) from hd3)
  refine ⟨_, ?_, hd4⟩
  unfold ordP
  rw [if_pos (yq_w hd0 (by decide +kernel)), must_of ops hd1, bind_ok, name_of ops (ho h) hd2, bind_ok, yq_w (show l.drop (p + 1 + 1 + 1) = wordT ⟨#[68, 69, 83, 67]⟩ :: (limT s ++ r) from hd3) (by decide +kernel), if_pos rfl, h5]
 rw [if_neg h5] at hd3
 have hq : isQ l (p + 1 + 1 + 1) 1 ⟨#[68, 69, 83, 67]⟩ = false := by rw [isQ_R, hd3]; exact r2
 refine ⟨p + 1 + 1 + 1, ?_, hd3⟩
 unfold ordP
 rw [if_pos (yq_w hd0 (by decide +kernel)), must_of ops hd1, bind_ok, name_of ops (ho h) hd2, bind_ok, hq, if_neg Bool.false_ne_true, show s.down = false by simpa using h5]
theorem ordT_R {s : StL} {r : List Tk} (hr : TailOk r) : isR (ordT s ++ (limT s ++ r)) 1 ⟨#[87, 72, 69, 82, 69]⟩ = false ∧ stopT (ordT s ++ (limT s ++ r)) = true := by
 obtain ⟨-, -, r3, r4⟩ := limT_R (s := s) hr
 unfold ordT; split
 ·exact ⟨r3, r4⟩
 exact ⟨by show isR (wordT _ :: _) _ _ = false; kernel_rfl, by show stopT (wordT _ :: _) = true; kernel_rfl⟩
theorem st_of {s : StL} (hf : FinS s) (h1 : 1 ≤ s.kind) (h9 : s.kind ≤ 9) (hc : checkS s = 0) {r : List Tk} (hr : TailOk r) (hd : l.drop 0 = showS s ++ r) : ∃ q os, stP l 0 [] = .ok s q os ∧ l.drop q = r := by
 obtain ⟨he, hb, ht⟩ := err_0 hc
 have hs := sh_of hf h1 h9 hc
 have eqh := eq_has hb
 obtain ⟨t1, t2, t3, t4, t5⟩ := tail_stop hr
 have h40 := hf.ok.2.2.2.1
 by_cases h7 : s.kind < 7
 ·have htab : tabS s = s.table := if_pos h7
  have hnt := ht h7
  by_cases hk : s.kind = 1
  ·have e : hasS s = { st0 with kind := s.kind, table := tabS s, cols := s.cols } := by unfold hasS; rw [if_pos hk]
   have hE : s = { st0 with kind := s.kind, table := s.table, cols := s.cols } := eqh.trans (e.trans (by rw [htab]))
   rw [hk] at hE
   have hcf : colsF s.cols = 0 := by unfold errS at he; rw [if_pos hk] at he; exact he
   obtain ⟨⟨c1, c6⟩, -⟩ := cols_good hcf
   have hca : colsA [] s.cols = 0 := by unfold colsF at hcf; rw [if_neg (by omega)] at hcf; exact hcf
   have hd0 : l.drop 0 = wordT ⟨#[67, 82, 69, 65, 84, 69]⟩ :: wordT ⟨#[84, 65, 66, 76, 69]⟩ :: wordT s.table :: markT ⟨#[40]⟩ :: (sepT (s.cols.map colT) ++ (markT ⟨#[41]⟩ :: r)) := by
    rw [hd]; unfold showS; rw [if_pos hk, list_sep]; simp
   obtain ⟨-, -, hd1⟩ := drop_at hd0
   obtain ⟨-, -, hd2⟩ := drop_at hd1
   obtain ⟨-, -, hd3⟩ := drop_at hd2
   obtain ⟨-, -, hd4⟩ := drop_at hd3
   obtain ⟨q, e1, e2⟩ := colsP_of s.cols [] 8 _ r [] (by intro e; rw [e] at c1; simp at c1) hd4 hca (by simpa using c6) (by omega)
   refine ⟨q, [], ?_, e2⟩
   unfold stP
   rw [if_pos (yq_w hd0 (by decide +kernel)), must_of [] hd1, bind_ok, name_of [] hnt hd2, bind_ok]
   unfold colsB
   rw [mark_of [] hd3, bind_ok, e1, bind_ok]
   rw [List.nil_append, ← hE]
  by_cases hk3 : s.kind = 3
  ·have hk := hk3
   have e : hasS s = { st0 with kind := s.kind, table := tabS s, row := s.row } := by unfold hasS; rw [if_neg (by omega), if_pos hk]
   have hE : s = { st0 with kind := s.kind, table := s.table, row := s.row } := eqh.trans (e.trans (by rw [htab]))
   rw [hk] at hE
   have hcf : rowF s.row = 0 := by unfold errS at he; rw [if_neg (by omega), if_pos hk] at he; exact he
   unfold rowF at hcf
   split at hcf
   ·cases hcf
   rename_i c16
   have hd0 : l.drop 0 = wordT ⟨#[73, 78, 83, 69, 82, 84]⟩ :: wordT ⟨#[73, 78, 84, 79]⟩ :: wordT s.table :: wordT ⟨#[86, 65, 76, 85, 69, 83]⟩ :: markT ⟨#[40]⟩ :: (sepT (s.row.map showV) ++ (markT ⟨#[41]⟩ :: r)) := by
    rw [hd]; unfold showS; rw [if_neg (by omega), if_neg (by omega), if_pos hk, list_sep]; simp
   obtain ⟨-, -, hd1⟩ := drop_at hd0
   obtain ⟨-, -, hd2⟩ := drop_at hd1
   obtain ⟨-, -, hd3⟩ := drop_at hd2
   obtain ⟨-, -, hd4⟩ := drop_at hd3
   obtain ⟨-, -, hd5⟩ := drop_at hd4
   obtain ⟨q, e1, e2⟩ := rowP_of s.row [] 8 _ r [] (by intro e; rw [e] at c16; simp at c16) hd5 (first_0 hcf) (by simp; omega) (by omega)
   refine ⟨q, [], ?_, e2⟩
   unfold stP
   rw [if_neg (nq_w hd0 (by decide +kernel)), if_neg (nq_w hd0 (by decide +kernel)), if_pos (yq_w hd0 (by decide +kernel)), must_of [] hd1, bind_ok, name_of [] hnt hd2, bind_ok, must_of [] hd3, bind_ok]
   unfold rowB
   rw [mark_of [] hd4, bind_ok, e1, bind_ok]
   rw [List.nil_append, ← hE]
  by_cases hk4 : s.kind = 4
  ·have hk := hk4
   have e : hasS s = { st0 with kind := s.kind, table := tabS s, names := s.names, count := s.count, wher := s.wher, order := s.order, down := s.down, limit := s.limit } := by unfold hasS; rw [if_neg (by omega), if_neg (by omega), if_pos hk]
   have hE : s = { st0 with kind := s.kind, table := s.table, names := s.names, count := s.count, wher := s.wher, order := s.order, down := s.down, limit := s.limit } := eqh.trans (e.trans (by rw [htab]))
   rw [hk] at hE
   have hcf : pickF s = 0 := by unfold errS at he; rw [if_neg (by omega), if_neg (by omega), if_pos hk] at he; exact he
   unfold pickF at hcf
   split at hcf
   ·cases hcf
   split at hcf
   ·cases hcf
   split at hcf
   ·cases hcf
   split at hcf
   ·exact absurd hcf (by assumption)
   split at hcf
   ·exact absurd hcf (by assumption)
   rename_i n6 lim cn nn ww
   rw [not_or] at cn
   have hcn : s.count = true → s.names = [] := fun h => by
    cases hq : s.names with
    | nil => rfl
    | cons a b => exact absurd ⟨h, by rw [hq]; simp⟩ cn.1
   have hdn : eqS s.order ⟨#[]⟩ = true → s.down = false := fun h => by
    cases hq : s.down with
    | false => rfl
    | true => exact absurd ⟨hq, h⟩ cn.2
   have hord : ¬ eqS s.order ⟨#[]⟩ = true → nameF s.order = 0 := fun h => by rw [if_neg h] at hcf; exact hcf
   have hd0 : l.drop 0 = wordT ⟨#[83, 69, 76, 69, 67, 84]⟩ :: (headT s ++ (wordT ⟨#[70, 82, 79, 77]⟩ :: (wordT s.table :: (showW s.wher ++ (ordT s ++ (limT s ++ r)))))) := by
    rw [hd]; unfold showS; rw [if_neg (by omega), if_neg (by omega), if_neg (by omega), if_pos hk]; unfold showP; simp
   obtain ⟨-, -, hd1⟩ := drop_at hd0
   obtain ⟨q1, e1, hd2⟩ := head_of (s := s) hcn (first_0 (by omega)) (by omega) [] hd1
   obtain ⟨-, -, hd3⟩ := drop_at hd2
   obtain ⟨-, -, hd4⟩ := drop_at hd3
   obtain ⟨w1, w2⟩ := ordT_R (s := s) hr
   obtain ⟨q2, o2, e2, hd5⟩ := where_of (hs.w (.inl hk)) h40 [] hd4 w2 w1
   obtain ⟨q3, e3, hd6⟩ := ord_of (s := s) (S0 := { st0 with kind := 4, names := s.names, count := s.count, table := s.table, wher := s.wher }) hord hdn rfl rfl hr o2 hd5
   obtain ⟨q4, e4, hd7⟩ := lim_of (s := s) (S0 := { st0 with kind := 4, names := s.names, count := s.count, table := s.table, wher := s.wher, order := s.order, down := s.down }) (by omega) rfl hr o2 hd6
   refine ⟨q4, o2, ?_, hd7⟩
   unfold stP
   rw [if_neg (nq_w hd0 (by decide +kernel)), if_neg (nq_w hd0 (by decide +kernel)), if_neg (nq_w hd0 (by decide +kernel)), if_pos (yq_w hd0 (by decide +kernel))]
   unfold pickP
   rw [e1, bind_ok]
   unfold pickK
   rw [must_of [] hd2, bind_ok, name_of [] hnt hd3, bind_ok, e2, bind_ok]
   unfold tailP
   rw [e3, bind_ok, e4, ← hE]
  by_cases hk5 : s.kind = 5
  ·have hk := hk5
   have e : hasS s = { st0 with kind := s.kind, table := tabS s, set := s.set, to := s.to, wher := s.wher } := by unfold hasS; rw [if_neg (by omega), if_neg (by omega), if_neg (by omega), if_pos hk]
   have hE : s = { st0 with kind := s.kind, table := s.table, set := s.set, to := s.to, wher := s.wher } := eqh.trans (e.trans (by rw [htab]))
   rw [hk] at hE
   have hns : nameF s.set = 0 := by
    unfold errS at he; rw [if_neg (by omega), if_neg (by omega), if_neg (by omega), if_pos hk] at he
    split at he
    ·assumption
    exact he
   obtain ⟨ex, ge, hto, htk⟩ := tree_of (hs.t hk)
   have hd0 : l.drop 0 = wordT ⟨#[85, 80, 68, 65, 84, 69]⟩ :: wordT s.table :: wordT ⟨#[83, 69, 84]⟩ :: wordT s.set :: markT ⟨#[61]⟩ :: (ex.tkl ++ (showW s.wher ++ r)) := by
    rw [hd]; unfold showS; rw [if_neg (by omega), if_neg (by omega), if_neg (by omega), if_neg (by omega), if_pos hk, htk]; simp
   obtain ⟨-, -, hd1⟩ := drop_at hd0
   obtain ⟨-, -, hd2⟩ := drop_at hd1
   obtain ⟨-, -, hd3⟩ := drop_at hd2
   obtain ⟨hp4, -, hd4⟩ := drop_at hd3
   obtain ⟨hp5, -, hd5⟩ := drop_at hd4
   have h6 := exprP_of ge hd5 (stopW t1 _) (by rw [← hto]; exact hf.ok.2.2.2.2) hp5
   obtain ⟨q, os, e2, hd7⟩ := where_of (hs.w (.inr (.inl hk))) h40 ex.opl (drop_app hd5) t1 t2
   refine ⟨q, os, ?_, hd7⟩
   unfold stP
   rw [if_neg (nq_w hd0 (by decide +kernel)), if_neg (nq_w hd0 (by decide +kernel)), if_neg (nq_w hd0 (by decide +kernel)), if_neg (nq_w hd0 (by decide +kernel)), if_pos (yq_w hd0 (by decide +kernel)), name_of [] hnt hd1, bind_ok, must_of [] hd2, bind_ok, name_of [] hns hd3, bind_ok, mark_of [] hd4, bind_ok, h6, bind_ok, e2, bind_ok, ← hto, ← hE]
  by_cases hk6 : s.kind = 6
  ·have hk := hk6
   have e : hasS s = { st0 with kind := s.kind, table := tabS s, wher := s.wher } := by unfold hasS; rw [if_neg (by omega), if_neg (by omega), if_neg (by omega), if_neg (by omega), if_pos hk]
   have hE : s = { st0 with kind := s.kind, table := s.table, wher := s.wher } := eqh.trans (e.trans (by rw [htab]))
   rw [hk] at hE
   have hd0 : l.drop 0 = wordT ⟨#[68, 69, 76, 69, 84, 69]⟩ :: wordT ⟨#[70, 82, 79, 77]⟩ :: wordT s.table :: (showW s.wher ++ r) := by
    rw [hd]; unfold showS; rw [if_neg (by omega), if_neg (by omega), if_neg (by omega), if_neg (by omega), if_neg (by omega), if_pos hk]; simp
   obtain ⟨-, -, hd1⟩ := drop_at hd0
   obtain ⟨-, -, hd2⟩ := drop_at hd1
   obtain ⟨-, -, hd3⟩ := drop_at hd2
   obtain ⟨q, os, e2, hd7⟩ := where_of (hs.w (.inr (.inr hk))) h40 [] hd3 t1 t2
   refine ⟨q, os, ?_, hd7⟩
   unfold stP
   rw [if_neg (nq_w hd0 (by decide +kernel)), if_neg (nq_w hd0 (by decide +kernel)), if_neg (nq_w hd0 (by decide +kernel)), if_neg (nq_w hd0 (by decide +kernel)), if_neg (nq_w hd0 (by decide +kernel)), if_pos (yq_w hd0 (by decide +kernel)), must_of [] hd1, bind_ok, name_of [] hnt hd2, bind_ok, e2, bind_ok, ← hE]
  have hk : s.kind = 2 := by omega
  have e : hasS s = { st0 with kind := s.kind, table := tabS s } := by unfold hasS; rw [if_neg (by omega), if_neg (by omega), if_neg (by omega), if_neg (by omega), if_neg (by omega)]
  have hE : s = { st0 with kind := s.kind, table := s.table } := eqh.trans (e.trans (by rw [htab]))
  rw [hk] at hE
  have hd0 : l.drop 0 = wordT ⟨#[68, 82, 79, 80]⟩ :: wordT ⟨#[84, 65, 66, 76, 69]⟩ :: wordT s.table :: r := by
   rw [hd]; unfold showS; rw [if_neg (by omega), if_pos hk]; simp
  obtain ⟨-, -, hd1⟩ := drop_at hd0
  obtain ⟨-, -, hd2⟩ := drop_at hd1
  obtain ⟨-, -, hd3⟩ := drop_at hd2
  refine ⟨_, [], ?_, hd3⟩
  unfold stP
  rw [if_neg (nq_w hd0 (by decide +kernel)), if_pos (yq_w hd0 (by decide +kernel)), must_of [] hd1, bind_ok, name_of [] hnt hd2, bind_ok, ← hE]
 have htab : tabS s = ⟨#[]⟩ := if_neg h7
 have e : hasS s = { st0 with kind := s.kind, table := tabS s } := by unfold hasS; rw [if_neg (by omega), if_neg (by omega), if_neg (by omega), if_neg (by omega), if_neg (by omega)]
 have hE : s = { st0 with kind := s.kind, table := ⟨#[]⟩ } := eqh.trans (e.trans (by rw [htab]))
 have hk : s.kind = 7 ∨ s.kind = 8 ∨ s.kind = 9 := by omega
 have hsw : showS s = [endN.getD (s.kind - 7).toNat ⟨#[]⟩].map wordT := by unfold showS; rw [if_neg (by omega), if_neg (by omega), if_neg (by omega), if_neg (by omega), if_neg (by omega), if_neg (by omega)]
 rw [hsw] at hd
 rcases hk with hk | hk | hk
 ·rw [hk] at hd hE
  have hd0 : l.drop 0 = wordT ⟨#[66, 69, 71, 73, 78]⟩ :: r := hd
  obtain ⟨-, -, hd1⟩ := drop_at hd0
  refine ⟨_, [], ?_, hd1⟩
  unfold stP
  rw [if_neg (nq_w hd0 (by decide +kernel)), if_neg (nq_w hd0 (by decide +kernel)), if_neg (nq_w hd0 (by decide +kernel)), if_neg (nq_w hd0 (by decide +kernel)), if_neg (nq_w hd0 (by decide +kernel)), if_neg (nq_w hd0 (by decide +kernel)), if_pos (yq_w hd0 (by decide +kernel))]
  exact congrArg (fun x => Rs.ok x _ _) hE.symm
 ·rw [hk] at hd hE
  have hd0 : l.drop 0 = wordT ⟨#[67, 79, 77, 77, 73, 84]⟩ :: r := hd
  obtain ⟨-, -, hd1⟩ := drop_at hd0
  refine ⟨_, [], ?_, hd1⟩
  unfold stP
  rw [if_neg (nq_w hd0 (by decide +kernel)), if_neg (nq_w hd0 (by decide +kernel)), if_neg (nq_w hd0 (by decide +kernel)), if_neg (nq_w hd0 (by decide +kernel)), if_neg (nq_w hd0 (by decide +kernel)), if_neg (nq_w hd0 (by decide +kernel)), if_neg (nq_w hd0 (by decide +kernel)), if_pos (yq_w hd0 (by decide +kernel))]
  exact congrArg (fun x => Rs.ok x _ _) hE.symm
 rw [hk] at hd hE
 have hd0 : l.drop 0 = wordT ⟨#[82, 79, 76, 76, 66, 65, 67, 75]⟩ :: r := hd
 obtain ⟨-, -, hd1⟩ := drop_at hd0
 refine ⟨_, [], ?_, hd1⟩
 unfold stP
 rw [if_neg (nq_w hd0 (by decide +kernel)), if_neg (nq_w hd0 (by decide +kernel)), if_neg (nq_w hd0 (by decide +kernel)), if_neg (nq_w hd0 (by decide +kernel)), if_neg (nq_w hd0 (by decide +kernel)), if_neg (nq_w hd0 (by decide +kernel)), if_neg (nq_w hd0 (by decide +kernel)), if_neg (nq_w hd0 (by decide +kernel)), if_pos (yq_w hd0 (by decide +kernel))]
 exact congrArg (fun x => Rs.ok x _ _) hE.symm

end Go.Proofs.YtjgekbmahhhokaaDoor.Pa

namespace Go.Proofs.YtjgekbmahhhokaaDoor.Nm
open Go.RowKit V Pk Vl
set_option linter.unusedVariables false
set_option linter.unusedSimpArgs false

inductive Tw where
 | mk (k n : Int) (s : ByteArray) (ts : List Tw)
mutual
def Tw.cs : Tw → List D
 | .mk k n s ts => [.v (.int .i64 k), .v (.int .i64 n), .v (.string s), .list 4 (Tw.css ts) ts.length]
def Tw.css : List Tw → List D
 | [] => []
 | t :: r => t.cs ++ Tw.css r
end
mutual
def Tw.Ok : Tw → Prop
 | .mk k n s ts => (-9223372036854775808 ≤ k ∧ k ≤ 9223372036854775807) ∧ (-9223372036854775808 ≤ n ∧ n ≤ 9223372036854775807) ∧ s.size ≤ maxLen ∧ ts.length ≤ maxLen ∧ Tw.Oks ts
def Tw.Oks : List Tw → Prop
 | [] => True
 | t :: r => t.Ok ∧ Tw.Oks r
end
variable {G : List (Nat × List Value)}
end Go.Proofs.YtjgekbmahhhokaaDoor.Nm

namespace Go.Proofs.YtjgekbmahhhokaaDoor.Nm
end Go.Proofs.YtjgekbmahhhokaaDoor.Nm


namespace Go.Proofs.YtjgekbmahhhokaaDoor.Nm
end Go.Proofs.YtjgekbmahhhokaaDoor.Nm


namespace Go.Proofs.YtjgekbmahhhokaaDoor.Pa
open Go.RowKit V Pk Go.Proofs.YtjgekbmahhhokaaDoor.Vl Go.Proofs.YtjgekbmahhhokaaDoor.Nm
set_option linter.unusedVariables false
set_option linter.unusedSimpArgs false

variable {G : List (Nat × List Value)}
def GoodS (s : StL) : Prop := FinS s ∧ 1 ≤ s.kind ∧ s.kind ≤ 6 ∧ s.limit ≤ 9223372036854775807 ∧ checkS s = 0
structure WOk (w : List OpL) : Prop where
 l : w.length ≤ 40
 f : whereF w = 0
 b : ∀ o ∈ w, o.nm.size ≤ maxLen ∧ -9223372036854775808 ≤ o.v.n ∧ o.v.n ≤ 9223372036854775807
theorem wok_nil : WOk [] := ⟨Nat.zero_le _, rfl, fun _ h => by cases h⟩
theorem bare_self (s : StL) : bareF s s = true := by
 unfold bareF
 simp only [Bool.and_eq_true, beq_iff_eq, eqS_iff, and_self]
theorem check_mk {s : StL} (ht : nameF s.table = 0) (he : errS s = 0) (hb : hasS s = s) : checkS s = 0 := by
 unfold checkS
 rw [if_neg (fun h => h.2 ht), hb, if_neg (fun h => by rw [bare_self] at h; cases h.2), he]
theorem small {x : ByteArray} (h : nameF x = 0) : x.size ≤ maxLen := Nat.le_trans (name_ok h).2 (by decide)
def PreS (s : StL) : Prop := s.wher = [] ∧ ∀ w, WOk w → (4 ≤ s.kind ∨ w = []) → GoodS { s with wher := w }
theorem PreS.good {s : StL} (h : PreS s) : GoodS s := by
 have := h.2 [] wok_nil (.inr rfl)
 rw [← h.1] at this; exact this
theorem lit_txt {s : ByteArray} (h : s.size ≤ 20) : litF ⟨3, 0, s⟩ = 0 := by
 unfold litF; rw [if_neg (by intro h; exact absurd h.1 (by show ¬ (3 : Int) = 2; decide))]
 unfold checkV
 rw [if_neg (by show ¬ (3 : Int) = 0; decide), if_neg (by show ¬ (3 : Int) = 1; decide), if_neg (by show ¬ (3 : Int) = 2; decide), if_pos rfl, if_neg (fun h => h rfl), if_neg (by show ¬ s.size > 20; omega)]
def orL : List ByteArray := [⟨#[]⟩, ⟨#[110]⟩, ⟨#[115]⟩, ⟨#[105, 100]⟩]
end Go.Proofs.YtjgekbmahhhokaaDoor.Pa

namespace Go.Proofs.YtjgekbmahhhokaaDoor.Pa
end Go.Proofs.YtjgekbmahhhokaaDoor.Pa


namespace Go.Proofs.YtjgekbmahhhokaaDoor.Pa
open Go.RowKit V Pk Go.Proofs.YtjgekbmahhhokaaDoor.Vl Go.Proofs.YtjgekbmahhhokaaDoor.Nm
set_option linter.unusedVariables false
set_option linter.unusedSimpArgs false

variable {G : List (Nat × List Value)}
def dvS (s : StL) (r : D) : Prop := r = .agg (cSt s) ∧ okS s

theorem places32_Pbb : ∀ w, ((#[{ name := "Kind", type := 3, offset := 0, embedded := false, tag := "", pkgPath := "", byteOffset := 0 }, { name := "Table", type := 9, offset := 1, embedded := false, tag := "", pkgPath := "", byteOffset := 8 }, { name := "Cols", type := 27, offset := 2, embedded := false, tag := "", pkgPath := "", byteOffset := 24 }, { name := "Row", type := 28, offset := 3, embedded := false, tag := "", pkgPath := "", byteOffset := 48 }, { name := "Names", type := 29, offset := 4, embedded := false, tag := "", pkgPath := "", byteOffset := 72 }, { name := "Count", type := 4, offset := 5, embedded := false, tag := "", pkgPath := "", byteOffset := 96 }, { name := "Where", type := 30, offset := 6, embedded := false, tag := "", pkgPath := "", byteOffset := 104 }, { name := "Order", type := 9, offset := 7, embedded := false, tag := "", pkgPath := "", byteOffset := 128 }, { name := "Down", type := 4, offset := 8, embedded := false, tag := "", pkgPath := "", byteOffset := 144 }, { name := "Limit", type := 3, offset := 9, embedded := false, tag := "", pkgPath := "", byteOffset := 152 }, { name := "Set", type := 9, offset := 10, embedded := false, tag := "", pkgPath := "", byteOffset := 160 }, { name := "To", type := 30, offset := 11, embedded := false, tag := "", pkgPath := "", byteOffset := 176 }] : Array Field).mapM fun f => do pure (f.offset, ← sizeOf f.type) : Sem (Array (Nat × Nat))).run Tryd.prog w = .ok #[(0, 1), (1, 1), (2, 1), (3, 1), (4, 1), (5, 1), (6, 1), (7, 1), (8, 1), (9, 1), (10, 1), (11, 1)] w := fun w => by simp [Tryd.sizeOf27, Tryd.sizeOf28, Tryd.sizeOf29, Tryd.sizeOf3, Tryd.sizeOf30, Tryd.sizeOf4, Tryd.sizeOf9]

set_option maxHeartbeats 4000000 in
set_option maxRecDepth 100000 in
theorem statement_vx {br : Nat} {l : List Tk} (hl : l.length ≤ 100) (hm : (0, marksC) ∈ G) (hw : (2, wordsC) ∈ G) (hk : (5, cmpC) ∈ G) (hty : (1, typesC) ∈ G) (ht : ∀ t ∈ l, t.s.size ≤ maxLen ∧ (t.k = 2 → 0 ≤ t.n ∧ t.n ≤ 9223372036854775807)) (p : Nat) (hp : p ≤ l.length) (os : List OpL) (R : Rs StL) (hR : R = stP l p os) (ad : Option Addr) (n cap : Nat) : VX Tryd.prog G 25 [.v (.pointer (some ⟨br, 0, none⟩))] [⟨br, 70, 3, [.list 3 (l.flatMap cT) l.length, .v (.int .i64 ((p : Nat) : Int)), .v (.slice ad n cap)]⟩] (fun r S' => EndR br l R dvS r S') (PanX R) := by
 refine VX.body Tryd.func25 rfl Tryd.ntmps25 le_ fun X0 w0 S00 => ?_
 refine sr_ ?_
 refine OD.alloc (ds := [_, _, _, _, _, _, _, _, _, _, _, _]) wp_ rfl rfl Tryd.zeroValue32 rfl (fun b2 => ?_)
 refine on_ [(0, _), (2, _)] [⟨b2, 32, 12, [_, _, _, _, _, _, _, _, _, _, _, _]⟩, ⟨br, 70, 3, [_, _, _]⟩] ?_
 refine sr_ ?_
 refine os_ (still_bld (pl := [(9, _)]) (ds := [_, _, _, _, _, _, _, _, _, _, _, _]) rfl Tryd.zeroValue32 Tryd.runUnderlying32 places32_Pbb ⟨rfl, opd_const, trivial⟩ rfl rfl) ?_
 refine OD.alloc (ds := [_, _, _, _, _, _, _, _, _, _, _, _]) wp_ rfl rfl Tryd.zeroValue32 rfl (fun b3 => ?_)
 refine ot_ 0 [_, _, _, _, _, _, _, _, _, _, _, _] Tryd.sizeOf32 ?_
 refine on_ [(0, _), (2, _), (3, _)] [⟨b3, 32, 12, [_, _, _, _, _, _, _, _, _, _, _, _]⟩, ⟨b2, 32, 12, [_, _, _, _, _, _, _, _, _, _, _, _]⟩, ⟨br, 70, 3, [_, _, _]⟩] ?_
 refine CD.seq ?_
 refine CD.block ?_
 refine CD.seq ?_
 refine CD.perm (S' := [_, _, _]) (List.perm_append_comm (l₁ := [_, _]) (l₂ := [_])) ?_
 refine CD.cells (k := 1) (cs' := [_, _, .list 2 [] 0, .list 3 [] 0, _, _, .list 5 [] 0, _, _, _, _, .list 5 [] 0]) (S' := [⟨br, 70, 3, [.list 3 (l.flatMap cT) l.length, .v (.int .i64 ((p : Nat) : Int)), .v (.slice ad n cap)]⟩, _, _]) rfl (by repeat (first | exact trivial | exact ⟨gv_rfl, trivial⟩ | exact ⟨gv_nil, trivial⟩ | refine ⟨gv_rfl, ?_⟩ | refine ⟨gv_nil, ?_⟩)) rfl ?_
 refine CD.region ?_
 refine om_ ?_
 refine OD.call wp_ rfl rfl rfl Tryd.call43 (eat_vc l hl p 1 ⟨#[67, 82, 69, 65, 84, 69]⟩ ad n cap br) ⟨ot, opd_const, opd_const, trivial⟩ (List.Perm.refl _) ?_
 rintro _ _ ⟨rfl, rfl⟩
 refine OD.perm (S' := ⟨br, 70, 3, [.list 3 (l.flatMap cT) l.length, .v (.int .i64 (((if isQ l p 1 ⟨#[67, 82, 69, 65, 84, 69]⟩ = true then p + 1 else p) : Nat) : Int)), .v (.slice ad n cap)]⟩ :: [⟨b3, 32, 12, [_, _, _, _, _, _, _, _, _, _, _, _]⟩, ⟨b2, 32, 12, [_, _, _, _, _, _, _, _, _, _, _, _]⟩]) (List.Perm.refl _) ?_
 refine om_ ?_
 refine on_ [(0, _), (2, _), (3, _), (7, _)] [⟨br, 70, 3, [_, _, _]⟩, ⟨b3, 32, 12, [_, _, _, _, _, _, _, _, _, _, _, _]⟩, ⟨b2, 32, 12, [_, _, _, _, _, _, _, _, _, _, _, _]⟩] ?_
 refine CD.cond ot (fun hc0 => ?_) (fun hc0 => ?_)
 ·have hc0' := hc0
  (try simp only [V.cnd, ne_eq] at hc0')
  have e0t : isQ l p 1 ⟨#[67, 82, 69, 65, 84, 69]⟩ = true := hc0
  rw [e0t]
  simp only [if_true]
  have hR1 : R = (mustP l [⟨#[84, 65, 66, 76, 69]⟩] (p + 1) os).bind (fun _ p ops => (nameP l p ops).bind (fun t p ops => (colsB l p ops).bind (fun c p ops => .ok { st0 with kind := 1, table := t, cols := c } p ops))) := hR.trans (by unfold stP; rw [if_pos e0t])
  refine sr_ ?_
  refine om_ ?_
  refine ob_ (numD 0 [_]) [.string ⟨#[]⟩] [_] Tryd.zeroValue9 Tryd.runUnderlying29 Tryd.sizeOf9 (fun b11 => ?_)
  refine og_ 0 11 1 1 ?_
  refine OD.callX wp_ rfl rfl rfl Tryd.call44 (must_vx l hl [⟨#[84, 65, 66, 76, 69]⟩] (by decide) (p + 1) ad n cap br) ⟨ot, by exact rfl, trivial⟩ (List.Perm.refl _) (fun ch hch => (Or.inr ⟨ch, rfl, by obtain ⟨q, e, h1, h2⟩ := hch; exact ⟨q, e, hR1.trans (by rw [h1]; rfl), h2⟩⟩ : BodyX _ _ _ _ _ _)) ?_
  rintro _ _ ⟨p2, hr2, rfl⟩
  refine OD.perm (S' := ⟨br, 70, 3, [.list 3 (l.flatMap cT) l.length, .v (.int .i64 ((p2 : Nat) : Int)), .v (.slice ad n cap)]⟩ :: [⟨b3, 32, 12, [_, _, _, _, _, _, _, _, _, _, _, _]⟩, ⟨b2, 32, 12, [_, _, _, _, _, _, _, _, _, _, _, _]⟩]) (List.Perm.refl _) ?_
  have hp2 := (must_le (hr2 []) (isQ_lt e0t)).2.1
  have hR2 : R = (nameP l p2 os).bind (fun t p ops => (colsB l p ops).bind (fun c p ops => .ok { st0 with kind := 1, table := t, cols := c } p ops)) := hR1.trans (by rw [hr2]; rfl)
  refine on_ [(0, _), (2, _), (3, _)] [⟨br, 70, 3, [_, _, _]⟩, ⟨b3, 32, 12, [_, _, _, _, _, _, _, _, _, _, _, _]⟩, ⟨b2, 32, 12, [_, _, _, _, _, _, _, _, _, _, _, _]⟩] ?_
  refine sr_ ?_
  refine om_ ?_
  refine OD.callX wp_ rfl rfl rfl Tryd.call45 (name_vx hm hw l hl ht p2 ad n cap br) ⟨ot, trivial⟩ (List.Perm.refl _) (fun ch hch => (Or.inr ⟨ch, rfl, by obtain ⟨q, e, h1, h2⟩ := hch; exact ⟨q, e, hR2.trans (by rw [h1]; rfl), h2⟩⟩ : BodyX _ _ _ _ _ _)) ?_
  rintro _ _ ⟨t, hr3, rfl, rfl⟩
  refine OD.perm (S' := ⟨br, 70, 3, [.list 3 (l.flatMap cT) l.length, .v (.int .i64 (((p2 + 1) : Nat) : Int)), .v (.slice ad n cap)]⟩ :: [⟨b3, 32, 12, [_, _, _, _, _, _, _, _, _, _, _, _]⟩, ⟨b2, 32, 12, [_, _, _, _, _, _, _, _, _, _, _, _]⟩]) (List.Perm.refl _) ?_
  have hlt3 := (name_le (hr3 [])).2.2
  have hR3 : R = (colsB l (p2 + 1) os).bind (fun c p ops => .ok { st0 with kind := 1, table := t, cols := c } p ops) := hR2.trans (by rw [hr3]; rfl)
  refine os_ (fa_ 0) ?_
  refine ot_ 1 [_, _, _, _, _, _, _, _, _, _, _, _] Tryd.sizeOf3 ?_
  refine os_ (fa_ 1) ?_
  refine ot_ 1 [_, _, _, _, _, _, _, _, _, _, _, _] Tryd.sizeOf9 ?_
  refine on_ [(0, _), (2, _), (3, _)] [⟨br, 70, 3, [_, _, _]⟩, ⟨b3, 32, 12, [_, _, _, _, _, _, _, _, _, _, _, _]⟩, ⟨b2, 32, 12, [_, _, _, _, _, _, _, _, _, _, _, _]⟩] ?_
  refine CD.region ?_
  refine om_ ?_
  refine OD.callX wp_ rfl rfl rfl Tryd.call46 (columns_vx hl hm hw hty ht (p2 + 1) hlt3 os (colsB l (p2 + 1) os) rfl ad n cap) ⟨ot, trivial⟩ (List.Perm.refl _) (fun ch hch => (Or.inr ⟨ch, rfl, by obtain ⟨q, e, h1, h2⟩ := hch; exact ⟨q, e, hR3.trans (by rw [h1]; rfl), h2⟩⟩ : BodyX _ _ _ _ _ _)) ?_
  rintro _ _ ⟨c, p4, o4, ad4, n4, cap4, hr4, ⟨rfl, hv_c⟩, hp4, rfl⟩
  refine OD.perm (S' := ⟨br, 70, 3, [.list 3 (l.flatMap cT) l.length, .v (.int .i64 ((p4 : Nat) : Int)), .v (.slice ad4 n4 cap4)]⟩ :: [⟨b3, 32, 12, [_, _, _, _, _, _, _, _, _, _, _, _]⟩, ⟨b2, 32, 12, [_, _, _, _, _, _, _, _, _, _, _, _]⟩]) (List.Perm.refl _) ?_
  have hR4 : R = .ok { st0 with kind := 1, table := t, cols := c } p4 o4 := hR3.trans (by rw [hr4]; rfl)
  refine os_ (fa_ 2) ?_
  refine ot_ 1 [_, _, _, _, _, _, _, _, _, _, _, _] Tryd.sizeOf27 ?_
  refine on_ [(2, _), (3, _)] [⟨br, 70, 3, [_, _, _]⟩, ⟨b3, 32, 12, [_, _, _, _, _, _, _, _, _, _, _, _]⟩, ⟨b2, 32, 12, [_, _, _, _, _, _, _, _, _, _, _, _]⟩] ?_
  refine CD.seq ?_
  refine CD.cells (k := 1) (cs' := [_, _, _, _, .list 1 [] 0, _, _, _, _, _, _, _]) (S' := [⟨br, 70, 3, [.list 3 (l.flatMap cT) l.length, .v (.int .i64 ((p4 : Nat) : Int)), .v (.slice ad4 n4 cap4)]⟩, _, _]) rfl (by repeat (first | exact trivial | exact ⟨gv_rfl, trivial⟩ | exact ⟨gv_nil, trivial⟩ | refine ⟨gv_rfl, ?_⟩ | refine ⟨gv_nil, ?_⟩)) rfl ?_
  refine CD.region ?_
  refine os_ (lab_ 1 [_, _, _, _, _, _, _, _, _, _, _, _]) ?_
  refine ot_ 2 [_, _, _, _, _, _, _, _, _, _, _, _] Tryd.sizeOf32 ?_
  refine on_ [(2, _)] [⟨br, 70, 3, [_, _, _]⟩, ⟨b3, 32, 12, [_, _, _, _, _, _, _, _, _, _, _, _]⟩, ⟨b2, 32, 12, [_, _, _, _, _, _, _, _, _, _, _, _]⟩] ?_
  refine CD.ret ?_
  refine Or.inl ?_
  refine ⟨.inr rfl, _, [⟨br, 70, 3, [.list 3 (l.flatMap cT) l.length, .v (.int .i64 ((p4 : Nat) : Int)), .v (.slice ad4 n4 cap4)]⟩], sw_, ret_one Tryd.results25 (res_cells (k := 2) (ds := [_, _, _, _, _, _, _, _, _, _, _, _]) le_ lk rfl rfl Tryd.isAgg32 Tryd.sizeOf32 rfl rfl), ?_⟩
  exact ⟨{ st0 with kind := 1, table := t, cols := c }, p4, o4, _, _, _, hR4, ⟨rfl, ⟨hv_c, Nat.zero_le _, Nat.zero_le _, Nat.zero_le _, Nat.zero_le _⟩⟩, hp4, rfl⟩
 have hc0' := hc0
 (try simp only [V.cnd, ne_eq] at hc0')
 have e0f : isQ l p 1 ⟨#[67, 82, 69, 65, 84, 69]⟩ = false := hc0
 rw [e0f]
 simp only [Bool.false_eq_true, if_false]
 refine sr_ ?_
 refine om_ ?_
 refine OD.call wp_ rfl rfl rfl Tryd.call43 (eat_vc l hl p 1 ⟨#[68, 82, 79, 80]⟩ ad n cap br) ⟨ot, opd_const, opd_const, trivial⟩ (List.Perm.refl _) ?_
 rintro _ _ ⟨rfl, rfl⟩
 refine OD.perm (S' := ⟨br, 70, 3, [.list 3 (l.flatMap cT) l.length, .v (.int .i64 (((if isQ l p 1 ⟨#[68, 82, 79, 80]⟩ = true then p + 1 else p) : Nat) : Int)), .v (.slice ad n cap)]⟩ :: [⟨b3, 32, 12, [_, _, _, _, _, _, _, _, _, _, _, _]⟩, ⟨b2, 32, 12, [_, _, _, _, _, _, _, _, _, _, _, _]⟩]) (List.Perm.refl _) ?_
 refine om_ ?_
 refine on_ [(0, _), (2, _), (3, _), (20, _)] [⟨br, 70, 3, [_, _, _]⟩, ⟨b3, 32, 12, [_, _, _, _, _, _, _, _, _, _, _, _]⟩, ⟨b2, 32, 12, [_, _, _, _, _, _, _, _, _, _, _, _]⟩] ?_
 refine CD.cond ot (fun hc1 => ?_) (fun hc1 => ?_)
 ·have hc1' := hc1
  (try simp only [V.cnd, ne_eq] at hc1')
  have e1t : isQ l p 1 ⟨#[68, 82, 79, 80]⟩ = true := hc1
  rw [e1t]
  simp only [if_true]
  have hR5 : R = (mustP l [⟨#[84, 65, 66, 76, 69]⟩] (p + 1) os).bind (fun _ p ops => (nameP l p ops).bind (fun t p ops => .ok { st0 with kind := 2, table := t } p ops)) := hR.trans (by unfold stP; rw [if_neg (F_ e0f), if_pos e1t])
  refine sr_ ?_
  refine om_ ?_
  refine ob_ (numD 0 [_]) [.string ⟨#[]⟩] [_] Tryd.zeroValue9 Tryd.runUnderlying29 Tryd.sizeOf9 (fun b24 => ?_)
  refine og_ 0 24 1 1 ?_
  refine OD.callX wp_ rfl rfl rfl Tryd.call44 (must_vx l hl [⟨#[84, 65, 66, 76, 69]⟩] (by decide) (p + 1) ad n cap br) ⟨ot, by exact rfl, trivial⟩ (List.Perm.refl _) (fun ch hch => (Or.inr ⟨ch, rfl, by obtain ⟨q, e, h1, h2⟩ := hch; exact ⟨q, e, hR5.trans (by rw [h1]; rfl), h2⟩⟩ : BodyX _ _ _ _ _ _)) ?_
  rintro _ _ ⟨p6, hr6, rfl⟩
  refine OD.perm (S' := ⟨br, 70, 3, [.list 3 (l.flatMap cT) l.length, .v (.int .i64 ((p6 : Nat) : Int)), .v (.slice ad n cap)]⟩ :: [⟨b3, 32, 12, [_, _, _, _, _, _, _, _, _, _, _, _]⟩, ⟨b2, 32, 12, [_, _, _, _, _, _, _, _, _, _, _, _]⟩]) (List.Perm.refl _) ?_
  have hp6 := (must_le (hr6 []) (isQ_lt e1t)).2.1
  have hR6 : R = (nameP l p6 os).bind (fun t p ops => .ok { st0 with kind := 2, table := t } p ops) := hR5.trans (by rw [hr6]; rfl)
  refine on_ [(0, _), (2, _), (3, _)] [⟨br, 70, 3, [_, _, _]⟩, ⟨b3, 32, 12, [_, _, _, _, _, _, _, _, _, _, _, _]⟩, ⟨b2, 32, 12, [_, _, _, _, _, _, _, _, _, _, _, _]⟩] ?_
  refine CD.region ?_
  refine om_ ?_
  refine OD.callX wp_ rfl rfl rfl Tryd.call45 (name_vx hm hw l hl ht p6 ad n cap br) ⟨ot, trivial⟩ (List.Perm.refl _) (fun ch hch => (Or.inr ⟨ch, rfl, by obtain ⟨q, e, h1, h2⟩ := hch; exact ⟨q, e, hR6.trans (by rw [h1]; rfl), h2⟩⟩ : BodyX _ _ _ _ _ _)) ?_
  rintro _ _ ⟨t, hr7, rfl, rfl⟩
  refine OD.perm (S' := ⟨br, 70, 3, [.list 3 (l.flatMap cT) l.length, .v (.int .i64 (((p6 + 1) : Nat) : Int)), .v (.slice ad n cap)]⟩ :: [⟨b3, 32, 12, [_, _, _, _, _, _, _, _, _, _, _, _]⟩, ⟨b2, 32, 12, [_, _, _, _, _, _, _, _, _, _, _, _]⟩]) (List.Perm.refl _) ?_
  have hlt7 := (name_le (hr7 [])).2.2
  have hR7 : R = .ok { st0 with kind := 2, table := t } (p6 + 1) os := hR6.trans (by rw [hr7]; rfl)
  refine os_ (fa_ 0) ?_
  refine ot_ 1 [_, _, _, _, _, _, _, _, _, _, _, _] Tryd.sizeOf3 ?_
  refine os_ (fa_ 1) ?_
  refine ot_ 1 [_, _, _, _, _, _, _, _, _, _, _, _] Tryd.sizeOf9 ?_
  refine on_ [(2, _), (3, _)] [⟨br, 70, 3, [_, _, _]⟩, ⟨b3, 32, 12, [_, _, _, _, _, _, _, _, _, _, _, _]⟩, ⟨b2, 32, 12, [_, _, _, _, _, _, _, _, _, _, _, _]⟩] ?_
  refine CD.seq ?_
  refine CD.cells (k := 1) (cs' := [_, _, _, _, .list 1 [] 0, _, _, _, _, _, _, _]) (S' := [⟨br, 70, 3, [.list 3 (l.flatMap cT) l.length, .v (.int .i64 (((p6 + 1) : Nat) : Int)), .v (.slice ad n cap)]⟩, _, _]) rfl (by repeat (first | exact trivial | exact ⟨gv_rfl, trivial⟩ | exact ⟨gv_nil, trivial⟩ | refine ⟨gv_rfl, ?_⟩ | refine ⟨gv_nil, ?_⟩)) rfl ?_
  refine CD.region ?_
  refine os_ (lab_ 1 [_, _, _, _, _, _, _, _, _, _, _, _]) ?_
  refine ot_ 2 [_, _, _, _, _, _, _, _, _, _, _, _] Tryd.sizeOf32 ?_
  refine on_ [(2, _)] [⟨br, 70, 3, [_, _, _]⟩, ⟨b3, 32, 12, [_, _, _, _, _, _, _, _, _, _, _, _]⟩, ⟨b2, 32, 12, [_, _, _, _, _, _, _, _, _, _, _, _]⟩] ?_
  refine CD.ret ?_
  refine Or.inl ?_
  refine ⟨.inr rfl, _, [⟨br, 70, 3, [.list 3 (l.flatMap cT) l.length, .v (.int .i64 (((p6 + 1) : Nat) : Int)), .v (.slice ad n cap)]⟩], sw_, ret_one Tryd.results25 (res_cells (k := 2) (ds := [_, _, _, _, _, _, _, _, _, _, _, _]) le_ lk rfl rfl Tryd.isAgg32 Tryd.sizeOf32 rfl rfl), ?_⟩
  exact ⟨{ st0 with kind := 2, table := t }, (p6 + 1), os, _, _, _, hR7, ⟨rfl, ⟨Nat.zero_le _, Nat.zero_le _, Nat.zero_le _, Nat.zero_le _, Nat.zero_le _⟩⟩, hlt7, rfl⟩
 have hc1' := hc1
 (try simp only [V.cnd, ne_eq] at hc1')
 have e1f : isQ l p 1 ⟨#[68, 82, 79, 80]⟩ = false := hc1
 rw [e1f]
 simp only [Bool.false_eq_true, if_false]
 refine sr_ ?_
 refine om_ ?_
 refine OD.call wp_ rfl rfl rfl Tryd.call43 (eat_vc l hl p 1 ⟨#[73, 78, 83, 69, 82, 84]⟩ ad n cap br) ⟨ot, opd_const, opd_const, trivial⟩ (List.Perm.refl _) ?_
 rintro _ _ ⟨rfl, rfl⟩
 refine OD.perm (S' := ⟨br, 70, 3, [.list 3 (l.flatMap cT) l.length, .v (.int .i64 (((if isQ l p 1 ⟨#[73, 78, 83, 69, 82, 84]⟩ = true then p + 1 else p) : Nat) : Int)), .v (.slice ad n cap)]⟩ :: [⟨b3, 32, 12, [_, _, _, _, _, _, _, _, _, _, _, _]⟩, ⟨b2, 32, 12, [_, _, _, _, _, _, _, _, _, _, _, _]⟩]) (List.Perm.refl _) ?_
 refine om_ ?_
 refine on_ [(0, _), (2, _), (3, _), (30, _)] [⟨br, 70, 3, [_, _, _]⟩, ⟨b3, 32, 12, [_, _, _, _, _, _, _, _, _, _, _, _]⟩, ⟨b2, 32, 12, [_, _, _, _, _, _, _, _, _, _, _, _]⟩] ?_
 refine CD.cond ot (fun hc2 => ?_) (fun hc2 => ?_)
 ·have hc2' := hc2
  (try simp only [V.cnd, ne_eq] at hc2')
  have e2t : isQ l p 1 ⟨#[73, 78, 83, 69, 82, 84]⟩ = true := hc2
  rw [e2t]
  simp only [if_true]
  have hR8 : R = (mustP l [⟨#[73, 78, 84, 79]⟩] (p + 1) os).bind (fun _ p ops => (nameP l p ops).bind (fun t p ops => (mustP l [⟨#[86, 65, 76, 85, 69, 83]⟩] p ops).bind (fun _ p ops => (rowB l p ops).bind (fun r p ops => .ok { st0 with kind := 3, table := t, row := r } p ops)))) := hR.trans (by unfold stP; rw [if_neg (F_ e0f), if_neg (F_ e1f), if_pos e2t])
  refine sr_ ?_
  refine om_ ?_
  refine ob_ (numD 0 [_]) [.string ⟨#[]⟩] [_] Tryd.zeroValue9 Tryd.runUnderlying29 Tryd.sizeOf9 (fun b34 => ?_)
  refine og_ 0 34 1 1 ?_
  refine OD.callX wp_ rfl rfl rfl Tryd.call44 (must_vx l hl [⟨#[73, 78, 84, 79]⟩] (by decide) (p + 1) ad n cap br) ⟨ot, by exact rfl, trivial⟩ (List.Perm.refl _) (fun ch hch => (Or.inr ⟨ch, rfl, by obtain ⟨q, e, h1, h2⟩ := hch; exact ⟨q, e, hR8.trans (by rw [h1]; rfl), h2⟩⟩ : BodyX _ _ _ _ _ _)) ?_
  rintro _ _ ⟨p9, hr9, rfl⟩
  refine OD.perm (S' := ⟨br, 70, 3, [.list 3 (l.flatMap cT) l.length, .v (.int .i64 ((p9 : Nat) : Int)), .v (.slice ad n cap)]⟩ :: [⟨b3, 32, 12, [_, _, _, _, _, _, _, _, _, _, _, _]⟩, ⟨b2, 32, 12, [_, _, _, _, _, _, _, _, _, _, _, _]⟩]) (List.Perm.refl _) ?_
  have hp9 := (must_le (hr9 []) (isQ_lt e2t)).2.1
  have hR9 : R = (nameP l p9 os).bind (fun t p ops => (mustP l [⟨#[86, 65, 76, 85, 69, 83]⟩] p ops).bind (fun _ p ops => (rowB l p ops).bind (fun r p ops => .ok { st0 with kind := 3, table := t, row := r } p ops))) := hR8.trans (by rw [hr9]; rfl)
  refine on_ [(0, _), (2, _), (3, _)] [⟨br, 70, 3, [_, _, _]⟩, ⟨b3, 32, 12, [_, _, _, _, _, _, _, _, _, _, _, _]⟩, ⟨b2, 32, 12, [_, _, _, _, _, _, _, _, _, _, _, _]⟩] ?_
  refine sr_ ?_
  refine om_ ?_
  refine OD.callX wp_ rfl rfl rfl Tryd.call45 (name_vx hm hw l hl ht p9 ad n cap br) ⟨ot, trivial⟩ (List.Perm.refl _) (fun ch hch => (Or.inr ⟨ch, rfl, by obtain ⟨q, e, h1, h2⟩ := hch; exact ⟨q, e, hR9.trans (by rw [h1]; rfl), h2⟩⟩ : BodyX _ _ _ _ _ _)) ?_
  rintro _ _ ⟨t, hr10, rfl, rfl⟩
  refine OD.perm (S' := ⟨br, 70, 3, [.list 3 (l.flatMap cT) l.length, .v (.int .i64 (((p9 + 1) : Nat) : Int)), .v (.slice ad n cap)]⟩ :: [⟨b3, 32, 12, [_, _, _, _, _, _, _, _, _, _, _, _]⟩, ⟨b2, 32, 12, [_, _, _, _, _, _, _, _, _, _, _, _]⟩]) (List.Perm.refl _) ?_
  have hlt10 := (name_le (hr10 [])).2.2
  have hR10 : R = (mustP l [⟨#[86, 65, 76, 85, 69, 83]⟩] (p9 + 1) os).bind (fun _ p ops => (rowB l p ops).bind (fun r p ops => .ok { st0 with kind := 3, table := t, row := r } p ops)) := hR9.trans (by rw [hr10]; rfl)
  refine os_ (fa_ 0) ?_
  refine ot_ 1 [_, _, _, _, _, _, _, _, _, _, _, _] Tryd.sizeOf3 ?_
  refine os_ (fa_ 1) ?_
  refine ot_ 1 [_, _, _, _, _, _, _, _, _, _, _, _] Tryd.sizeOf9 ?_
  refine on_ [(0, _), (2, _), (3, _)] [⟨br, 70, 3, [_, _, _]⟩, ⟨b3, 32, 12, [_, _, _, _, _, _, _, _, _, _, _, _]⟩, ⟨b2, 32, 12, [_, _, _, _, _, _, _, _, _, _, _, _]⟩] ?_
  refine sr_ ?_
  refine om_ ?_
  refine ob_ (numD 0 [_]) [.string ⟨#[]⟩] [_] Tryd.zeroValue9 Tryd.runUnderlying29 Tryd.sizeOf9 (fun b41 => ?_)
  refine og_ 0 41 1 1 ?_
  refine OD.callX wp_ rfl rfl rfl Tryd.call44 (must_vx l hl [⟨#[86, 65, 76, 85, 69, 83]⟩] (by decide) (p9 + 1) ad n cap br) ⟨ot, by exact rfl, trivial⟩ (List.Perm.refl _) (fun ch hch => (Or.inr ⟨ch, rfl, by obtain ⟨q, e, h1, h2⟩ := hch; exact ⟨q, e, hR10.trans (by rw [h1]; rfl), h2⟩⟩ : BodyX _ _ _ _ _ _)) ?_
  rintro _ _ ⟨p11, hr11, rfl⟩
  refine OD.perm (S' := ⟨br, 70, 3, [.list 3 (l.flatMap cT) l.length, .v (.int .i64 ((p11 : Nat) : Int)), .v (.slice ad n cap)]⟩ :: [⟨b3, 32, 12, [_, _, _, _, _, _, _, _, _, _, _, _]⟩, ⟨b2, 32, 12, [_, _, _, _, _, _, _, _, _, _, _, _]⟩]) (List.Perm.refl _) ?_
  have hp11 := (must_le (hr11 []) hlt10).2.1
  have hR11 : R = (rowB l p11 os).bind (fun r p ops => .ok { st0 with kind := 3, table := t, row := r } p ops) := hR10.trans (by rw [hr11]; rfl)
  refine on_ [(0, _), (2, _), (3, _)] [⟨br, 70, 3, [_, _, _]⟩, ⟨b3, 32, 12, [_, _, _, _, _, _, _, _, _, _, _, _]⟩, ⟨b2, 32, 12, [_, _, _, _, _, _, _, _, _, _, _, _]⟩] ?_
  refine CD.region ?_
  refine om_ ?_
  refine OD.callX wp_ rfl rfl rfl Tryd.call47 (row_vx hl ht p11 hp11 os (rowB l p11 os) rfl ad n cap) ⟨ot, trivial⟩ (List.Perm.refl _) (fun ch hch => (Or.inr ⟨ch, rfl, by obtain ⟨q, e, h1, h2⟩ := hch; exact ⟨q, e, hR11.trans (by rw [h1]; rfl), h2⟩⟩ : BodyX _ _ _ _ _ _)) ?_
  rintro _ _ ⟨r, p12, o12, ad12, n12, cap12, hr12, ⟨rfl, hv_r⟩, hp12, rfl⟩
  refine OD.perm (S' := ⟨br, 70, 3, [.list 3 (l.flatMap cT) l.length, .v (.int .i64 ((p12 : Nat) : Int)), .v (.slice ad12 n12 cap12)]⟩ :: [⟨b3, 32, 12, [_, _, _, _, _, _, _, _, _, _, _, _]⟩, ⟨b2, 32, 12, [_, _, _, _, _, _, _, _, _, _, _, _]⟩]) (List.Perm.refl _) ?_
  have hR12 : R = .ok { st0 with kind := 3, table := t, row := r } p12 o12 := hR11.trans (by rw [hr12]; rfl)
  refine os_ (fa_ 3) ?_
  refine ot_ 1 [_, _, _, _, _, _, _, _, _, _, _, _] Tryd.sizeOf28 ?_
  refine on_ [(2, _), (3, _)] [⟨br, 70, 3, [_, _, _]⟩, ⟨b3, 32, 12, [_, _, _, _, _, _, _, _, _, _, _, _]⟩, ⟨b2, 32, 12, [_, _, _, _, _, _, _, _, _, _, _, _]⟩] ?_
  refine CD.seq ?_
  refine CD.cells (k := 1) (cs' := [_, _, _, _, .list 1 [] 0, _, _, _, _, _, _, _]) (S' := [⟨br, 70, 3, [.list 3 (l.flatMap cT) l.length, .v (.int .i64 ((p12 : Nat) : Int)), .v (.slice ad12 n12 cap12)]⟩, _, _]) rfl (by repeat (first | exact trivial | exact ⟨gv_rfl, trivial⟩ | exact ⟨gv_nil, trivial⟩ | refine ⟨gv_rfl, ?_⟩ | refine ⟨gv_nil, ?_⟩)) rfl ?_
  refine CD.region ?_
  refine os_ (lab_ 1 [_, _, _, _, _, _, _, _, _, _, _, _]) ?_
  refine ot_ 2 [_, _, _, _, _, _, _, _, _, _, _, _] Tryd.sizeOf32 ?_
  refine on_ [(2, _)] [⟨br, 70, 3, [_, _, _]⟩, ⟨b3, 32, 12, [_, _, _, _, _, _, _, _, _, _, _, _]⟩, ⟨b2, 32, 12, [_, _, _, _, _, _, _, _, _, _, _, _]⟩] ?_
  refine CD.ret ?_
  refine Or.inl ?_
  refine ⟨.inr rfl, _, [⟨br, 70, 3, [.list 3 (l.flatMap cT) l.length, .v (.int .i64 ((p12 : Nat) : Int)), .v (.slice ad12 n12 cap12)]⟩], sw_, ret_one Tryd.results25 (res_cells (k := 2) (ds := [_, _, _, _, _, _, _, _, _, _, _, _]) le_ lk rfl rfl Tryd.isAgg32 Tryd.sizeOf32 rfl rfl), ?_⟩
  exact ⟨{ st0 with kind := 3, table := t, row := r }, p12, o12, _, _, _, hR12, ⟨rfl, ⟨Nat.zero_le _, hv_r, Nat.zero_le _, Nat.zero_le _, Nat.zero_le _⟩⟩, hp12, rfl⟩
 have hc2' := hc2
 (try simp only [V.cnd, ne_eq] at hc2')
 have e2f : isQ l p 1 ⟨#[73, 78, 83, 69, 82, 84]⟩ = false := hc2
 rw [e2f]
 simp only [Bool.false_eq_true, if_false]
 refine sr_ ?_
 refine om_ ?_
 refine OD.call wp_ rfl rfl rfl Tryd.call43 (eat_vc l hl p 1 ⟨#[83, 69, 76, 69, 67, 84]⟩ ad n cap br) ⟨ot, opd_const, opd_const, trivial⟩ (List.Perm.refl _) ?_
 rintro _ _ ⟨rfl, rfl⟩
 refine OD.perm (S' := ⟨br, 70, 3, [.list 3 (l.flatMap cT) l.length, .v (.int .i64 (((if isQ l p 1 ⟨#[83, 69, 76, 69, 67, 84]⟩ = true then p + 1 else p) : Nat) : Int)), .v (.slice ad n cap)]⟩ :: [⟨b3, 32, 12, [_, _, _, _, _, _, _, _, _, _, _, _]⟩, ⟨b2, 32, 12, [_, _, _, _, _, _, _, _, _, _, _, _]⟩]) (List.Perm.refl _) ?_
 refine om_ ?_
 refine on_ [(0, _), (2, _), (3, _), (46, _)] [⟨br, 70, 3, [_, _, _]⟩, ⟨b3, 32, 12, [_, _, _, _, _, _, _, _, _, _, _, _]⟩, ⟨b2, 32, 12, [_, _, _, _, _, _, _, _, _, _, _, _]⟩] ?_
 refine CD.cond ot (fun hc3 => ?_) (fun hc3 => ?_)
 ·have hc3' := hc3
  (try simp only [V.cnd, ne_eq] at hc3')
  have e3t : isQ l p 1 ⟨#[83, 69, 76, 69, 67, 84]⟩ = true := hc3
  rw [e3t]
  simp only [if_true]
  have hR13 : R = pickP l (p + 1) os := hR.trans (by unfold stP; rw [if_neg (F_ e0f), if_neg (F_ e1f), if_neg (F_ e2f), if_pos e3t])
  refine sr_ ?_
  refine os_ (fa_ 0) ?_
  refine ot_ 1 [_, _, _, _, _, _, _, _, _, _, _, _] Tryd.sizeOf3 ?_
  refine on_ [(0, _), (2, _), (3, _)] [⟨br, 70, 3, [_, _, _]⟩, ⟨b3, 32, 12, [_, _, _, _, _, _, _, _, _, _, _, _]⟩, ⟨b2, 32, 12, [_, _, _, _, _, _, _, _, _, _, _, _]⟩] ?_
  refine CD.region ?_
  refine om_ ?_
  refine OD.callX wp_ rfl rfl rfl Tryd.call48 (pick_vx hl hm hw hk ht (p + 1) (isQ_lt e3t) os _ hR13 ad n cap b3) ⟨ot, ot, trivial⟩ (List.Perm.refl _) (fun ch hch => (Or.inr ⟨ch, rfl, hch⟩ : BodyX _ _ _ _ _ _)) ?_
  rintro _ _ ⟨s, p9, o9, ad9, n9, cap9, hr9, hok9, hp9, rfl⟩
  refine OD.perm (S' := [⟨br, 70, 3, [.list 3 (l.flatMap cT) l.length, .v (.int .i64 ((p9 : Nat) : Int)), .v (.slice ad9 n9 cap9)]⟩, ⟨b3, 32, 12, [_, _, _, _, _, _, _, _, _, _, _, _]⟩, ⟨b2, 32, 12, [_, _, _, _, _, _, _, _, _, _, _, _]⟩]) (List.Perm.refl _) ?_
  refine on_ [(2, _), (3, _)] [⟨br, 70, 3, [_, _, _]⟩, ⟨b3, 32, 12, [_, _, _, _, _, _, _, _, _, _, _, _]⟩, ⟨b2, 32, 12, [_, _, _, _, _, _, _, _, _, _, _, _]⟩] ?_
  refine CD.seq ?_
  refine CD.region ?_
  refine os_ (lab_ 1 [_, _, _, _, _, _, _, _, _, _, _, _]) ?_
  refine ot_ 2 [_, _, _, _, _, _, _, _, _, _, _, _] Tryd.sizeOf32 ?_
  refine on_ [(2, _)] [⟨br, 70, 3, [_, _, _]⟩, ⟨b3, 32, 12, [_, _, _, _, _, _, _, _, _, _, _, _]⟩, ⟨b2, 32, 12, [_, _, _, _, _, _, _, _, _, _, _, _]⟩] ?_
  refine CD.ret ?_
  refine Or.inl ?_
  refine ⟨.inr rfl, _, [⟨br, 70, 3, [.list 3 (l.flatMap cT) l.length, .v (.int .i64 ((p9 : Nat) : Int)), .v (.slice ad9 n9 cap9)]⟩], sw_, ret_one Tryd.results25 (res_cells (k := 2) (ds := [_, _, _, _, _, _, _, _, _, _, _, _]) le_ lk rfl rfl Tryd.isAgg32 Tryd.sizeOf32 rfl rfl), ?_⟩
  exact ⟨s, p9, o9, _, _, _, hr9, ⟨rfl, hok9⟩, hp9, rfl⟩
 have hc3' := hc3
 (try simp only [V.cnd, ne_eq] at hc3')
 have e3f : isQ l p 1 ⟨#[83, 69, 76, 69, 67, 84]⟩ = false := hc3
 rw [e3f]
 simp only [Bool.false_eq_true, if_false]
 refine sr_ ?_
 refine om_ ?_
 refine OD.call wp_ rfl rfl rfl Tryd.call43 (eat_vc l hl p 1 ⟨#[85, 80, 68, 65, 84, 69]⟩ ad n cap br) ⟨ot, opd_const, opd_const, trivial⟩ (List.Perm.refl _) ?_
 rintro _ _ ⟨rfl, rfl⟩
 refine OD.perm (S' := ⟨br, 70, 3, [.list 3 (l.flatMap cT) l.length, .v (.int .i64 (((if isQ l p 1 ⟨#[85, 80, 68, 65, 84, 69]⟩ = true then p + 1 else p) : Nat) : Int)), .v (.slice ad n cap)]⟩ :: [⟨b3, 32, 12, [_, _, _, _, _, _, _, _, _, _, _, _]⟩, ⟨b2, 32, 12, [_, _, _, _, _, _, _, _, _, _, _, _]⟩]) (List.Perm.refl _) ?_
 refine om_ ?_
 refine on_ [(0, _), (2, _), (3, _), (52, _)] [⟨br, 70, 3, [_, _, _]⟩, ⟨b3, 32, 12, [_, _, _, _, _, _, _, _, _, _, _, _]⟩, ⟨b2, 32, 12, [_, _, _, _, _, _, _, _, _, _, _, _]⟩] ?_
 refine CD.cond ot (fun hc4 => ?_) (fun hc4 => ?_)
 ·have hc4' := hc4
  (try simp only [V.cnd, ne_eq] at hc4')
  have e4t : isQ l p 1 ⟨#[85, 80, 68, 65, 84, 69]⟩ = true := hc4
  rw [e4t]
  simp only [if_true]
  have hR14 : R = (nameP l (p + 1) os).bind (fun t p ops => (mustP l [⟨#[83, 69, 84]⟩] p ops).bind (fun _ p ops => (nameP l p ops).bind (fun c p ops => (markP l ⟨#[61]⟩ p ops).bind (fun _ p ops => (exprP l p).bind (fun e p ops => (whereP l p ops).bind (fun w p ops => .ok { st0 with kind := 5, table := t, set := c, to := e, wher := w } p ops)))))) := hR.trans (by unfold stP; rw [if_neg (F_ e0f), if_neg (F_ e1f), if_neg (F_ e2f), if_neg (F_ e3f), if_pos e4t])
  refine sr_ ?_
  refine om_ ?_
  refine OD.callX wp_ rfl rfl rfl Tryd.call45 (name_vx hm hw l hl ht (p + 1) ad n cap br) ⟨ot, trivial⟩ (List.Perm.refl _) (fun ch hch => (Or.inr ⟨ch, rfl, by obtain ⟨q, e, h1, h2⟩ := hch; exact ⟨q, e, hR14.trans (by rw [h1]; rfl), h2⟩⟩ : BodyX _ _ _ _ _ _)) ?_
  rintro _ _ ⟨t, hr15, rfl, rfl⟩
  refine OD.perm (S' := ⟨br, 70, 3, [.list 3 (l.flatMap cT) l.length, .v (.int .i64 ((((p + 1) + 1) : Nat) : Int)), .v (.slice ad n cap)]⟩ :: [⟨b3, 32, 12, [_, _, _, _, _, _, _, _, _, _, _, _]⟩, ⟨b2, 32, 12, [_, _, _, _, _, _, _, _, _, _, _, _]⟩]) (List.Perm.refl _) ?_
  have hlt15 := (name_le (hr15 [])).2.2
  have hR15 : R = (mustP l [⟨#[83, 69, 84]⟩] ((p + 1) + 1) os).bind (fun _ p ops => (nameP l p ops).bind (fun c p ops => (markP l ⟨#[61]⟩ p ops).bind (fun _ p ops => (exprP l p).bind (fun e p ops => (whereP l p ops).bind (fun w p ops => .ok { st0 with kind := 5, table := t, set := c, to := e, wher := w } p ops))))) := hR14.trans (by rw [hr15]; rfl)
  refine os_ (fa_ 0) ?_
  refine ot_ 1 [_, _, _, _, _, _, _, _, _, _, _, _] Tryd.sizeOf3 ?_
  refine os_ (fa_ 1) ?_
  refine ot_ 1 [_, _, _, _, _, _, _, _, _, _, _, _] Tryd.sizeOf9 ?_
  refine on_ [(0, _), (2, _), (3, _)] [⟨br, 70, 3, [_, _, _]⟩, ⟨b3, 32, 12, [_, _, _, _, _, _, _, _, _, _, _, _]⟩, ⟨b2, 32, 12, [_, _, _, _, _, _, _, _, _, _, _, _]⟩] ?_
  refine sr_ ?_
  refine om_ ?_
  refine ob_ (numD 0 [_]) [.string ⟨#[]⟩] [_] Tryd.zeroValue9 Tryd.runUnderlying29 Tryd.sizeOf9 (fun b60 => ?_)
  refine og_ 0 60 1 1 ?_
  refine OD.callX wp_ rfl rfl rfl Tryd.call44 (must_vx l hl [⟨#[83, 69, 84]⟩] (by decide) ((p + 1) + 1) ad n cap br) ⟨ot, by exact rfl, trivial⟩ (List.Perm.refl _) (fun ch hch => (Or.inr ⟨ch, rfl, by obtain ⟨q, e, h1, h2⟩ := hch; exact ⟨q, e, hR15.trans (by rw [h1]; rfl), h2⟩⟩ : BodyX _ _ _ _ _ _)) ?_
  rintro _ _ ⟨p16, hr16, rfl⟩
  refine OD.perm (S' := ⟨br, 70, 3, [.list 3 (l.flatMap cT) l.length, .v (.int .i64 ((p16 : Nat) : Int)), .v (.slice ad n cap)]⟩ :: [⟨b3, 32, 12, [_, _, _, _, _, _, _, _, _, _, _, _]⟩, ⟨b2, 32, 12, [_, _, _, _, _, _, _, _, _, _, _, _]⟩]) (List.Perm.refl _) ?_
  have hp16 := (must_le (hr16 []) hlt15).2.1
  have hR16 : R = (nameP l p16 os).bind (fun c p ops => (markP l ⟨#[61]⟩ p ops).bind (fun _ p ops => (exprP l p).bind (fun e p ops => (whereP l p ops).bind (fun w p ops => .ok { st0 with kind := 5, table := t, set := c, to := e, wher := w } p ops)))) := hR15.trans (by rw [hr16]; rfl)
  refine on_ [(0, _), (2, _), (3, _)] [⟨br, 70, 3, [_, _, _]⟩, ⟨b3, 32, 12, [_, _, _, _, _, _, _, _, _, _, _, _]⟩, ⟨b2, 32, 12, [_, _, _, _, _, _, _, _, _, _, _, _]⟩] ?_
  refine sr_ ?_
  refine om_ ?_
  refine OD.callX wp_ rfl rfl rfl Tryd.call45 (name_vx hm hw l hl ht p16 ad n cap br) ⟨ot, trivial⟩ (List.Perm.refl _) (fun ch hch => (Or.inr ⟨ch, rfl, by obtain ⟨q, e, h1, h2⟩ := hch; exact ⟨q, e, hR16.trans (by rw [h1]; rfl), h2⟩⟩ : BodyX _ _ _ _ _ _)) ?_
  rintro _ _ ⟨c, hr17, rfl, rfl⟩
  refine OD.perm (S' := ⟨br, 70, 3, [.list 3 (l.flatMap cT) l.length, .v (.int .i64 (((p16 + 1) : Nat) : Int)), .v (.slice ad n cap)]⟩ :: [⟨b3, 32, 12, [_, _, _, _, _, _, _, _, _, _, _, _]⟩, ⟨b2, 32, 12, [_, _, _, _, _, _, _, _, _, _, _, _]⟩]) (List.Perm.refl _) ?_
  have hlt17 := (name_le (hr17 [])).2.2
  have hR17 : R = (markP l ⟨#[61]⟩ (p16 + 1) os).bind (fun _ p ops => (exprP l p).bind (fun e p ops => (whereP l p ops).bind (fun w p ops => .ok { st0 with kind := 5, table := t, set := c, to := e, wher := w } p ops))) := hR16.trans (by rw [hr17]; rfl)
  refine os_ (fa_ 10) ?_
  refine ot_ 1 [_, _, _, _, _, _, _, _, _, _, _, _] Tryd.sizeOf9 ?_
  refine on_ [(0, _), (2, _), (3, _)] [⟨br, 70, 3, [_, _, _]⟩, ⟨b3, 32, 12, [_, _, _, _, _, _, _, _, _, _, _, _]⟩, ⟨b2, 32, 12, [_, _, _, _, _, _, _, _, _, _, _, _]⟩] ?_
  refine sr_ ?_
  refine om_ ?_
  refine OD.callX wp_ rfl rfl rfl Tryd.call49 (mark_vx l hl (p16 + 1) ⟨#[61]⟩ ad n cap br) ⟨ot, opd_const, trivial⟩ (List.Perm.refl _) (fun ch hch => (Or.inr ⟨ch, rfl, ⟨_, _, hR17.trans (by rw [mark_no hch.1]; rfl), hch.2⟩⟩ : BodyX _ _ _ _ _ _)) ?_
  rintro _ _ ⟨hm18, rfl⟩
  refine OD.perm (S' := ⟨br, 70, 3, [.list 3 (l.flatMap cT) l.length, .v (.int .i64 ((((p16 + 1) + 1) : Nat) : Int)), .v (.slice ad n cap)]⟩ :: [⟨b3, 32, 12, [_, _, _, _, _, _, _, _, _, _, _, _]⟩, ⟨b2, 32, 12, [_, _, _, _, _, _, _, _, _, _, _, _]⟩]) (List.Perm.refl _) ?_
  have hR18 : R = (exprP l ((p16 + 1) + 1)).bind (fun e p ops => (whereP l p ops).bind (fun w p ops => .ok { st0 with kind := 5, table := t, set := c, to := e, wher := w } p ops)) := hR17.trans (by rw [mark_yes hm18]; rfl)
  refine on_ [(0, _), (2, _), (3, _)] [⟨br, 70, 3, [_, _, _]⟩, ⟨b3, 32, 12, [_, _, _, _, _, _, _, _, _, _, _, _]⟩, ⟨b2, 32, 12, [_, _, _, _, _, _, _, _, _, _, _, _]⟩] ?_
  refine sr_ ?_
  refine om_ ?_
  have hs19 := ns_expr (isQ_lt hm18)
  refine OD.callX wp_ rfl rfl rfl Tryd.call50 (expr_vx hl hm hw hk ht ((p16 + 1) + 1) (isQ_lt hm18) _ rfl hs19 ad n cap) ⟨ot, trivial⟩ (List.Perm.refl _) (fun ch hch => (Or.inr ⟨ch, rfl, by obtain ⟨q, e, h1, h2⟩ := hch; exact ⟨q, e, hR18.trans (by rw [h1]; rfl), h2⟩⟩ : BodyX _ _ _ _ _ _)) ?_
  rintro _ _ ⟨e, p19, o19, ad19, n19, cap19, hr19, ⟨rfl, hv19⟩, hp19, rfl⟩
  refine OD.perm (S' := ⟨br, 70, 3, [.list 3 (l.flatMap cT) l.length, .v (.int .i64 ((p19 : Nat) : Int)), .v (.slice ad19 n19 cap19)]⟩ :: [⟨b3, 32, 12, [_, _, _, _, _, _, _, _, _, _, _, _]⟩, ⟨b2, 32, 12, [_, _, _, _, _, _, _, _, _, _, _, _]⟩]) (List.Perm.refl _) ?_
  have hR19 : R = (whereP l p19 o19).bind (fun w p ops => .ok { st0 with kind := 5, table := t, set := c, to := e, wher := w } p ops) := hR18.trans (by rw [hr19]; rfl)
  refine os_ (fa_ 11) ?_
  refine ot_ 1 [_, _, _, _, _, _, _, _, _, _, _, _] Tryd.sizeOf30 ?_
  refine on_ [(0, _), (2, _), (3, _)] [⟨br, 70, 3, [_, _, _]⟩, ⟨b3, 32, 12, [_, _, _, _, _, _, _, _, _, _, _, _]⟩, ⟨b2, 32, 12, [_, _, _, _, _, _, _, _, _, _, _, _]⟩] ?_
  refine CD.region ?_
  refine om_ ?_
  have hs20 := (ns_where : whereP l p19 o19 ≠ .stuck)
  refine OD.callX wp_ rfl rfl rfl Tryd.call51 (where_vx hl hm hw hk ht p19 hp19 o19 _ rfl hs20 ad19 n19 cap19) ⟨ot, trivial⟩ (List.Perm.refl _) (fun ch hch => (Or.inr ⟨ch, rfl, by obtain ⟨q, e, h1, h2⟩ := hch; exact ⟨q, e, hR19.trans (by rw [h1]; rfl), h2⟩⟩ : BodyX _ _ _ _ _ _)) ?_
  rintro _ _ ⟨w, p20, o20, ad20, n20, cap20, hr20, ⟨rfl, hv20⟩, hp20, rfl⟩
  refine OD.perm (S' := ⟨br, 70, 3, [.list 3 (l.flatMap cT) l.length, .v (.int .i64 ((p20 : Nat) : Int)), .v (.slice ad20 n20 cap20)]⟩ :: [⟨b3, 32, 12, [_, _, _, _, _, _, _, _, _, _, _, _]⟩, ⟨b2, 32, 12, [_, _, _, _, _, _, _, _, _, _, _, _]⟩]) (List.Perm.refl _) ?_
  have hR20 : R = .ok { st0 with kind := 5, table := t, set := c, to := e, wher := w } p20 o20 := hR19.trans (by rw [hr20]; rfl)
  refine os_ (fa_ 6) ?_
  refine ot_ 1 [_, _, _, _, _, _, _, _, _, _, _, _] Tryd.sizeOf30 ?_
  refine on_ [(2, _), (3, _)] [⟨br, 70, 3, [_, _, _]⟩, ⟨b3, 32, 12, [_, _, _, _, _, _, _, _, _, _, _, _]⟩, ⟨b2, 32, 12, [_, _, _, _, _, _, _, _, _, _, _, _]⟩] ?_
  refine CD.seq ?_
  refine CD.cells (k := 1) (cs' := [_, _, _, _, .list 1 [] 0, _, _, _, _, _, _, _]) (S' := [⟨br, 70, 3, [.list 3 (l.flatMap cT) l.length, .v (.int .i64 ((p20 : Nat) : Int)), .v (.slice ad20 n20 cap20)]⟩, _, _]) rfl (by repeat (first | exact trivial | exact ⟨gv_rfl, trivial⟩ | exact ⟨gv_nil, trivial⟩ | refine ⟨gv_rfl, ?_⟩ | refine ⟨gv_nil, ?_⟩)) rfl ?_
  refine CD.region ?_
  refine os_ (lab_ 1 [_, _, _, _, _, _, _, _, _, _, _, _]) ?_
  refine ot_ 2 [_, _, _, _, _, _, _, _, _, _, _, _] Tryd.sizeOf32 ?_
  refine on_ [(2, _)] [⟨br, 70, 3, [_, _, _]⟩, ⟨b3, 32, 12, [_, _, _, _, _, _, _, _, _, _, _, _]⟩, ⟨b2, 32, 12, [_, _, _, _, _, _, _, _, _, _, _, _]⟩] ?_
  refine CD.ret ?_
  refine Or.inl ?_
  refine ⟨.inr rfl, _, [⟨br, 70, 3, [.list 3 (l.flatMap cT) l.length, .v (.int .i64 ((p20 : Nat) : Int)), .v (.slice ad20 n20 cap20)]⟩], sw_, ret_one Tryd.results25 (res_cells (k := 2) (ds := [_, _, _, _, _, _, _, _, _, _, _, _]) le_ lk rfl rfl Tryd.isAgg32 Tryd.sizeOf32 rfl rfl), ?_⟩
  exact ⟨{ st0 with kind := 5, table := t, set := c, to := e, wher := w }, p20, o20, _, _, _, hR20, ⟨rfl, ⟨Nat.zero_le _, Nat.zero_le _, Nat.zero_le _, hv20, hv19⟩⟩, hp20, rfl⟩
 have hc4' := hc4
 (try simp only [V.cnd, ne_eq] at hc4')
 have e4f : isQ l p 1 ⟨#[85, 80, 68, 65, 84, 69]⟩ = false := hc4
 rw [e4f]
 simp only [Bool.false_eq_true, if_false]
 refine sr_ ?_
 refine om_ ?_
 refine OD.call wp_ rfl rfl rfl Tryd.call43 (eat_vc l hl p 1 ⟨#[68, 69, 76, 69, 84, 69]⟩ ad n cap br) ⟨ot, opd_const, opd_const, trivial⟩ (List.Perm.refl _) ?_
 rintro _ _ ⟨rfl, rfl⟩
 refine OD.perm (S' := ⟨br, 70, 3, [.list 3 (l.flatMap cT) l.length, .v (.int .i64 (((if isQ l p 1 ⟨#[68, 69, 76, 69, 84, 69]⟩ = true then p + 1 else p) : Nat) : Int)), .v (.slice ad n cap)]⟩ :: [⟨b3, 32, 12, [_, _, _, _, _, _, _, _, _, _, _, _]⟩, ⟨b2, 32, 12, [_, _, _, _, _, _, _, _, _, _, _, _]⟩]) (List.Perm.refl _) ?_
 refine om_ ?_
 refine on_ [(0, _), (2, _), (3, _), (73, _)] [⟨br, 70, 3, [_, _, _]⟩, ⟨b3, 32, 12, [_, _, _, _, _, _, _, _, _, _, _, _]⟩, ⟨b2, 32, 12, [_, _, _, _, _, _, _, _, _, _, _, _]⟩] ?_
 refine CD.cond ot (fun hc5 => ?_) (fun hc5 => ?_)
 ·have hc5' := hc5
  (try simp only [V.cnd, ne_eq] at hc5')
  have e5t : isQ l p 1 ⟨#[68, 69, 76, 69, 84, 69]⟩ = true := hc5
  rw [e5t]
  simp only [if_true]
  have hR21 : R = (mustP l [⟨#[70, 82, 79, 77]⟩] (p + 1) os).bind (fun _ p ops => (nameP l p ops).bind (fun t p ops => (whereP l p ops).bind (fun w p ops => .ok { st0 with kind := 6, table := t, wher := w } p ops))) := hR.trans (by unfold stP; rw [if_neg (F_ e0f), if_neg (F_ e1f), if_neg (F_ e2f), if_neg (F_ e3f), if_neg (F_ e4f), if_pos e5t])
  refine sr_ ?_
  refine om_ ?_
  refine ob_ (numD 0 [_]) [.string ⟨#[]⟩] [_] Tryd.zeroValue9 Tryd.runUnderlying29 Tryd.sizeOf9 (fun b77 => ?_)
  refine og_ 0 77 1 1 ?_
  refine OD.callX wp_ rfl rfl rfl Tryd.call44 (must_vx l hl [⟨#[70, 82, 79, 77]⟩] (by decide) (p + 1) ad n cap br) ⟨ot, by exact rfl, trivial⟩ (List.Perm.refl _) (fun ch hch => (Or.inr ⟨ch, rfl, by obtain ⟨q, e, h1, h2⟩ := hch; exact ⟨q, e, hR21.trans (by rw [h1]; rfl), h2⟩⟩ : BodyX _ _ _ _ _ _)) ?_
  rintro _ _ ⟨p22, hr22, rfl⟩
  refine OD.perm (S' := ⟨br, 70, 3, [.list 3 (l.flatMap cT) l.length, .v (.int .i64 ((p22 : Nat) : Int)), .v (.slice ad n cap)]⟩ :: [⟨b3, 32, 12, [_, _, _, _, _, _, _, _, _, _, _, _]⟩, ⟨b2, 32, 12, [_, _, _, _, _, _, _, _, _, _, _, _]⟩]) (List.Perm.refl _) ?_
  have hp22 := (must_le (hr22 []) (isQ_lt e5t)).2.1
  have hR22 : R = (nameP l p22 os).bind (fun t p ops => (whereP l p ops).bind (fun w p ops => .ok { st0 with kind := 6, table := t, wher := w } p ops)) := hR21.trans (by rw [hr22]; rfl)
  refine on_ [(0, _), (2, _), (3, _)] [⟨br, 70, 3, [_, _, _]⟩, ⟨b3, 32, 12, [_, _, _, _, _, _, _, _, _, _, _, _]⟩, ⟨b2, 32, 12, [_, _, _, _, _, _, _, _, _, _, _, _]⟩] ?_
  refine sr_ ?_
  refine om_ ?_
  refine OD.callX wp_ rfl rfl rfl Tryd.call45 (name_vx hm hw l hl ht p22 ad n cap br) ⟨ot, trivial⟩ (List.Perm.refl _) (fun ch hch => (Or.inr ⟨ch, rfl, by obtain ⟨q, e, h1, h2⟩ := hch; exact ⟨q, e, hR22.trans (by rw [h1]; rfl), h2⟩⟩ : BodyX _ _ _ _ _ _)) ?_
  rintro _ _ ⟨t, hr23, rfl, rfl⟩
  refine OD.perm (S' := ⟨br, 70, 3, [.list 3 (l.flatMap cT) l.length, .v (.int .i64 (((p22 + 1) : Nat) : Int)), .v (.slice ad n cap)]⟩ :: [⟨b3, 32, 12, [_, _, _, _, _, _, _, _, _, _, _, _]⟩, ⟨b2, 32, 12, [_, _, _, _, _, _, _, _, _, _, _, _]⟩]) (List.Perm.refl _) ?_
  have hlt23 := (name_le (hr23 [])).2.2
  have hR23 : R = (whereP l (p22 + 1) os).bind (fun w p ops => .ok { st0 with kind := 6, table := t, wher := w } p ops) := hR22.trans (by rw [hr23]; rfl)
  refine os_ (fa_ 0) ?_
  refine ot_ 1 [_, _, _, _, _, _, _, _, _, _, _, _] Tryd.sizeOf3 ?_
  refine os_ (fa_ 1) ?_
  refine ot_ 1 [_, _, _, _, _, _, _, _, _, _, _, _] Tryd.sizeOf9 ?_
  refine on_ [(0, _), (2, _), (3, _)] [⟨br, 70, 3, [_, _, _]⟩, ⟨b3, 32, 12, [_, _, _, _, _, _, _, _, _, _, _, _]⟩, ⟨b2, 32, 12, [_, _, _, _, _, _, _, _, _, _, _, _]⟩] ?_
  refine CD.region ?_
  refine om_ ?_
  have hs24 := (ns_where : whereP l (p22 + 1) os ≠ .stuck)
  refine OD.callX wp_ rfl rfl rfl Tryd.call51 (where_vx hl hm hw hk ht (p22 + 1) hlt23 os _ rfl hs24 ad n cap) ⟨ot, trivial⟩ (List.Perm.refl _) (fun ch hch => (Or.inr ⟨ch, rfl, by obtain ⟨q, e, h1, h2⟩ := hch; exact ⟨q, e, hR23.trans (by rw [h1]; rfl), h2⟩⟩ : BodyX _ _ _ _ _ _)) ?_
  rintro _ _ ⟨w, p24, o24, ad24, n24, cap24, hr24, ⟨rfl, hv24⟩, hp24, rfl⟩
  refine OD.perm (S' := ⟨br, 70, 3, [.list 3 (l.flatMap cT) l.length, .v (.int .i64 ((p24 : Nat) : Int)), .v (.slice ad24 n24 cap24)]⟩ :: [⟨b3, 32, 12, [_, _, _, _, _, _, _, _, _, _, _, _]⟩, ⟨b2, 32, 12, [_, _, _, _, _, _, _, _, _, _, _, _]⟩]) (List.Perm.refl _) ?_
  have hR24 : R = .ok { st0 with kind := 6, table := t, wher := w } p24 o24 := hR23.trans (by rw [hr24]; rfl)
  refine os_ (fa_ 6) ?_
  refine ot_ 1 [_, _, _, _, _, _, _, _, _, _, _, _] Tryd.sizeOf30 ?_
  refine on_ [(2, _), (3, _)] [⟨br, 70, 3, [_, _, _]⟩, ⟨b3, 32, 12, [_, _, _, _, _, _, _, _, _, _, _, _]⟩, ⟨b2, 32, 12, [_, _, _, _, _, _, _, _, _, _, _, _]⟩] ?_
  refine CD.seq ?_
  refine CD.cells (k := 1) (cs' := [_, _, _, _, .list 1 [] 0, _, _, _, _, _, _, _]) (S' := [⟨br, 70, 3, [.list 3 (l.flatMap cT) l.length, .v (.int .i64 ((p24 : Nat) : Int)), .v (.slice ad24 n24 cap24)]⟩, _, _]) rfl (by repeat (first | exact trivial | exact ⟨gv_rfl, trivial⟩ | exact ⟨gv_nil, trivial⟩ | refine ⟨gv_rfl, ?_⟩ | refine ⟨gv_nil, ?_⟩)) rfl ?_
  refine CD.region ?_
  refine os_ (lab_ 1 [_, _, _, _, _, _, _, _, _, _, _, _]) ?_
  refine ot_ 2 [_, _, _, _, _, _, _, _, _, _, _, _] Tryd.sizeOf32 ?_
  refine on_ [(2, _)] [⟨br, 70, 3, [_, _, _]⟩, ⟨b3, 32, 12, [_, _, _, _, _, _, _, _, _, _, _, _]⟩, ⟨b2, 32, 12, [_, _, _, _, _, _, _, _, _, _, _, _]⟩] ?_
  refine CD.ret ?_
  refine Or.inl ?_
  refine ⟨.inr rfl, _, [⟨br, 70, 3, [.list 3 (l.flatMap cT) l.length, .v (.int .i64 ((p24 : Nat) : Int)), .v (.slice ad24 n24 cap24)]⟩], sw_, ret_one Tryd.results25 (res_cells (k := 2) (ds := [_, _, _, _, _, _, _, _, _, _, _, _]) le_ lk rfl rfl Tryd.isAgg32 Tryd.sizeOf32 rfl rfl), ?_⟩
  exact ⟨{ st0 with kind := 6, table := t, wher := w }, p24, o24, _, _, _, hR24, ⟨rfl, ⟨Nat.zero_le _, Nat.zero_le _, Nat.zero_le _, hv24, Nat.zero_le _⟩⟩, hp24, rfl⟩
 have hc5' := hc5
 (try simp only [V.cnd, ne_eq] at hc5')
 have e5f : isQ l p 1 ⟨#[68, 69, 76, 69, 84, 69]⟩ = false := hc5
 rw [e5f]
 simp only [Bool.false_eq_true, if_false]
 refine sr_ ?_
 refine om_ ?_
 refine OD.call wp_ rfl rfl rfl Tryd.call43 (eat_vc l hl p 1 ⟨#[66, 69, 71, 73, 78]⟩ ad n cap br) ⟨ot, opd_const, opd_const, trivial⟩ (List.Perm.refl _) ?_
 rintro _ _ ⟨rfl, rfl⟩
 refine OD.perm (S' := ⟨br, 70, 3, [.list 3 (l.flatMap cT) l.length, .v (.int .i64 (((if isQ l p 1 ⟨#[66, 69, 71, 73, 78]⟩ = true then p + 1 else p) : Nat) : Int)), .v (.slice ad n cap)]⟩ :: [⟨b3, 32, 12, [_, _, _, _, _, _, _, _, _, _, _, _]⟩, ⟨b2, 32, 12, [_, _, _, _, _, _, _, _, _, _, _, _]⟩]) (List.Perm.refl _) ?_
 refine om_ ?_
 refine on_ [(0, _), (2, _), (3, _), (86, _)] [⟨br, 70, 3, [_, _, _]⟩, ⟨b3, 32, 12, [_, _, _, _, _, _, _, _, _, _, _, _]⟩, ⟨b2, 32, 12, [_, _, _, _, _, _, _, _, _, _, _, _]⟩] ?_
 refine CD.cond ot (fun hc6 => ?_) (fun hc6 => ?_)
 ·have hc6' := hc6
  (try simp only [V.cnd, ne_eq] at hc6')
  have e6t : isQ l p 1 ⟨#[66, 69, 71, 73, 78]⟩ = true := hc6
  rw [e6t]
  simp only [if_true]
  have hR25 : R = .ok { st0 with kind := 7 } (p + 1) os := hR.trans (by unfold stP; rw [if_neg (F_ e0f), if_neg (F_ e1f), if_neg (F_ e2f), if_neg (F_ e3f), if_neg (F_ e4f), if_neg (F_ e5f), if_pos e6t])
  refine CD.region ?_
  refine os_ (fa_ 0) ?_
  refine ot_ 1 [_, _, _, _, _, _, _, _, _, _, _, _] Tryd.sizeOf3 ?_
  refine on_ [(2, _), (3, _)] [⟨br, 70, 3, [_, _, _]⟩, ⟨b3, 32, 12, [_, _, _, _, _, _, _, _, _, _, _, _]⟩, ⟨b2, 32, 12, [_, _, _, _, _, _, _, _, _, _, _, _]⟩] ?_
  refine CD.seq ?_
  refine CD.cells (k := 1) (cs' := [_, _, _, _, .list 1 [] 0, _, _, _, _, _, _, _]) (S' := [⟨br, 70, 3, [.list 3 (l.flatMap cT) l.length, .v (.int .i64 (((p + 1) : Nat) : Int)), .v (.slice ad n cap)]⟩, _, _]) rfl (by repeat (first | exact trivial | exact ⟨gv_rfl, trivial⟩ | exact ⟨gv_nil, trivial⟩ | refine ⟨gv_rfl, ?_⟩ | refine ⟨gv_nil, ?_⟩)) rfl ?_
  refine CD.region ?_
  refine os_ (lab_ 1 [_, _, _, _, _, _, _, _, _, _, _, _]) ?_
  refine ot_ 2 [_, _, _, _, _, _, _, _, _, _, _, _] Tryd.sizeOf32 ?_
  refine on_ [(2, _)] [⟨br, 70, 3, [_, _, _]⟩, ⟨b3, 32, 12, [_, _, _, _, _, _, _, _, _, _, _, _]⟩, ⟨b2, 32, 12, [_, _, _, _, _, _, _, _, _, _, _, _]⟩] ?_
  refine CD.ret ?_
  refine Or.inl ?_
  refine ⟨.inr rfl, _, [⟨br, 70, 3, [.list 3 (l.flatMap cT) l.length, .v (.int .i64 (((p + 1) : Nat) : Int)), .v (.slice ad n cap)]⟩], sw_, ret_one Tryd.results25 (res_cells (k := 2) (ds := [_, _, _, _, _, _, _, _, _, _, _, _]) le_ lk rfl rfl Tryd.isAgg32 Tryd.sizeOf32 rfl rfl), ?_⟩
  exact ⟨{ st0 with kind := 7 }, (p + 1), os, _, _, _, hR25, ⟨rfl, ⟨Nat.zero_le _, Nat.zero_le _, Nat.zero_le _, Nat.zero_le _, Nat.zero_le _⟩⟩, (isQ_lt e6t), rfl⟩
 have hc6' := hc6
 (try simp only [V.cnd, ne_eq] at hc6')
 have e6f : isQ l p 1 ⟨#[66, 69, 71, 73, 78]⟩ = false := hc6
 rw [e6f]
 simp only [Bool.false_eq_true, if_false]
 refine sr_ ?_
 refine om_ ?_
 refine OD.call wp_ rfl rfl rfl Tryd.call43 (eat_vc l hl p 1 ⟨#[67, 79, 77, 77, 73, 84]⟩ ad n cap br) ⟨ot, opd_const, opd_const, trivial⟩ (List.Perm.refl _) ?_
 rintro _ _ ⟨rfl, rfl⟩
 refine OD.perm (S' := ⟨br, 70, 3, [.list 3 (l.flatMap cT) l.length, .v (.int .i64 (((if isQ l p 1 ⟨#[67, 79, 77, 77, 73, 84]⟩ = true then p + 1 else p) : Nat) : Int)), .v (.slice ad n cap)]⟩ :: [⟨b3, 32, 12, [_, _, _, _, _, _, _, _, _, _, _, _]⟩, ⟨b2, 32, 12, [_, _, _, _, _, _, _, _, _, _, _, _]⟩]) (List.Perm.refl _) ?_
 refine om_ ?_
 refine on_ [(0, _), (2, _), (3, _), (90, _)] [⟨br, 70, 3, [_, _, _]⟩, ⟨b3, 32, 12, [_, _, _, _, _, _, _, _, _, _, _, _]⟩, ⟨b2, 32, 12, [_, _, _, _, _, _, _, _, _, _, _, _]⟩] ?_
 refine CD.cond ot (fun hc7 => ?_) (fun hc7 => ?_)
 ·have hc7' := hc7
  (try simp only [V.cnd, ne_eq] at hc7')
  have e7t : isQ l p 1 ⟨#[67, 79, 77, 77, 73, 84]⟩ = true := hc7
  rw [e7t]
  simp only [if_true]
  have hR26 : R = .ok { st0 with kind := 8 } (p + 1) os := hR.trans (by unfold stP; rw [if_neg (F_ e0f), if_neg (F_ e1f), if_neg (F_ e2f), if_neg (F_ e3f), if_neg (F_ e4f), if_neg (F_ e5f), if_neg (F_ e6f), if_pos e7t])
  refine CD.region ?_
  refine os_ (fa_ 0) ?_
  refine ot_ 1 [_, _, _, _, _, _, _, _, _, _, _, _] Tryd.sizeOf3 ?_
  refine on_ [(2, _), (3, _)] [⟨br, 70, 3, [_, _, _]⟩, ⟨b3, 32, 12, [_, _, _, _, _, _, _, _, _, _, _, _]⟩, ⟨b2, 32, 12, [_, _, _, _, _, _, _, _, _, _, _, _]⟩] ?_
  refine CD.seq ?_
  refine CD.cells (k := 1) (cs' := [_, _, _, _, .list 1 [] 0, _, _, _, _, _, _, _]) (S' := [⟨br, 70, 3, [.list 3 (l.flatMap cT) l.length, .v (.int .i64 (((p + 1) : Nat) : Int)), .v (.slice ad n cap)]⟩, _, _]) rfl (by repeat (first | exact trivial | exact ⟨gv_rfl, trivial⟩ | exact ⟨gv_nil, trivial⟩ | refine ⟨gv_rfl, ?_⟩ | refine ⟨gv_nil, ?_⟩)) rfl ?_
  refine CD.region ?_
  refine os_ (lab_ 1 [_, _, _, _, _, _, _, _, _, _, _, _]) ?_
  refine ot_ 2 [_, _, _, _, _, _, _, _, _, _, _, _] Tryd.sizeOf32 ?_
  refine on_ [(2, _)] [⟨br, 70, 3, [_, _, _]⟩, ⟨b3, 32, 12, [_, _, _, _, _, _, _, _, _, _, _, _]⟩, ⟨b2, 32, 12, [_, _, _, _, _, _, _, _, _, _, _, _]⟩] ?_
  refine CD.ret ?_
  refine Or.inl ?_
  refine ⟨.inr rfl, _, [⟨br, 70, 3, [.list 3 (l.flatMap cT) l.length, .v (.int .i64 (((p + 1) : Nat) : Int)), .v (.slice ad n cap)]⟩], sw_, ret_one Tryd.results25 (res_cells (k := 2) (ds := [_, _, _, _, _, _, _, _, _, _, _, _]) le_ lk rfl rfl Tryd.isAgg32 Tryd.sizeOf32 rfl rfl), ?_⟩
  exact ⟨{ st0 with kind := 8 }, (p + 1), os, _, _, _, hR26, ⟨rfl, ⟨Nat.zero_le _, Nat.zero_le _, Nat.zero_le _, Nat.zero_le _, Nat.zero_le _⟩⟩, (isQ_lt e7t), rfl⟩
 have hc7' := hc7
 (try simp only [V.cnd, ne_eq] at hc7')
 have e7f : isQ l p 1 ⟨#[67, 79, 77, 77, 73, 84]⟩ = false := hc7
 rw [e7f]
 simp only [Bool.false_eq_true, if_false]
 refine sr_ ?_
 refine om_ ?_
 refine OD.call wp_ rfl rfl rfl Tryd.call43 (eat_vc l hl p 1 ⟨#[82, 79, 76, 76, 66, 65, 67, 75]⟩ ad n cap br) ⟨ot, opd_const, opd_const, trivial⟩ (List.Perm.refl _) ?_
 rintro _ _ ⟨rfl, rfl⟩
 refine OD.perm (S' := ⟨br, 70, 3, [.list 3 (l.flatMap cT) l.length, .v (.int .i64 (((if isQ l p 1 ⟨#[82, 79, 76, 76, 66, 65, 67, 75]⟩ = true then p + 1 else p) : Nat) : Int)), .v (.slice ad n cap)]⟩ :: [⟨b3, 32, 12, [_, _, _, _, _, _, _, _, _, _, _, _]⟩, ⟨b2, 32, 12, [_, _, _, _, _, _, _, _, _, _, _, _]⟩]) (List.Perm.refl _) ?_
 refine om_ ?_
 refine on_ [(0, _), (2, _), (3, _), (94, _)] [⟨br, 70, 3, [_, _, _]⟩, ⟨b3, 32, 12, [_, _, _, _, _, _, _, _, _, _, _, _]⟩, ⟨b2, 32, 12, [_, _, _, _, _, _, _, _, _, _, _, _]⟩] ?_
 refine CD.cond ot (fun hc8 => ?_) (fun hc8 => ?_)
 ·have hc8' := hc8
  (try simp only [V.cnd, ne_eq] at hc8')
  have e8t : isQ l p 1 ⟨#[82, 79, 76, 76, 66, 65, 67, 75]⟩ = true := hc8
  rw [e8t]
  simp only [if_true]
  have hR27 : R = .ok { st0 with kind := 9 } (p + 1) os := hR.trans (by unfold stP; rw [if_neg (F_ e0f), if_neg (F_ e1f), if_neg (F_ e2f), if_neg (F_ e3f), if_neg (F_ e4f), if_neg (F_ e5f), if_neg (F_ e6f), if_neg (F_ e7f), if_pos e8t])
  refine CD.region ?_
  refine os_ (fa_ 0) ?_
  refine ot_ 1 [_, _, _, _, _, _, _, _, _, _, _, _] Tryd.sizeOf3 ?_
  refine on_ [(2, _), (3, _)] [⟨br, 70, 3, [_, _, _]⟩, ⟨b3, 32, 12, [_, _, _, _, _, _, _, _, _, _, _, _]⟩, ⟨b2, 32, 12, [_, _, _, _, _, _, _, _, _, _, _, _]⟩] ?_
  refine CD.seq ?_
  refine CD.cells (k := 1) (cs' := [_, _, _, _, .list 1 [] 0, _, _, _, _, _, _, _]) (S' := [⟨br, 70, 3, [.list 3 (l.flatMap cT) l.length, .v (.int .i64 (((p + 1) : Nat) : Int)), .v (.slice ad n cap)]⟩, _, _]) rfl (by repeat (first | exact trivial | exact ⟨gv_rfl, trivial⟩ | exact ⟨gv_nil, trivial⟩ | refine ⟨gv_rfl, ?_⟩ | refine ⟨gv_nil, ?_⟩)) rfl ?_
  refine CD.region ?_
  refine os_ (lab_ 1 [_, _, _, _, _, _, _, _, _, _, _, _]) ?_
  refine ot_ 2 [_, _, _, _, _, _, _, _, _, _, _, _] Tryd.sizeOf32 ?_
  refine on_ [(2, _)] [⟨br, 70, 3, [_, _, _]⟩, ⟨b3, 32, 12, [_, _, _, _, _, _, _, _, _, _, _, _]⟩, ⟨b2, 32, 12, [_, _, _, _, _, _, _, _, _, _, _, _]⟩] ?_
  refine CD.ret ?_
  refine Or.inl ?_
  refine ⟨.inr rfl, _, [⟨br, 70, 3, [.list 3 (l.flatMap cT) l.length, .v (.int .i64 (((p + 1) : Nat) : Int)), .v (.slice ad n cap)]⟩], sw_, ret_one Tryd.results25 (res_cells (k := 2) (ds := [_, _, _, _, _, _, _, _, _, _, _, _]) le_ lk rfl rfl Tryd.isAgg32 Tryd.sizeOf32 rfl rfl), ?_⟩
  exact ⟨{ st0 with kind := 9 }, (p + 1), os, _, _, _, hR27, ⟨rfl, ⟨Nat.zero_le _, Nat.zero_le _, Nat.zero_le _, Nat.zero_le _, Nat.zero_le _⟩⟩, (isQ_lt e8t), rfl⟩
 have hc8' := hc8
 (try simp only [V.cnd, ne_eq] at hc8')
 have e8f : isQ l p 1 ⟨#[82, 79, 76, 76, 66, 65, 67, 75]⟩ = false := hc8
 rw [e8f]
 simp only [Bool.false_eq_true, if_false]
 have hR28 : R = gv l p 6 := hR.trans (by unfold stP; rw [if_neg (F_ e0f), if_neg (F_ e1f), if_neg (F_ e2f), if_neg (F_ e3f), if_neg (F_ e4f), if_neg (F_ e5f), if_neg (F_ e6f), if_neg (F_ e7f), if_neg (F_ e8f)])
 refine CD.region ?_
 refine om_ ?_
 exact OD.callX wp_ rfl rfl rfl Tryd.call26 (give_vx l hl p 6 ad n cap br) ⟨ot, opd_const, trivial⟩ (List.Perm.refl _) (fun ch hch => (Or.inr ⟨ch, rfl, ⟨_, _, hR28, hch⟩⟩ : BodyX _ _ _ _ _ _)) (fun r S' h => h.elim)

end Go.Proofs.YtjgekbmahhhokaaDoor.Pa

namespace Go.Proofs.YtjgekbmahhhokaaDoor.Pa
open Go.RowKit V Pk Go.Proofs.YtjgekbmahhhokaaDoor.Vl Go.Proofs.YtjgekbmahhhokaaDoor.Nm
set_option linter.unusedVariables false
set_option linter.unusedSimpArgs false

variable {G : List (Nat × List Value)}
theorem bad_at {l : List Tk} {i : Nat} (h : i < l.length) (hq : badTk l 0 = badTk (l.drop i) i) (hc : checkT l[i] ≠ 0) : badTk l 0 = some (i, checkT l[i]) := by
 rw [hq, List.drop_eq_getElem_cons h, badTk, if_neg hc]
theorem bad_on {l : List Tk} {i : Nat} (h : i < l.length) (hq : badTk l 0 = badTk (l.drop i) i) (hc : checkT l[i] = 0) : badTk l 0 = badTk (l.drop (i + 1)) (i + 1) := by
 rw [hq, List.drop_eq_getElem_cons h, badTk, if_pos hc]
theorem bad_none : ∀ {l : List Tk} {i : Nat}, badTk l i = none → ∀ t ∈ l, checkT t = 0
 | [], _, _, t, h => by cases h
 | a :: r, i, h, t, ht => by
  unfold badTk at h
  split at h
  ·rename_i hc
   rcases List.mem_cons.1 ht with rfl | ht
   ·exact hc
   exact bad_none h t ht
  cases h
theorem num_pos {t : Tk} (h : checkT t = 0) (hk : t.k = 2) : 0 ≤ t.n := by
 unfold checkT at h
 rw [if_neg (by omega), if_pos hk] at h
 split at h
 ·cases h
 omega
theorem parse_big {l : List Tk} (h : l.length > 100) : parseF l = (stZ, 0, 10) := by unfold parseF; rw [if_pos h]
theorem parse_bad {l : List Tk} {i : Nat} {e : Int} (h : l.length ≤ 100) (hb : badTk l 0 = some (i, e)) : parseF l = (stZ, i, e) := by unfold parseF; rw [if_neg (by omega), hb]
theorem parse_no {l : List Tk} {p : Nat} {e : Int} (h : l.length ≤ 100) (hb : badTk l 0 = none) (hs : stP l 0 [] = .no p e) : parseF l = (stZ, p, e) := by unfold parseF; rw [if_neg (by omega), hb, hs]; rfl
theorem parse_ok {l : List Tk} {s : StL} {p : Nat} {os : List OpL} (h : l.length ≤ 100) (hb : badTk l 0 = none) (hs : stP l 0 [] = .ok s p os) (hp : ¬ p < l.length) : parseF l = (s, 0, 0) := by
 unfold parseF; rw [if_neg (by omega), hb, hs]; simp only [Rs.bind, if_neg hp]
theorem parse_more {l : List Tk} {s : StL} {p : Nat} {os : List OpL} (h : l.length ≤ 100) (hb : badTk l 0 = none) (hs : stP l 0 [] = .ok s p os) (hp : p < l.length) : parseF l = (stZ, p, if l.length ≤ p then 7 else 6) := by
 unfold parseF; rw [if_neg (by omega), hb, hs]; simp only [Rs.bind, if_pos hp, gv]
def dvP (r : StL × Nat × Int) : D := .tup [.agg (cSt r.1), .v (.int .i64 ((r.2.1 : Nat) : Int)), .v (.int .i64 r.2.2)]
theorem recoverD_ret (c0 : Frame) (cs : List Frame) (h : c0.mode = .returning) : (recoverD (c0 :: cs) = some (.nilIface, { c0 with mode := .returning } :: cs)) ∨ (recoverD (c0 :: cs) = none ∧ Value.nilIface = .nilIface ∧ FrameMode.returning = .returning) := .inr ⟨by simp [recoverD, h], rfl, rfl⟩
theorem recoverD_pan (v : Value) (c0 : Frame) (cs : List Frame) (h : c0.mode = .panicking [{ v := v, recovered := false }]) : (recoverD (c0 :: cs) = some (v, { c0 with mode := .panicking [{ v := v, recovered := true }] } :: cs)) ∨ (recoverD (c0 :: cs) = none ∧ v = .nilIface ∧ FrameMode.panicking [{ v := v, recovered := true }] = .panicking [{ v := v, recovered := false }]) := .inl (by simp [recoverD, h])

set_option maxHeartbeats 4000000 in
set_option maxRecDepth 100000 in
theorem cl_ret (b2 b3 b4 : Nat) (S : List Blk) : VDf Tryd.prog G 24 [.v (.pointer (some ⟨b2, 0, none⟩)), .v (.pointer (some ⟨b3, 0, none⟩)), .v (.pointer (some ⟨b4, 0, none⟩))] S .returning .returning (fun S' => S' = S) := by
 refine VDf.recover (v := .nilIface) Tryd.func24 rfl Tryd.ntmps24 Tryd.results24 le_ rfl rfl rfl rfl rfl rfl (by decide) (fun c0 cs h => recoverD_ret c0 cs h) fun X0 w0 => ?_
 refine sr_ ?_
 refine om_ ?_
 refine os_ (still_errNo rfl ot Tryd.underlying20) ?_
 refine OD.wk (Wk.as_ (n := 15) (l' := [(0, _), (1, _), (2, _), (3, _), (7, _)]) (S' := S) rfl rfl sl_) ?_
 refine OD.nil ?_
 refine CD.cond ot (fun hc0 => ?_) (fun hc0 => ?_)
 ·exact absurd hc0 (by decide)
 refine CD.skip ?_
 exact ⟨rfl, rfl⟩

theorem places32_Pbc : ∀ w, ((#[{ name := "Kind", type := 3, offset := 0, embedded := false, tag := "", pkgPath := "", byteOffset := 0 }, { name := "Table", type := 9, offset := 1, embedded := false, tag := "", pkgPath := "", byteOffset := 8 }, { name := "Cols", type := 27, offset := 2, embedded := false, tag := "", pkgPath := "", byteOffset := 24 }, { name := "Row", type := 28, offset := 3, embedded := false, tag := "", pkgPath := "", byteOffset := 48 }, { name := "Names", type := 29, offset := 4, embedded := false, tag := "", pkgPath := "", byteOffset := 72 }, { name := "Count", type := 4, offset := 5, embedded := false, tag := "", pkgPath := "", byteOffset := 96 }, { name := "Where", type := 30, offset := 6, embedded := false, tag := "", pkgPath := "", byteOffset := 104 }, { name := "Order", type := 9, offset := 7, embedded := false, tag := "", pkgPath := "", byteOffset := 128 }, { name := "Down", type := 4, offset := 8, embedded := false, tag := "", pkgPath := "", byteOffset := 144 }, { name := "Limit", type := 3, offset := 9, embedded := false, tag := "", pkgPath := "", byteOffset := 152 }, { name := "Set", type := 9, offset := 10, embedded := false, tag := "", pkgPath := "", byteOffset := 160 }, { name := "To", type := 30, offset := 11, embedded := false, tag := "", pkgPath := "", byteOffset := 176 }] : Array Field).mapM fun f => do pure (f.offset, ← sizeOf f.type) : Sem (Array (Nat × Nat))).run Tryd.prog w = .ok #[(0, 1), (1, 1), (2, 1), (3, 1), (4, 1), (5, 1), (6, 1), (7, 1), (8, 1), (9, 1), (10, 1), (11, 1)] w := fun w => by simp [Tryd.sizeOf27, Tryd.sizeOf28, Tryd.sizeOf29, Tryd.sizeOf3, Tryd.sizeOf30, Tryd.sizeOf4, Tryd.sizeOf9]

set_option maxHeartbeats 4000000 in
set_option maxRecDepth 100000 in
theorem cl_pan0 (k2 k3 k4 p : Nat) (e : Int) (c4 c3 : D) (cs : List D) (hcs : cs.length = 12) : VDf Tryd.prog G 24 [.v (.pointer (some ⟨k2, 0, none⟩)), .v (.pointer (some ⟨k3, 0, none⟩)), .v (.pointer (some ⟨k4, 0, none⟩))] [⟨k4, 33, 1, [c4]⟩, ⟨k3, 3, 1, [c3]⟩, ⟨k2, 32, 12, cs⟩] (.panicking (wrC p e)) (.panicking [{ v := .iface 67 (.agg #[.int .i64 (p : Nat), .int .i64 e]), recovered := true }]) (fun S' => ∃ B, S' = [B, ⟨k4, 33, 1, [.v (.int .i64 e)]⟩, ⟨k3, 3, 1, [.v (.int .i64 ((p : Nat) : Int))]⟩, ⟨k2, 32, 12, [.v (.int .i64 0), .v (.string ⟨#[]⟩), .v (.slice none 0 0), .v (.slice none 0 0), .v (.slice none 0 0), .v (.bool false), .v (.slice none 0 0), .v (.string ⟨#[]⟩), .v (.bool false), .v (.int .i64 0), .v (.string ⟨#[]⟩), .v (.slice none 0 0)]⟩]) := by
 rcases cs with _ | ⟨x0, _ | ⟨x1, _ | ⟨x2, _ | ⟨x3, _ | ⟨x4, _ | ⟨x5, _ | ⟨x6, _ | ⟨x7, _ | ⟨x8, _ | ⟨x9, _ | ⟨x10, _ | ⟨x11, _ | ⟨x12, cs⟩⟩⟩⟩⟩⟩⟩⟩⟩⟩⟩⟩⟩ <;> first | (simp at hcs; done) | skip
 refine VDf.recover (v := .iface 67 (.agg #[.int .i64 (p : Nat), .int .i64 e])) Tryd.func24 rfl Tryd.ntmps24 Tryd.results24 le_ rfl rfl rfl rfl rfl rfl (by decide) (fun c0 cs h => recoverD_pan _ c0 cs h) fun X0 w0 => ?_
 refine sr_ ?_
 refine om_ ?_
 refine os_ (still_errYes rfl ot Tryd.underlying20) ?_
 refine on_ [(0, _), (1, _), (2, _), (3, _), (7, _)] [⟨k4, 33, 1, [_]⟩, ⟨k3, 3, 1, [_]⟩, ⟨k2, 32, 12, [_, _, _, _, _, _, _, _, _, _, _, _]⟩] ?_
 refine CD.cond ot (fun hc0 => ?_) (fun hc0 => ?_)
 ·have hc0' := hc0
  (try simp only [V.cnd, ne_eq] at hc0')
  refine sr_ ?_
  refine om_ ?_
  refine os_ (still_tassert (vs := [.int .i64 ((p : Nat) : Int), .int .i64 e]) rfl ot Tryd.underlying67) ?_
  refine OD.alloc (ds := [_, _]) wp_ rfl rfl Tryd.zeroValue67 rfl (fun b4 => ?_)
  refine ot_ 0 [_, _] Tryd.sizeOf67 ?_
  refine on_ [(0, _), (1, _), (2, _), (4, _)] [⟨b4, 67, 2, [_, _]⟩, ⟨k4, 33, 1, [_]⟩, ⟨k3, 3, 1, [_]⟩, ⟨k2, 32, 12, [_, _, _, _, _, _, _, _, _, _, _, _]⟩] ?_
  refine CD.draw (bks (List.take 1 _)) kr_ (fun _ h => (List.Sublist.map _ (List.take_sublist _ _)).subset h) ?_
  refine a0_ 0 rfl (still_bld (pl := []) (ds := [_, _, _, _, _, _, _, _, _, _, _, _]) rfl Tryd.zeroValue32 Tryd.runUnderlying32 places32_Pbc trivial rfl rfl) ?_
  refine a0_ 1 rfl (fa_ 0) ?_
  refine a0_ 2 rfl (lb_ 0) ?_
  refine a0_ 3 rfl (fa_ 1) ?_
  refine a0_ 4 rfl (lb_ 0) ?_
  refine AD0.later rfl ?_
  refine AD.one (i := 5) kr_ ?_
  refine AStep.store (k := 3) (cs' := [_, _, _, _, _, _, _, _, _, _, _, _]) rfl wp_ rfl rfl ot rfl rfl ot rfl rfl Tryd.sizeOf32 rfl rfl rfl (by intro b hb; simp [bks, St.put] at hb ⊢; try first | exact hb | simp [hb] | (rcases hb with hb | hb <;> simp [hb]) | (rcases hb with hb | hb | hb <;> simp [hb])) ?_
  refine AD.one (i := 6) kr_ ?_
  refine AStep.store (k := 2) (cs' := [_]) rfl wp_ rfl rfl ot rfl rfl ot rfl rfl Tryd.sizeOf3 rfl rfl rfl (by intro b hb; simp [bks, St.put] at hb ⊢; try first | exact hb | simp [hb] | (rcases hb with hb | hb <;> simp [hb]) | (rcases hb with hb | hb | hb <;> simp [hb])) ?_
  refine AD.one (i := 7) kr_ ?_
  refine AStep.store (k := 1) (cs' := [_]) rfl wp_ rfl rfl ot rfl rfl ot rfl rfl Tryd.sizeOf33 rfl rfl rfl (by intro b hb; simp [bks, St.put] at hb ⊢; try first | exact hb | simp [hb] | (rcases hb with hb | hb <;> simp [hb]) | (rcases hb with hb | hb | hb <;> simp [hb])) ?_
  refine aw_ [] [⟨b4, 67, 2, [_, _]⟩, ⟨k4, 33, 1, [_]⟩, ⟨k3, 3, 1, [_]⟩, ⟨k2, 32, 12, [_, _, _, _, _, _, _, _, _, _, _, _]⟩] ?_
  refine AD.done kr_ ?_
  exact ⟨rfl, _, rfl⟩
 exact absurd hc0 (by decide)

theorem places70_Pbc : ∀ w, ((#[{ name := "l", type := 26, offset := 0, embedded := false, tag := "", pkgPath := "padlock/parse", byteOffset := 0 }, { name := "at", type := 3, offset := 1, embedded := false, tag := "", pkgPath := "padlock/parse", byteOffset := 24 }, { name := "ops", type := 30, offset := 2, embedded := false, tag := "", pkgPath := "padlock/parse", byteOffset := 32 }] : Array Field).mapM fun f => do pure (f.offset, ← sizeOf f.type) : Sem (Array (Nat × Nat))).run Tryd.prog w = .ok #[(0, 1), (1, 1), (2, 1)] w := fun w => by simp [Tryd.sizeOf26, Tryd.sizeOf3, Tryd.sizeOf30]

set_option maxHeartbeats 4000000 in
set_option maxRecDepth 100000 in
theorem parse_vc (hm : (0, marksC) ∈ G) (hw : (2, wordsC) ∈ G) (hk : (5, cmpC) ∈ G) (hty : (1, typesC) ∈ G) (l : List Tk) (hs : ∀ t ∈ l, t.s.size ≤ maxLen ∧ t.n ≤ 9223372036854775807) : VP Tryd.prog G 13 [.list 3 (l.flatMap cT) l.length] (dvP (parseF l)) := by
 refine VC.closing Tryd.func13 rfl Tryd.ntmps13 le_ fun X w0 => ?_
 refine KD.seqC (Q1 := fun e y => e = .normal ∧ ∃ b2 b3 b4, y = (⟨44, [(0, .list 3 (l.flatMap cT) l.length), (2, .v (.pointer (some ⟨b2, 0, none⟩))), (3, .v (.pointer (some ⟨b3, 0, none⟩))), (4, .v (.pointer (some ⟨b4, 0, none⟩)))], [⟨b4, 33, 1, [.v (.int .i64 0)]⟩, ⟨b3, 3, 1, [.v (.int .i64 0)]⟩, ⟨b2, 32, 12, [.v (.int .i64 0), .v (.string ⟨#[]⟩), .v (.slice none 0 0), .v (.slice none 0 0), .v (.slice none 0 0), .v (.bool false), .v (.slice none 0 0), .v (.string ⟨#[]⟩), .v (.bool false), .v (.int .i64 0), .v (.string ⟨#[]⟩), .v (.slice none 0 0)]⟩]⟩ : St)) (fun _ _ h => h) ?_ ?_ (fun e a w y he _ h => absurd h.1 he)
 ·skip
  refine CD.region ?_
  refine OD.alloc (ds := [_, _, _, _, _, _, _, _, _, _, _, _]) wp_ rfl rfl Tryd.zeroValue32 rfl (fun b2 => ?_)
  refine OD.alloc (ds := [_]) wp_ rfl rfl Tryd.zeroValue3 rfl (fun b3 => ?_)
  refine OD.alloc (ds := [_]) wp_ rfl rfl Tryd.zeroValue33 rfl (fun b4 => ?_)
  refine on_ [(0, _), (2, _), (3, _), (4, _)] [⟨b4, 33, 1, [_]⟩, ⟨b3, 3, 1, [_]⟩, ⟨b2, 32, 12, [_, _, _, _, _, _, _, _, _, _, _, _]⟩] ?_
  exact ⟨rfl, _, _, _, rfl⟩
 rintro _ ⟨-, b2, b3, b4, rfl⟩
 refine KD.seqC (Q1 := fun e y => (e = .normal ∧ l.length ≤ 100 ∧ y = (⟨44, [(0, .list 3 (l.flatMap cT) l.length), (2, .v (.pointer (some ⟨b2, 0, none⟩))), (3, .v (.pointer (some ⟨b3, 0, none⟩))), (4, .v (.pointer (some ⟨b4, 0, none⟩)))], [⟨b4, 33, 1, [.v (.int .i64 0)]⟩, ⟨b3, 3, 1, [.v (.int .i64 0)]⟩, ⟨b2, 32, 12, [.v (.int .i64 0), .v (.string ⟨#[]⟩), .v (.slice none 0 0), .v (.slice none 0 0), .v (.slice none 0 0), .v (.bool false), .v (.slice none 0 0), .v (.string ⟨#[]⟩), .v (.bool false), .v (.int .i64 0), .v (.string ⟨#[]⟩), .v (.slice none 0 0)]⟩]⟩ : St)) ∨ (e = .ret ∧ ∃ r S', List.Sublist S' y.S ∧ Ret Tryd.prog Tryd.f13 y r ∧ (r = dvP (parseF l) ∧ S' = []))) (fun _ _ h => h) ?_ ?_ (fun e a w y he hs h => by (rcases h with h | ⟨rfl, h⟩; exact absurd h.1 he; exact leave_ret hs h))
 ·skip
  refine sr_ ?_
  refine om_ ?_
  refine os_ ln_ ?_
  refine os_ bn_ ?_
  refine nm_ [0, 2, 3, 4, 11] ?_
  refine CD.cond ot (fun hc0 => ?_) (fun hc0 => ?_)
  ·have hc0' := hc0
   (try simp only [V.cnd, ne_eq] at hc0')
   have hbig : l.length > 100 := by simp at hc0; omega
   refine sr_ ?_
   refine os_ (still_bld (pl := []) (ds := [_, _, _, _, _, _, _, _, _, _, _, _]) rfl Tryd.zeroValue32 Tryd.runUnderlying32 places32_Pbc trivial rfl rfl) ?_
   refine ot_ 2 [_, _, _, _, _, _, _, _, _, _, _, _] Tryd.sizeOf32 ?_
   refine ot_ 1 [_] Tryd.sizeOf3 ?_
   refine ot_ 0 [_] Tryd.sizeOf33 ?_
   refine on_ [(0, _), (2, _), (3, _), (4, _)] [⟨b4, 33, 1, [_]⟩, ⟨b3, 3, 1, [_]⟩, ⟨b2, 32, 12, [_, _, _, _, _, _, _, _, _, _, _, _]⟩] ?_
   refine CD.ret ?_
   exact Or.inr ⟨rfl, dvP (stZ, 0, 10), [], List.nil_sublist _, (ret_three Tryd.results13 (res_cells (k := 2) (ds := [_, _, _, _, _, _, _, _, _, _, _, _]) le_ lk rfl rfl Tryd.isAgg32 Tryd.sizeOf32 rfl rfl) (res_cell (k := 1) le_ lk rfl rfl Tryd.isAgg3 rfl) (res_cell (k := 0) le_ lk rfl rfl Tryd.isAgg33 rfl)).gv (gv_tup ⟨gv_agg (by repeat (first | exact trivial | exact ⟨gv_rfl, trivial⟩ | exact ⟨gv_nil, trivial⟩ | refine ⟨gv_rfl, ?_⟩ | refine ⟨gv_nil, ?_⟩)), gv_rfl, gv_rfl, trivial⟩), (by rw [parse_big hbig]), rfl⟩
  have hc0' := hc0
  (try simp only [V.cnd, ne_eq] at hc0')
  have hl : l.length ≤ 100 := by simp at hc0; omega
  refine CD.wk (Wk.as_ (n := 44) (l' := [(0, _), (2, _), (3, _), (4, _)]) (S' := [⟨b4, 33, 1, [_]⟩, ⟨b3, 3, 1, [_]⟩, ⟨b2, 32, 12, [_, _, _, _, _, _, _, _, _, _, _, _]⟩]) rfl rfl sl_) ?_
  refine CD.skip ?_
  exact Or.inl ⟨rfl, hl, rfl⟩
 intro y hy
 obtain ⟨hl, rfl⟩ : l.length ≤ 100 ∧ y = (⟨44, [(0, .list 3 (l.flatMap cT) l.length), (2, .v (.pointer (some ⟨b2, 0, none⟩))), (3, .v (.pointer (some ⟨b3, 0, none⟩))), (4, .v (.pointer (some ⟨b4, 0, none⟩)))], [⟨b4, 33, 1, [.v (.int .i64 0)]⟩, ⟨b3, 3, 1, [.v (.int .i64 0)]⟩, ⟨b2, 32, 12, [.v (.int .i64 0), .v (.string ⟨#[]⟩), .v (.slice none 0 0), .v (.slice none 0 0), .v (.slice none 0 0), .v (.bool false), .v (.slice none 0 0), .v (.string ⟨#[]⟩), .v (.bool false), .v (.int .i64 0), .v (.string ⟨#[]⟩), .v (.slice none 0 0)]⟩]⟩ : St) := by (rcases hy with ⟨-, h⟩ | ⟨h, -⟩; exact h; cases h)
 refine KD.seqC (Q1 := fun e y => (e = .normal ∧ badTk l 0 = none ∧ y = (⟨44, [(0, .list 3 (l.flatMap cT) l.length), (2, .v (.pointer (some ⟨b2, 0, none⟩))), (3, .v (.pointer (some ⟨b3, 0, none⟩))), (4, .v (.pointer (some ⟨b4, 0, none⟩)))], [⟨b4, 33, 1, [.v (.int .i64 0)]⟩, ⟨b3, 3, 1, [.v (.int .i64 0)]⟩, ⟨b2, 32, 12, [.v (.int .i64 0), .v (.string ⟨#[]⟩), .v (.slice none 0 0), .v (.slice none 0 0), .v (.slice none 0 0), .v (.bool false), .v (.slice none 0 0), .v (.string ⟨#[]⟩), .v (.bool false), .v (.int .i64 0), .v (.string ⟨#[]⟩), .v (.slice none 0 0)]⟩]⟩ : St)) ∨ (e = .ret ∧ ∃ r S', List.Sublist S' y.S ∧ Ret Tryd.prog Tryd.f13 y r ∧ (r = dvP (parseF l) ∧ S' = []))) (fun _ _ h => h) ?_ ?_ (fun e a w y he hs h => by (rcases h with h | ⟨rfl, h⟩; exact absurd h.1 he; exact leave_ret hs h))
 ·skip
  refine sr_ ?_
  refine om_ ?_
  refine os_ ln_ ?_
  refine om_ ?_
  refine nm_ [0, 2, 3, 4, 13, 14, 15] ?_
  refine CD.block ?_
  refine lp_ (fun (i : Nat) y__ => (i ≤ l.length) ∧ (badTk l 0 = badTk (l.drop i) i) ∧ y__ = (⟨44, [(0, .list 3 (l.flatMap cT) l.length), (2, .v (.pointer (some ⟨b2, 0, none⟩))), (3, .v (.pointer (some ⟨b3, 0, none⟩))), (4, .v (.pointer (some ⟨b4, 0, none⟩))), (13, .list 3 (l.flatMap cT) l.length), (14, .v (.int .i64 l.length)), (15, .v (.int .i64 (i : Nat)))], [⟨b4, 33, 1, [.v (.int .i64 0)]⟩, ⟨b3, 3, 1, [.v (.int .i64 0)]⟩, ⟨b2, 32, 12, [.v (.int .i64 0), .v (.string ⟨#[]⟩), .v (.slice none 0 0), .v (.slice none 0 0), .v (.slice none 0 0), .v (.bool false), .v (.slice none 0 0), .v (.string ⟨#[]⟩), .v (.bool false), .v (.int .i64 0), .v (.string ⟨#[]⟩), .v (.slice none 0 0)]⟩]⟩ : St)) (fun (i : Nat) => l.length - i) 0 ⟨(Nat.zero_le _), (by rw [List.drop_zero]), rfl⟩ (Wk.asS rfl sv_ sq_) ?_
  rintro i _ ⟨hi, hq, rfl⟩
  refine sr_ ?_
  refine os_ bn_ ?_
  refine nm_ [0, 2, 3, 4, 13, 14, 15, 16] ?_
  refine CD.seq ?_
  refine CD.cond ot (fun hc1 => ?_) (fun hc1 => ?_)
  ·have hc1' := hc1
   (try simp only [V.cnd, ne_eq] at hc1')
   have hlt : i < l.length := by simp at hc1; omega
   refine CD.skip ?_
   refine CD.seq ?_
   refine CD.block ?_
   refine sr_ ?_
   refine om_ ?_
   refine os_ (ix_ 3 (h := by first | exact .l (j := i) rfl hlt | exact .r (j := i) rfl hlt)) ?_
   refine os_ (la_ [_, _, _]) ?_
   refine OD.alloc (ds := [_, _, _]) wp_ rfl rfl Tryd.zeroValue24 rfl (fun b6 => ?_)
   refine om_ ?_
   refine ot_ 0 [_, _, _] Tryd.sizeOf24 ?_
   refine on_ [(0, _), (2, _), (3, _), (4, _), (5, _), (6, _), (13, _), (14, _), (15, _)] [⟨b6, 24, 3, [_, _, _]⟩, ⟨b4, 33, 1, [_]⟩, ⟨b3, 3, 1, [_]⟩, ⟨b2, 32, 12, [_, _, _, _, _, _, _, _, _, _, _, _]⟩] ?_
   refine sr_ ?_
   refine os_ (lab_ 0 [_, _, _]) ?_
   refine oc_ Tryd.call23 (Nm.check_vp hm l[i] (hs _ (List.getElem_mem hlt)).1) ?_
   refine om_ ?_
   refine on_ [(0, _), (2, _), (3, _), (4, _), (5, _), (7, _), (13, _), (14, _), (15, _)] [⟨b6, 24, 3, [_, _, _]⟩, ⟨b4, 33, 1, [_]⟩, ⟨b3, 3, 1, [_]⟩, ⟨b2, 32, 12, [_, _, _, _, _, _, _, _, _, _, _, _]⟩] ?_
   refine sr_ ?_
   refine om_ ?_
   refine os_ bn_ ?_
   refine nm_ [0, 2, 3, 4, 5, 7, 13, 14, 15, 23] ?_
   refine CD.cond ot (fun hc2 => ?_) (fun hc2 => ?_)
   ·have hc2' := hc2
    (try simp only [V.cnd, ne_eq] at hc2')
    have hnz : checkT l[i] ≠ 0 := by simpa using hc2
    refine sr_ ?_
    refine os_ (still_bld (pl := []) (ds := [_, _, _, _, _, _, _, _, _, _, _, _]) rfl Tryd.zeroValue32 Tryd.runUnderlying32 places32_Pbc trivial rfl rfl) ?_
    refine om_ ?_
    refine om_ ?_
    refine ot_ 3 [_, _, _, _, _, _, _, _, _, _, _, _] Tryd.sizeOf32 ?_
    refine ot_ 2 [_] Tryd.sizeOf3 ?_
    refine ot_ 1 [_] Tryd.sizeOf33 ?_
    refine on_ [(0, _), (2, _), (3, _), (4, _)] [⟨b6, 24, 3, [_, _, _]⟩, ⟨b4, 33, 1, [_]⟩, ⟨b3, 3, 1, [_]⟩, ⟨b2, 32, 12, [_, _, _, _, _, _, _, _, _, _, _, _]⟩] ?_
    refine CD.ret ?_
    exact Or.inr ⟨rfl, dvP (stZ, i, checkT l[i]), [], List.nil_sublist _, (ret_three Tryd.results13 (res_cells (k := 3) (ds := [_, _, _, _, _, _, _, _, _, _, _, _]) le_ lk rfl rfl Tryd.isAgg32 Tryd.sizeOf32 rfl rfl) (res_cell (k := 2) le_ lk rfl rfl Tryd.isAgg3 rfl) (res_cell (k := 1) le_ lk rfl rfl Tryd.isAgg33 rfl)).gv (gv_tup ⟨gv_agg (by repeat (first | exact trivial | exact ⟨gv_rfl, trivial⟩ | exact ⟨gv_nil, trivial⟩ | refine ⟨gv_rfl, ?_⟩ | refine ⟨gv_nil, ?_⟩)), gv_rfl, gv_rfl, trivial⟩), (by rw [parse_bad hl (bad_at hlt hq hnz)]), rfl⟩
   have hc2' := hc2
   (try simp only [V.cnd, ne_eq] at hc2')
   have hz : checkT l[i] = 0 := by simpa using hc2
   refine CD.skip ?_
   refine CD.region ?_
   refine os_ bn_ ?_
   refine om_ ?_
   refine nm_ [0, 2, 3, 4, 13, 14, 15] ?_
   refine ⟨(i + 1), _, ?_, ?_, (by omega), (bad_on hlt hq hz), rfl⟩
   ·first | omega | (simp only []; omega)
   exact Wk.asS (n := 44) rfl sv_ sq_
  have hc1' := hc1
  (try simp only [V.cnd, ne_eq] at hc1')
  have hie : l.length ≤ i := by simp at hc1; omega
  have hbad : badTk l 0 = none := by rw [hq, List.drop_of_length_le hie]; rfl
  refine CD.wk (Wk.as_ (n := 44) (l' := [(0, _), (2, _), (3, _), (4, _)]) (S' := [⟨b4, 33, 1, [_]⟩, ⟨b3, 3, 1, [_]⟩, ⟨b2, 32, 12, [_, _, _, _, _, _, _, _, _, _, _, _]⟩]) rfl rfl sl_) ?_
  refine CD.exit ?_
  exact Or.inl ⟨rfl, hbad, rfl⟩
 intro y hy
 obtain ⟨hbad, rfl⟩ : badTk l 0 = none ∧ y = (⟨44, [(0, .list 3 (l.flatMap cT) l.length), (2, .v (.pointer (some ⟨b2, 0, none⟩))), (3, .v (.pointer (some ⟨b3, 0, none⟩))), (4, .v (.pointer (some ⟨b4, 0, none⟩)))], [⟨b4, 33, 1, [.v (.int .i64 0)]⟩, ⟨b3, 3, 1, [.v (.int .i64 0)]⟩, ⟨b2, 32, 12, [.v (.int .i64 0), .v (.string ⟨#[]⟩), .v (.slice none 0 0), .v (.slice none 0 0), .v (.slice none 0 0), .v (.bool false), .v (.slice none 0 0), .v (.string ⟨#[]⟩), .v (.bool false), .v (.int .i64 0), .v (.string ⟨#[]⟩), .v (.slice none 0 0)]⟩]⟩ : St) := by (rcases hy with ⟨-, h⟩ | ⟨h, -⟩; exact h; cases h)
 have ht : ∀ t ∈ l, t.s.size ≤ maxLen ∧ (t.k = 2 → 0 ≤ t.n ∧ t.n ≤ 9223372036854775807) := fun t h => ⟨(hs t h).1, fun hk => ⟨num_pos (bad_none hbad t h) hk, (hs t h).2⟩⟩
 refine KD.defer (vs := [(.pointer (some ⟨b2, 0, none⟩)), (.pointer (some ⟨b3, 0, none⟩)), (.pointer (some ⟨b4, 0, none⟩))]) rfl rfl (show Still _ _ _ _ _ (.clo (.func 24) [.v (.pointer (some ⟨b2, 0, none⟩)), .v (.pointer (some ⟨b3, 0, none⟩)), .v (.pointer (some ⟨b4, 0, none⟩))]) from still_fn rfl ⟨ot, ot, ot, trivial⟩) rfl rfl rfl rfl ?_
 refine KD.of (Q := fun e y => (e = .ret ∧ ∃ B s, parseF l = (s, 0, 0) ∧ y = (⟨44, [(2, .v (.pointer (some ⟨b2, 0, none⟩))), (3, .v (.pointer (some ⟨b3, 0, none⟩))), (4, .v (.pointer (some ⟨b4, 0, none⟩)))], [B, ⟨b4, 33, 1, [.v (.int .i64 0)]⟩, ⟨b3, 3, 1, [.v (.int .i64 0)]⟩, ⟨b2, 32, 12, (cSt s)⟩]⟩ : St)) ∨ ∃ ch, e = .panic ch ∧ ∃ q e, ch = wrC q e ∧ parseF l = (stZ, q, e) ∧ ∃ (env : List (Nat × D)) (c4 c3 : D) (cs : List D), y = (⟨44, env, [⟨b4, 33, 1, [c4]⟩, ⟨b3, 3, 1, [c3]⟩, ⟨b2, 32, 12, cs⟩]⟩ : St) ∧ cs.length = 12 ∧ V.look 2 env = .v (.pointer (some ⟨b2, 0, none⟩)) ∧ V.look 3 env = .v (.pointer (some ⟨b3, 0, none⟩)) ∧ V.look 4 env = .v (.pointer (some ⟨b4, 0, none⟩))) ?_ ?_
 ·skip
  refine sr_ ?_
  refine om_ ?_
  refine os_ (still_bld (pl := [(0, _)]) (ds := [_, _, _]) rfl Tryd.zeroValue70 Tryd.runUnderlying70 places70_Pbc ⟨rfl, ot, trivial⟩ rfl rfl) ?_
  refine OD.box (ds := [_, _, _]) wp_ rfl rfl ot rfl rfl (fun b31 => ?_)
  refine om_ ?_
  refine on_ [(0, _), (2, _), (3, _), (4, _), (8, _)] [⟨b31, 70, 3, [_, _, _]⟩, ⟨b4, 33, 1, [_]⟩, ⟨b3, 3, 1, [_]⟩, ⟨b2, 32, 12, [_, _, _, _, _, _, _, _, _, _, _, _]⟩] ?_
  refine sr_ ?_
  refine om_ ?_
  refine OD.callX wp_ rfl rfl rfl Tryd.call25 (statement_vx (br := b31) hl hm hw hk hty ht 0 (Nat.zero_le _) [] _ rfl none 0 0) ⟨ot, trivial⟩ (List.Perm.refl _) (fun ch hch => by obtain ⟨q, e, h1, rfl⟩ := hch; exact Or.inr ⟨_, rfl, q, e, rfl, parse_no hl hbad h1, _, _, _, _, rfl, rfl, lk, lk, lk⟩) ?_
  rintro _ _ ⟨s, p, os, ad, n, cap, hst, ⟨rfl, hok⟩, hp, rfl⟩
  unfold cSt
  refine OD.perm (S' := ⟨b31, 70, 3, [.list 3 (l.flatMap cT) l.length, .v (.int .i64 ((p : Nat) : Int)), .v (.slice ad n cap)]⟩ :: [⟨b4, 33, 1, [_]⟩, ⟨b3, 3, 1, [_]⟩, ⟨b2, 32, 12, [_, _, _, _, _, _, _, _, _, _, _, _]⟩]) (List.Perm.refl _) ?_
  refine ot_ 3 [_, _, _, _, _, _, _, _, _, _, _, _] Tryd.sizeOf32 ?_
  refine on_ [(0, _), (2, _), (3, _), (4, _), (8, _)] [⟨b31, 70, 3, [_, _, _]⟩, ⟨b4, 33, 1, [_]⟩, ⟨b3, 3, 1, [_]⟩, ⟨b2, 32, 12, [_, _, _, _, _, _, _, _, _, _, _, _]⟩] ?_
  refine CD.seq ?_
  refine sr_ ?_
  refine om_ ?_
  refine os_ nc_ ?_
  refine os_ (fa_ 1) ?_
  refine os_ (lb_ 0) ?_
  refine om_ ?_
  refine os_ ln_ ?_
  refine os_ bn_ ?_
  refine nm_ [2, 3, 4, 8, 40] ?_
  refine CD.cond ot (fun hc3 => ?_) (fun hc3 => ?_)
  ·have hc3' := hc3
   (try simp only [V.cnd, ne_eq] at hc3')
   have hmo : p < l.length := by simp at hc3; omega
   refine CD.region ?_
   refine om_ ?_
   exact OD.callX wp_ rfl rfl rfl Tryd.call26 (give_vx l hl p 6 ad n cap b31) ⟨ot, opd_const, trivial⟩ (List.Perm.refl _) (fun ch hch => by subst hch; exact Or.inr ⟨_, rfl, p, _, rfl, parse_more hl hbad hst hmo, _, _, _, _, rfl, rfl, lk, lk, lk⟩) (fun r S' h => h.elim)
  have hc3' := hc3
  (try simp only [V.cnd, ne_eq] at hc3')
  have hmo : ¬ p < l.length := by simp at hc3; omega
  refine CD.skip ?_
  refine sr_ ?_
  refine os_ (lab_ 3 [_, _, _, _, _, _, _, _, _, _, _, _]) ?_
  refine ot_ 3 [_, _, _, _, _, _, _, _, _, _, _, _] Tryd.sizeOf32 ?_
  refine ot_ 2 [_] Tryd.sizeOf3 ?_
  refine ot_ 1 [_] Tryd.sizeOf33 ?_
  refine on_ [(2, _), (3, _), (4, _)] [⟨b31, 70, 3, [_, _, _]⟩, ⟨b4, 33, 1, [_]⟩, ⟨b3, 3, 1, [_]⟩, ⟨b2, 32, 12, [_, _, _, _, _, _, _, _, _, _, _, _]⟩] ?_
  refine CD.ret ?_
  exact Or.inl ⟨rfl, _, s, parse_ok hl hbad hst hmo, rfl⟩
 intro e a w h
 rcases h with ⟨y, hy, ⟨rfl, B, s, hpf, rfl⟩ | ⟨ch, rfl, q, e, rfl, hpf, env, c4, c3, cs, rfl, hcs, h2, h3, h4⟩⟩ | ⟨_, h⟩
 ·have hw := leaves_one (fn := Tryd.f13) (post := fun r S' => r = dvP (parseF l) ∧ S' = []) (S0 := []) (u := .returning) (u' := .returning) (caps := [(.pointer (some ⟨b2, 0, none⟩)), (.pointer (some ⟨b3, 0, none⟩)), (.pointer (some ⟨b4, 0, none⟩))].map D.v) (cv := [(.pointer (some ⟨b2, 0, none⟩)), (.pointer (some ⟨b3, 0, none⟩)), (.pointer (some ⟨b4, 0, none⟩))]) (Sf := []) (Rs := [B, ⟨b4, 33, 1, [.v (.int .i64 0)]⟩, ⟨b3, 3, 1, [.v (.int .i64 0)]⟩, ⟨b2, 32, 12, (cSt s)⟩]) (pc := fun S' => S' = []) hy rfl rfl rfl hy.defers (repL_flat _) Tryd.call24 (List.Perm.refl _) (by intro h; cases h) rfl (cl_ret b2 b3 b4 [])
   (fun S' h => by subst h; exact ⟨_, [], List.nil_sublist _, ret_three Tryd.results13 (res_cells (k := 3) (ds := [_, _, _, _, _, _, _, _, _, _, _, _]) le_ lk rfl rfl Tryd.isAgg32 Tryd.sizeOf32 rfl rfl) (res_cell (k := 2) le_ lk rfl rfl Tryd.isAgg3 rfl) (res_cell (k := 1) le_ lk rfl rfl Tryd.isAgg33 rfl), (by rw [hpf]; rfl), rfl⟩)
  exact hw
 ·have hw := leaves_one (fn := Tryd.f13) (post := fun r S' => r = dvP (parseF l) ∧ S' = []) (S0 := []) (u := .panicking (wrC q e)) (u' := .panicking [{ v := .iface 67 (.agg #[.int .i64 (q : Nat), .int .i64 e]), recovered := true }]) (caps := [(.pointer (some ⟨b2, 0, none⟩)), (.pointer (some ⟨b3, 0, none⟩)), (.pointer (some ⟨b4, 0, none⟩))].map D.v) (cv := [(.pointer (some ⟨b2, 0, none⟩)), (.pointer (some ⟨b3, 0, none⟩)), (.pointer (some ⟨b4, 0, none⟩))]) (Sf := [⟨b4, 33, 1, [c4]⟩, ⟨b3, 3, 1, [c3]⟩, ⟨b2, 32, 12, cs⟩]) (Rs := []) (pc := fun S' => ∃ B, S' = [B, ⟨b4, 33, 1, [.v (.int .i64 e)]⟩, ⟨b3, 3, 1, [.v (.int .i64 ((q : Nat) : Int))]⟩, ⟨b2, 32, 12, [.v (.int .i64 0), .v (.string ⟨#[]⟩), .v (.slice none 0 0), .v (.slice none 0 0), .v (.slice none 0 0), .v (.bool false), .v (.slice none 0 0), .v (.string ⟨#[]⟩), .v (.bool false), .v (.int .i64 0), .v (.string ⟨#[]⟩), .v (.slice none 0 0)]⟩]) hy rfl rfl rfl hy.defers (repL_flat _) Tryd.call24 (List.Perm.refl _) (by intro h; cases h) rfl (cl_pan0 b2 b3 b4 q e c4 c3 cs hcs)
   (fun S' h => by obtain ⟨B, rfl⟩ := h; exact ⟨dvP (stZ, q, e), [], List.nil_sublist _, (ret_three Tryd.results13 (res_cells (k := 3) (ds := [_, _, _, _, _, _, _, _, _, _, _, _]) le_ h2 rfl rfl Tryd.isAgg32 Tryd.sizeOf32 rfl rfl) (res_cell (k := 2) le_ h3 rfl rfl Tryd.isAgg3 rfl) (res_cell (k := 1) le_ h4 rfl rfl Tryd.isAgg33 rfl)).gv (gv_tup ⟨gv_agg (by repeat (first | exact trivial | exact ⟨gv_rfl, trivial⟩ | exact ⟨gv_nil, trivial⟩ | refine ⟨gv_rfl, ?_⟩ | refine ⟨gv_nil, ?_⟩)), gv_rfl, gv_rfl, trivial⟩), (by rw [hpf]), rfl⟩)
  exact hw
 exact h.elim


end Go.Proofs.YtjgekbmahhhokaaDoor.Pa

namespace Go.Proofs.YtjgekbmahhhokaaDoor.Pa
open Go.RowKit V Pk Go.Proofs.YtjgekbmahhhokaaDoor.Vl Go.Proofs.YtjgekbmahhhokaaDoor.Nm
set_option linter.unusedVariables false
set_option linter.unusedSimpArgs false

abbrev GT (t : Tk) : Prop := checkT t = 0 ∧ t.s.size ≤ maxLen ∧ t.n ≤ 9223372036854775807
def GTs (l : List Tk) : Prop := ∀ t ∈ l, GT t
theorem gts_nil : GTs [] := fun _ h => by cases h
theorem gts_cons {a : Tk} {l : List Tk} (h : GT a) (h2 : GTs l) : GTs (a :: l) := fun t ht => by
 rcases List.mem_cons.1 ht with rfl | ht
 ·exact h
 exact h2 t ht
theorem gts_app {a b : List Tk} (h : GTs a) (h2 : GTs b) : GTs (a ++ b) := fun t ht => by
 rcases List.mem_append.1 ht with ht | ht
 ·exact h t ht
 exact h2 t ht
theorem gt_word {s : ByteArray} (h : nameF s = 0) : GT (wordT s) := by
 obtain ⟨h1, h2⟩ := name_ok h
 refine ⟨?_, Nat.le_trans h2 (by decide), by show (0 : Int) ≤ _; decide⟩
 rw [wordT, check_word, if_pos h1]
theorem gt_num {n : Int} (h : 0 ≤ n) (h2 : n ≤ 9223372036854775807) : GT ⟨2, ⟨#[]⟩, n⟩ := by
 refine ⟨?_, Nat.zero_le _, h2⟩
 unfold checkT; dsimp only
 rw [if_neg (by decide), if_pos rfl, if_neg (by omega), if_pos (show (⟨#[]⟩ : ByteArray).size = 0 from rfl)]
theorem gts_val {v : Vl} (h : litF v = 0) (h1 : -9223372036854775808 ≤ v.n) (h2 : v.n ≤ 9223372036854775807) : GTs (showV v) := by
 have ho := lit_ok h h1 h2
 unfold showV
 split
 ·exact gts_cons (by decide +kernel) gts_nil
 split
 ·split
  ·exact gts_cons (by decide +kernel) gts_nil
  exact gts_cons (by decide +kernel) gts_nil
 split
 ·refine gts_cons ⟨?_, ?_, by show (0 : Int) ≤ _; decide⟩ gts_nil
  ·unfold checkT; dsimp only; rw [if_neg (by decide), if_neg (by decide), if_pos rfl, if_pos rfl]
  show v.s.size ≤ maxLen
  have h20 : v.s.size ≤ 20 := by
   unfold litF checkV at h
   split at h
   ·cases h
   repeat' split at h
   all_goals first | (exfalso; omega) | omega
  exact Nat.le_trans h20 (show 20 ≤ maxLen by decide)
 split
 ·exact gts_cons (by decide +kernel) (gts_cons (gt_num (by omega) (by have := ho.2.1; omega)) gts_nil)
 exact gts_cons (gt_num (by omega) h2) gts_nil
def InR (l : List OpL) : Prop := ∀ o ∈ l, -9223372036854775808 ≤ o.v.n ∧ o.v.n ≤ 9223372036854775807
theorem inR_l {a b : List OpL} (h : InR (a ++ b)) : InR a := fun o ho => h o (List.mem_append_left _ ho)
theorem inR_r {a b : List OpL} (h : InR (a ++ b)) : InR b := fun o ho => h o (List.mem_append_right _ ho)
theorem gt_bet {k : Int} (h : k = 3 ∨ k = 4 ∨ 6 ≤ k ∧ k ≤ 10) : GT (betT k) := by
 have h' : k = 3 ∨ k = 4 ∨ k = 6 ∨ k = 7 ∨ k = 8 ∨ k = 9 ∨ k = 10 := by omega
 rcases h' with rfl | rfl | rfl | rfl | rfl | rfl | rfl <;> decide +kernel
theorem gt_open : GT (markT ⟨#[40]⟩) := by decide +kernel
theorem gt_close : GT (markT ⟨#[41]⟩) := by decide +kernel
theorem gt_comma : GT (markT ⟨#[44]⟩) := by decide +kernel
theorem gts_tree : ∀ e : Ex, e.good → InR e.opl → GTs e.tkl
 | .lit v, h, hr => by
  have := hr ⟨1, v, ⟨#[]⟩⟩ List.mem_cons_self
  exact gts_val h this.1 this.2
 | .col s, h, _ => gts_cons (gt_word h) gts_nil
 | .not e, h, hr => by
  have ih := gts_tree e h (inR_l hr)
  show GTs ([[markT _, wordT _], e.tkl, [markT _]].flatten)
  simp only [List.flatten_cons, List.flatten_nil, List.append_nil]
  exact gts_app (gts_cons gt_open (gts_cons (by decide +kernel) gts_nil)) (gts_app ih (gts_cons gt_close gts_nil))
 | .isn e, h, hr => by
  have ih := gts_tree e h (inR_l hr)
  show GTs ([[markT _], e.tkl, [wordT _, wordT _], [markT _]].flatten)
  simp only [List.flatten_cons, List.flatten_nil, List.append_nil]
  exact gts_app (gts_cons gt_open gts_nil) (gts_app ih (gts_app (gts_cons (by decide +kernel) (gts_cons (by decide +kernel) gts_nil)) (gts_cons gt_close gts_nil)))
 | .bin k a b, h, hr => by
  have ia := gts_tree a h.2.1 (inR_l (inR_l hr))
  have ib := gts_tree b h.2.2 (inR_r (inR_l hr))
  show GTs ([[markT _], a.tkl, [betT k], b.tkl, [markT _]].flatten)
  simp only [List.flatten_cons, List.flatten_nil, List.append_nil]
  exact gts_app (gts_cons gt_open gts_nil) (gts_app ia (gts_app (gts_cons (gt_bet h.1) gts_nil) (gts_app ib (gts_cons gt_close gts_nil))))
theorem gts_ops {l : List OpL} (h : exprL 0 l = 0) (hr : InR l) : GTs (showO l) := by
 obtain ⟨e, h1, h2, h3⟩ := tree_of h
 rw [h3]; exact gts_tree e h1 (h2 ▸ hr)
theorem gts_where {l : List OpL} (h : l.length = 0 ∨ exprL 0 l = 0) (hr : InR l) : GTs (showW l) := by
 unfold showW
 split
 ·exact gts_nil
 rename_i h0
 exact gts_app (gts_cons (by decide +kernel) gts_nil) (gts_ops (h.resolve_left h0) hr)
theorem gts_sep : ∀ (l : List (List Tk)), (∀ x ∈ l, GTs x) → GTs (sepT l)
 | [], _ => gts_nil
 | [t], h => h t List.mem_cons_self
 | t :: u :: r, h => gts_app (h t List.mem_cons_self) (gts_cons gt_comma (gts_sep (u :: r) fun x hx => h x (List.mem_cons_of_mem _ hx)))
theorem gts_list {l : List (List Tk)} (h : ∀ x ∈ l, GTs x) : GTs (listL l) := by
 rw [list_sep]; exact gts_cons gt_open (gts_app (gts_sep l h) (gts_cons gt_close gts_nil))
theorem gts_show {s : StL} (hf : FinS s) (h1 : 1 ≤ s.kind) (h9 : s.kind ≤ 9) (hl : s.limit ≤ 9223372036854775807) (hc : checkS s = 0) : GTs (showS s) := by
 obtain ⟨he, hb, ht⟩ := err_0 hc
 have hs := sh_of hf h1 h9 hc
 have hw : InR s.wher := fun o ho => (hf.w o ho).2
 have hto : InR s.to := fun o ho => (hf.x o ho).2
 unfold showS
 split
 ·rename_i hk
  have hn := ht (by omega)
  unfold errS at he; rw [if_pos hk] at he
  refine gts_app (gts_cons (by decide +kernel) (gts_cons (by decide +kernel) (gts_cons (gt_word hn) gts_nil))) (gts_list fun x hx => ?_)
  obtain ⟨c, hcm, rfl⟩ := List.mem_map.1 hx
  obtain ⟨c1, c2, c3⟩ := (cols_good he).2 c hcm
  refine gts_cons (gt_word c1) (gts_cons ?_ gts_nil)
  have hk3 : c.k = 1 ∨ c.k = 2 ∨ c.k = 3 := by omega
  rcases hk3 with e | e | e <;> rw [e] <;> decide +kernel
 split
 ·exact gts_cons (by decide +kernel) (gts_cons (by decide +kernel) (gts_cons (gt_word (ht (by omega))) gts_nil))
 split
 ·rename_i hk1 hk2 hk
  unfold errS at he; rw [if_neg (by omega), if_pos hk] at he
  unfold rowF at he
  split at he
  ·cases he
  refine gts_app (gts_cons (by decide +kernel) (gts_cons (by decide +kernel) (gts_cons (gt_word (ht (by omega))) (gts_cons (by decide +kernel) gts_nil)))) (gts_list fun x hx => ?_)
  obtain ⟨v, hv, rfl⟩ := List.mem_map.1 hx
  exact gts_val (first_0 he v hv) (hf.r v hv).1 (hf.r v hv).2
 split
 ·rename_i hk1 hk2 hk3 hk
  have hcf : pickF s = 0 := by unfold errS at he; rw [if_neg (by omega), if_neg (by omega), if_pos hk] at he; exact he
  unfold pickF at hcf
  split at hcf
  ·cases hcf
  split at hcf
  ·cases hcf
  split at hcf
  ·cases hcf
  split at hcf
  ·exact absurd hcf (by assumption)
  split at hcf
  ·exact absurd hcf (by assumption)
  rename_i n6 lim cn nn ww
  have hn0 : ∀ x ∈ s.names, nameF x = 0 := first_0 (by omega)
  have hord : ¬ eqS s.order ⟨#[]⟩ = true → nameF s.order = 0 := fun h => by rw [if_neg h] at hcf; exact hcf
  unfold showP
  refine gts_app (gts_app (gts_app (gts_app (gts_app (gts_cons (by decide +kernel) gts_nil) ?_) (gts_cons (by decide +kernel) (gts_cons (gt_word (ht (by omega))) gts_nil))) (gts_where (hs.w (.inl hk)) hw)) ?_) ?_
  ·unfold headT
   split
   ·exact gts_cons (by decide +kernel) (gts_cons (by decide +kernel) (gts_cons (by decide +kernel) (gts_cons (by decide +kernel) gts_nil)))
   split
   ·exact gts_cons (by decide +kernel) gts_nil
   rw [preN_sep _ _ (Nat.le_refl _), List.take_length]
   refine gts_sep _ fun x hx => ?_
   obtain ⟨n, hn, rfl⟩ := List.mem_map.1 hx
   exact gts_cons (gt_word (hn0 n hn)) gts_nil
  ·unfold ordT
   split
   ·exact gts_nil
   rename_i ho
   refine gts_app (gts_cons (by decide +kernel) (gts_cons (by decide +kernel) (gts_cons (gt_word (hord ho)) gts_nil))) ?_
   split
   ·exact gts_cons (by decide +kernel) gts_nil
   exact gts_nil
  unfold limT
  split
  ·exact gts_cons (by decide +kernel) (gts_cons (gt_num (by omega) hl) gts_nil)
  exact gts_nil
 split
 ·rename_i hk1 hk2 hk3 hk4 hk
  have hns : nameF s.set = 0 := by
   unfold errS at he; rw [if_neg (by omega), if_neg (by omega), if_neg (by omega), if_pos hk] at he
   split at he
   ·assumption
   exact he
  simp only [List.flatten_cons, List.flatten_nil, List.append_nil]
  exact gts_app (gts_cons (by decide +kernel) (gts_cons (gt_word (ht (by omega))) (gts_cons (by decide +kernel) (gts_cons (gt_word hns) gts_nil)))) (gts_app (gts_cons (by decide +kernel) gts_nil) (gts_app (gts_ops (hs.t hk) hto) (gts_where (hs.w (.inr (.inl hk))) hw)))
 split
 ·rename_i hk
  exact gts_app (gts_cons (by decide +kernel) (gts_cons (by decide +kernel) (gts_cons (gt_word (ht (by omega))) gts_nil))) (gts_where (hs.w (.inr (.inr hk))) hw)
 have hk : s.kind = 7 ∨ s.kind = 8 ∨ s.kind = 9 := by omega
 rcases hk with hk | hk | hk <;> rw [hk] <;> exact gts_cons (by decide +kernel) gts_nil
theorem bad_gts : ∀ {l : List Tk} {i : Nat}, GTs l → badTk l i = none
 | [], _, _ => rfl
 | a :: r, i, h => by
  unfold badTk
  rw [if_pos (h a List.mem_cons_self).1]
  exact bad_gts fun t ht => h t (List.mem_cons_of_mem _ ht)
theorem gts_hs {l : List Tk} (h : GTs l) : ∀ t ∈ l, t.s.size ≤ maxLen ∧ t.n ≤ 9223372036854775807 := fun t ht => (h t ht).2
theorem parse_show {s : StL} (hf : FinS s) (h1 : 1 ≤ s.kind) (h9 : s.kind ≤ 9) (hl : s.limit ≤ 9223372036854775807) (hc : checkS s = 0) (hn : (showS s).length ≤ 100) : parseF (showS s) = (s, 0, 0) := by
 obtain ⟨q, os, e1, e2⟩ := st_of (l := showS s) hf h1 h9 hc (.inl rfl) (by simp)
 refine parse_ok hn (bad_gts (gts_show hf h1 h9 hl hc)) e1 ?_
 have := congrArg List.length e2
 simp at this; omega
end Go.Proofs.YtjgekbmahhhokaaDoor.Pa

namespace Go.Proofs.YtjgekbmahhhokaaDoor.Pa
open Go.RowKit V Pk Go.Proofs.YtjgekbmahhhokaaDoor.Vl Go.Proofs.YtjgekbmahhhokaaDoor.Nm
set_option linter.unusedVariables false
set_option linter.unusedSimpArgs false

abbrev TypesTab (w : World) : Prop := Tab.TabAt w 1 typesC
abbrev CmpTab (w : World) : Prop := Tab.TabAt w 5 cmpC
def typesB : List (List UInt8) := [[], [66, 79, 79, 76], [73, 78, 84], [84, 69, 88, 84]]
def cmpB : List (List UInt8 × Int × Bool × Bool) := [([61], 6, false, false), ([60, 62], 6, false, true), ([60], 7, false, false), ([62], 7, true, false), ([62, 61], 7, false, true), ([60, 61], 7, true, true)]
def TGP : List (Nat × List Value) := [(0, marksC), (2, wordsC), (1, typesC), (5, cmpC)]
theorem tp1 : (0, marksC) ∈ TGP := List.mem_cons_self
theorem tp2 : (2, wordsC) ∈ TGP := List.mem_cons_of_mem _ List.mem_cons_self
theorem tp3 : (1, typesC) ∈ TGP := List.mem_cons_of_mem _ (List.mem_cons_of_mem _ List.mem_cons_self)
theorem tp4 : (5, cmpC) ∈ TGP := List.mem_cons_of_mem _ (List.mem_cons_of_mem _ (List.mem_cons_of_mem _ List.mem_cons_self))
theorem tgpx {w : World} (h1 : MarksTab w) (h2 : WordsTab w) (h3 : TypesTab w) (h4 : CmpTab w) : ∀ g ∈ TGP, g.2 ≠ [] ∧ TabX w g.1 g.2 := fun g hg => by
 simp only [TGP, List.mem_cons, List.not_mem_nil, or_false] at hg
 rcases hg with rfl | rfl | rfl | rfl
 ·exact ⟨by decide, .of h1 rfl⟩
 ·exact ⟨by decide, .of h2 rfl⟩
 ·exact ⟨by decide, .of h3 rfl⟩
 exact ⟨by decide, .of h4 rfl⟩

end Go.Proofs.YtjgekbmahhhokaaDoor.Pa

namespace Go.Proofs.YtjgekbmahhhokaaDoor.Pa
open Go.RowKit V Pk Go.Proofs.YtjgekbmahhhokaaDoor.Vl Go.Proofs.YtjgekbmahhhokaaDoor.Nm
set_option linter.unusedVariables false
set_option linter.unusedSimpArgs false

section
variable {H : Type} {enc : TypeId × Value → H} {P : Program} {w : World} {base : Nat} {sp : Nat → Bool} {held : Bool}
end

structure Ph where
 k : Int
 t : Int
 a : Int
 b : Int
 row : List Vl
 to : Tw
 wh : Tw
 bare : Bool
def Ph.cs (p : Ph) : List D := [.v (.int .i64 p.k)] ++ ([.v (.int .i64 p.t)] ++ ([.v (.int .i64 p.a)] ++ ([.v (.int .i64 p.b)] ++ ([.list 3 (p.row.flatMap cV) p.row.length] ++ (p.to.cs ++ (p.wh.cs ++ [.v (.bool p.bare)]))))))
structure Ph.Ok (p : Ph) : Prop where
 k : -9223372036854775808 ≤ p.k ∧ p.k ≤ 9223372036854775807
 t : -9223372036854775808 ≤ p.t ∧ p.t ≤ 9223372036854775807
 a : -9223372036854775808 ≤ p.a ∧ p.a ≤ 9223372036854775807
 b : -9223372036854775808 ≤ p.b ∧ p.b ≤ 9223372036854775807
 row : ∀ v ∈ p.row, v.s.size ≤ maxLen
 to : p.to.Ok
 wh : p.wh.Ok
end Go.Proofs.YtjgekbmahhhokaaDoor.Pa

namespace Go.Proofs.YtjgekbmahhhokaaDoor.Pa
open Go.RowKit V Pk Go.Proofs.YtjgekbmahhhokaaDoor.Vl Go.Proofs.YtjgekbmahhhokaaDoor.Nm
set_option linter.unusedVariables false
set_option linter.unusedSimpArgs false

variable {G : List (Nat × List Value)}
theorem show_err (s : StL) : (ShowF s).2 = CheckF s := by
 unfold ShowF; split
 ·rfl
 have : CheckF s = 0 := by omega
 rw [this]
theorem show_ok {s : StL} (h : CheckF s = 0) : (ShowF s).1 = showS s := by unfold ShowF; rw [if_neg (by omega)]

end Go.Proofs.YtjgekbmahhhokaaDoor.Pa

namespace Go.Proofs.YtjgekbmahhhokaaDoor.Pa
open Go.RowKit V Pk Go.Proofs.YtjgekbmahhhokaaDoor.Vl Go.Proofs.YtjgekbmahhhokaaDoor.Nm
set_option linter.unusedVariables false
set_option linter.unusedSimpArgs false

variable {l : List Tk}
def W {α : Type} (l : List Tk) (r : Rs α) (Q : α → Nat → List OpL → Prop) : Prop := match r with
 | .ok v p ops => p ≤ l.length ∧ Q v p ops
 | .no p e => p ≤ l.length ∧ e ≠ 0
 | .stuck => True
theorem W.bind {α β : Type} {r : Rs α} {f : α → Nat → List OpL → Rs β} {Q' : α → Nat → List OpL → Prop} {Q : β → Nat → List OpL → Prop} (h : W l r Q') (k : ∀ v p ops, p ≤ l.length → Q' v p ops → W l (f v p ops) Q) : W l (r.bind f) Q := by
 cases r with
 | ok v p ops => exact k v p ops h.1 h.2
 | no p e => exact h
 | stuck => trivial
theorem W.mono {α : Type} {r : Rs α} {Q' Q : α → Nat → List OpL → Prop} (h : W l r Q') (k : ∀ v p ops, Q' v p ops → Q v p ops) : W l r Q := by
 cases r with
 | ok v p ops => exact ⟨h.1, k _ _ _ h.2⟩
 | no p e => exact h
 | stuck => trivial
theorem w_gv {α : Type} {p : Nat} {e : Int} {Q : α → Nat → List OpL → Prop} (hp : p ≤ l.length) (he : e ≠ 0) : W l (gv l p e : Rs α) Q := by
 unfold gv; refine ⟨hp, ?_⟩
 split
 ·decide
 exact he
theorem w_must : ∀ (ws : List ByteArray) {p : Nat} {ops : List OpL}, p ≤ l.length → W l (mustP l ws p ops) fun _ _ os => os = ops
 | [], p, ops, hp => ⟨hp, rfl⟩
 | s :: r, p, ops, hp => by
  unfold mustP; split
  ·exact w_must r (isQ_lt (by assumption))
  exact w_gv hp (by decide)
theorem w_mark {s : ByteArray} {p : Nat} {ops : List OpL} (hp : p ≤ l.length) : W l (markP l s p ops) fun _ _ os => os = ops := by
 unfold markP; split
 ·exact ⟨isQ_lt (by assumption), rfl⟩
 exact w_gv hp (by decide)
theorem w_name {p : Nat} {ops : List OpL} (hp : p ≤ l.length) : W l (nameP l p ops) fun s _ os => os = ops ∧ nameF s = 0 := by
 unfold nameP
 split
 ·split
  ·exact w_gv hp (by decide)
  split
  ·exact w_gv hp (by assumption)
  rename_i h _ h2
  exact ⟨h, rfl, by omega⟩
 exact w_gv hp (by decide)
def TG (l : List Tk) : Prop := ∀ t ∈ l, checkT t = 0 ∧ t.s.size ≤ maxLen ∧ t.n ≤ 9223372036854775807
theorem lit_int {x : Int} (h : x ≠ -9223372036854775808) : litF ⟨2, x, ⟨#[]⟩⟩ = 0 := by
 unfold litF; rw [if_neg (by intro h2; exact h h2.2)]; kernel_rfl
def LitOk (v : Vl) : Prop := litF v = 0 ∧ -9223372036854775807 ≤ v.n ∧ v.n ≤ 9223372036854775807
theorem lit_nul : LitOk noVl := ⟨by decide +kernel, by decide, by decide⟩
theorem at_mem {p : Nat} (h : p < l.length) : l.getD p ⟨0, ⟨#[]⟩, 0⟩ = l[p] := by rw [List.getD_eq_getElem?_getD, List.getElem?_eq_getElem h]; rfl
theorem w_lit (ht : TG l) {p : Nat} {ops : List OpL} (hp : p ≤ l.length) : W l (litP l p ops) fun v _ os => os = ops ∧ (v.2 = true → LitOk v.1) := by
 unfold litP
 split
 ·exact ⟨isQ_lt (by assumption), rfl, fun _ => lit_nul⟩
 split
 ·exact ⟨isQ_lt (by assumption), rfl, fun _ => ⟨by decide +kernel, by decide, by decide⟩⟩
 split
 ·exact ⟨isQ_lt (by assumption), rfl, fun _ => ⟨by decide +kernel, by decide, by decide⟩⟩
 split
 ·rename_i h
  split
  ·exact w_gv hp (by decide)
  rename_i h20
  exact ⟨h.1, rfl, fun _ => ⟨lit_txt (by omega), by show -9223372036854775807 ≤ (0 : Int); decide, by show (0 : Int) ≤ 9223372036854775807; decide⟩⟩
 split
 ·rename_i hq
  split
  ·rename_i h
   have hk : (l[p + 1]'h.1).k = 2 := by rw [← at_mem h.1]; exact h.2
   have hm := ht _ (List.getElem_mem h.1)
   have h0 := num_pos hm.1 hk
   refine ⟨h.1, rfl, fun _ => ⟨lit_int (by have := hm.2.2; omega), ?_, ?_⟩⟩
   ·show -9223372036854775807 ≤ -(l[p + 1]'h.1).n; have := hm.2.2; omega
   show -(l[p + 1]'h.1).n ≤ 9223372036854775807; omega
  exact w_gv (isQ_lt hq) (by decide)
 split
 ·rename_i h
  have hk : (l[p]'h.1).k = 2 := by rw [← at_mem h.1]; exact h.2
  have hm := ht _ (List.getElem_mem h.1)
  have h0 := num_pos hm.1 hk
  refine ⟨h.1, rfl, fun _ => ⟨lit_int (by omega), ?_, ?_⟩⟩
  ·show -9223372036854775807 ≤ (l[p]'h.1).n; omega
  exact hm.2.2
 exact ⟨hp, rfl, fun h => absurd h Bool.false_ne_true⟩
def GO (o : OpL) : Prop := o.nm.size ≤ maxLen ∧ -9223372036854775808 ≤ o.v.n ∧ o.v.n ≤ 9223372036854775807
def GOs (l : List OpL) : Prop := ∀ o ∈ l, GO o
theorem gos_nil : GOs [] := fun _ h => by cases h
theorem gos_app {a b : List OpL} (h : GOs a) (k : GOs b) : GOs (a ++ b) := fun o ho => (List.mem_append.1 ho).elim (h o) (k o)
theorem gos_one {o : OpL} (h : GO o) : GOs [o] := fun x hx => by rw [List.mem_singleton.1 hx]; exact h
theorem go_op (k : Int) : GO (opN k) := ⟨Nat.zero_le _, by show (-9223372036854775808 : Int) ≤ 0; decide, by show (0 : Int) ≤ 9223372036854775807; decide⟩
def E0 (a : List OpL) : Prop := ∀ (h : Int) (t : List OpL), 0 ≤ h → exprL h (a ++ t) = exprL (h + 1) t
def E1 (a : List OpL) : Prop := ∀ (h : Int) (t : List OpL), 1 ≤ h → exprL h (a ++ t) = exprL h t
theorem e1_nil : E1 [] := fun _ _ _ => rfl
theorem e1_app {a b : List OpL} (h : E1 a) (k : E1 b) : E1 (a ++ b) := fun n t hn => by rw [List.append_assoc, h n _ hn, k n t hn]
theorem e0_app {a b : List OpL} (h : E0 a) (k : E1 b) : E0 (a ++ b) := fun n t hn => by rw [List.append_assoc, h n _ hn, k _ t (by omega)]
theorem err_op {k h : Int} (hk : k = 3 ∨ k = 4 ∨ 5 ≤ k ∧ k ≤ 11) (hh : popsF k ≤ h) : opErr h (opN k) = 0 := by
 have h1 : zeroV (opN k).v = true := by show zeroV noVl = true; decide +kernel
 have h2 : ((opN k).nm.toList == (⟨#[]⟩ : ByteArray).toList) = true := by show ((⟨#[]⟩ : ByteArray).toList == _) = true; decide +kernel
 have hl : litF (opN k).v = 0 := by show litF noVl = 0; decide +kernel
 unfold opErr
 rw [h1, h2, hl, show (opN k).k = k from rfl, if_neg (by omega), if_neg (by simp), if_neg (by simp), if_neg (fun h3 => absurd h3.1 (by omega)), if_neg (by omega)]
theorem e1_un {k : Int} (hk : k = 5 ∨ k = 11) : E1 [opN k] := fun h t hh => by
 have hp : popsF k = 1 := by unfold popsF; rw [if_neg (by omega), if_pos hk]
 show exprL h (opN k :: t) = exprL h t
 rw [exprL, if_pos (err_op (by omega) (by omega))]
 show exprL (h + (1 - popsF k)) t = _
 rw [hp]; congr 1; omega
theorem e1_bin {k : Int} {a : List OpL} (hk : k = 3 ∨ k = 4 ∨ 6 ≤ k ∧ k ≤ 10) (ha : E0 a) : E1 (a ++ [opN k]) := fun h t hh => by
 have hp : popsF k = 2 := by unfold popsF; rw [if_neg (by omega), if_neg (by omega)]
 rw [List.append_assoc, ha h _ (by omega)]
 show exprL (h + 1) (opN k :: t) = exprL h t
 rw [exprL, if_pos (err_op (by omega) (by omega))]
 show exprL (h + 1 + (1 - popsF k)) t = _
 rw [hp]; congr 1; omega
theorem e0_lit {v : Vl} (hv : litF v = 0) : E0 [⟨1, v, ⟨#[]⟩⟩] := fun h t hh => by
 show exprL h (⟨1, v, ⟨#[]⟩⟩ :: t) = exprL (h + 1) t
 have he : opErr h ⟨1, v, ⟨#[]⟩⟩ = 0 := by
  unfold opErr
  rw [if_neg (show ¬ ((1 : Int) < 1 ∨ (1 : Int) > 11) by decide), if_neg (by simp [hv]), if_neg (by
   have h2 : ((⟨#[]⟩ : ByteArray).toList == (⟨#[]⟩ : ByteArray).toList) = true := by decide +kernel
   dsimp only; rw [h2]; simp), if_neg (fun h2 => absurd h2.1 (show ¬ (1 : Int) = 2 by decide)), if_neg (show ¬ h < popsF 1 by rw [show popsF 1 = 0 from rfl]; omega)]
 rw [exprL, if_pos he]
 show exprL (h + (1 - popsF 1)) t = _
 rw [show popsF 1 = 0 from rfl]; congr 1
theorem e0_col {s : ByteArray} (hs : nameF s = 0) : E0 [⟨2, noVl, s⟩] := fun h t hh => by
 show exprL h (⟨2, noVl, s⟩ :: t) = exprL (h + 1) t
 have he : opErr h ⟨2, noVl, s⟩ = 0 := by
  unfold opErr
  rw [if_neg (show ¬ ((2 : Int) < 1 ∨ (2 : Int) > 11) by decide), if_neg (by rw [show litF noVl = 0 by decide +kernel]; simp), if_neg (by
   have h1 : zeroV noVl = true := by decide +kernel
   dsimp only; rw [h1]; simp), if_neg (fun h2 => h2.2 hs), if_neg (show ¬ h < popsF 2 by rw [show popsF 2 = 0 from rfl]; omega)]
 rw [exprL, if_pos he]
 show exprL (h + (1 - popsF 2)) t = _
 rw [show popsF 2 = 0 from rfl]; congr 1
theorem w_put {o : OpL} {p : Nat} {ops : List OpL} (hp : p ≤ l.length) (h40 : ops.length ≤ 40) : W l (putP l o p ops) fun _ _ os => os = ops ++ [o] ∧ os.length ≤ 40 := by
 unfold putP; split
 ·exact w_gv (by omega) (by decide)
 exact ⟨hp, rfl, by rw [List.length_append]; simp; omega⟩
def Ad (E : List OpL → Prop) (ops os : List OpL) : Prop := ∃ new, os = ops ++ new ∧ os.length ≤ 40 ∧ GOs new ∧ E new
def lvE : Lv → List OpL → Prop
 | .prodL | .sumL | .andL | .orL => E1
 | _ => E0
theorem ad_nil {ops : List OpL} (h : ops.length ≤ 40) : Ad E1 ops ops := ⟨[], by simp, h, gos_nil, e1_nil⟩
theorem Ad.add {E : List OpL → Prop} {ops o1 o2 : List OpL} (h : Ad E ops o1) (hE : ∀ a b, E a → E1 b → E (a ++ b)) (k : Ad E1 o1 o2) : Ad E ops o2 := by
 obtain ⟨a, rfl, _, ha, ea⟩ := h
 obtain ⟨b, rfl, hb40, hb, eb⟩ := k
 exact ⟨a ++ b, by rw [List.append_assoc], hb40, gos_app ha hb, hE _ _ ea eb⟩
theorem Ad.bin {ops o1 o2 : List OpL} {k : Int} (hk : k = 3 ∨ k = 4 ∨ 6 ≤ k ∧ k ≤ 10) (h : Ad E0 ops o1) (h2 : o2 = o1 ++ [opN k] ∧ o2.length ≤ 40) : Ad E1 ops o2 := by
 obtain ⟨a, rfl, _, ha, ea⟩ := h
 obtain ⟨rfl, h40⟩ := h2
 exact ⟨a ++ [opN k], by rw [List.append_assoc], h40, gos_app ha (gos_one (go_op k)), e1_bin hk ea⟩
theorem Ad.un {ops o1 o2 : List OpL} {k : Int} (hk : k = 5 ∨ k = 11) (h : Ad E0 ops o1) (h2 : o2 = o1 ++ [opN k] ∧ o2.length ≤ 40) : Ad E0 ops o2 := by
 obtain ⟨a, rfl, _, ha, ea⟩ := h
 obtain ⟨rfl, h40⟩ := h2
 exact ⟨a ++ [opN k], by rw [List.append_assoc], h40, gos_app ha (gos_one (go_op k)), e0_app ea (e1_un hk)⟩
theorem Ad.le {E : List OpL → Prop} {ops os : List OpL} (h : Ad E ops os) : os.length ≤ 40 := by obtain ⟨_, _, h, _⟩ := h; exact h
theorem e1_cat (a b : List OpL) : E1 a → E1 b → E1 (a ++ b) := e1_app
theorem e0_cat (a b : List OpL) : E0 a → E1 b → E0 (a ++ b) := e0_app
theorem swap_app (ops a b : List OpL) : swapP (ops ++ a ++ b) ops.length (ops ++ a).length = ops ++ b ++ a := by
 unfold swapP
 rw [List.append_assoc ops a b, List.take_left, ← List.append_assoc, List.drop_left, List.take_left, List.drop_left]
theorem Ad.cmp {ops o1 o2 o3 : List OpL} {k : Int} {sw : Bool} (hk : k = 3 ∨ k = 4 ∨ 6 ≤ k ∧ k ≤ 10) (h : Ad E0 ops o1) (h2 : Ad E0 o1 o2) (h3 : o3 = (if sw = true then swapP o2 ops.length o1.length else o2) ++ [opN k] ∧ o3.length ≤ 40) : Ad E0 ops o3 := by
 obtain ⟨a, rfl, _, ha, ea⟩ := h
 obtain ⟨b, rfl, _, hb, eb⟩ := h2
 obtain ⟨rfl, h40⟩ := h3
 cases sw with
 | true =>
  rw [if_pos rfl, swap_app] at h40 ⊢
  exact ⟨b ++ (a ++ [opN k]), by simp only [List.append_assoc], h40, gos_app hb (gos_app ha (gos_one (go_op k))), e0_app eb (e1_bin hk ea)⟩
 | false =>
  rw [if_neg Bool.false_ne_true] at h40 ⊢
  exact ⟨a ++ (b ++ [opN k]), by simp only [List.append_assoc], h40, gos_app ha (gos_app hb (gos_one (go_op k))), e0_app ea (e1_bin hk eb)⟩
theorem swap_40 {ops o1 o2 : List OpL} {sw : Bool} (h : Ad E0 ops o1) (h2 : Ad E0 o1 o2) : (if sw = true then swapP o2 ops.length o1.length else o2).length ≤ 40 := by
 obtain ⟨a, rfl, _, _, _⟩ := h
 obtain ⟨b, rfl, h40, _, _⟩ := h2
 cases sw with
 | true => rw [if_pos rfl, swap_app]; simp at h40 ⊢; omega
 | false => exact h40
theorem marks_k : ∀ m ∈ marksP, m.2.1 = 3 ∨ m.2.1 = 4 ∨ 6 ≤ m.2.1 ∧ m.2.1 ≤ 10 := by decide
theorem w_loop {n p : Nat} {ops : List OpL} {c : Lv} {L : Lv} {k : Int} (hk : k = 3 ∨ k = 4 ∨ 6 ≤ k ∧ k ≤ 10) (hc : lvE c = E0) (hL : lvE L = E1) (ih : ∀ (lv : Lv) (p : Nat) (ops : List OpL), p ≤ l.length → ops.length ≤ 40 → W l (exP l n lv p ops) fun _ _ os => Ad (lvE lv) ops os) (hp : p ≤ l.length) (h40 : ops.length ≤ 40) :
  W l ((exP l n c p ops).bind fun _ p ops => (putP l (opN k) p ops).bind fun _ p ops => exP l n L p ops) fun _ _ os => Ad E1 ops os := by
 refine (ih c p ops hp h40).bind fun _ p1 o1 h1 a1 => ?_
 rw [hc] at a1
 refine (w_put h1 a1.le).bind fun _ p2 o2 h2 a2 => ?_
 have b := Ad.bin hk a1 a2
 refine (ih L p2 o2 h2 b.le).mono fun _ _ os a3 => ?_
 rw [hL] at a3
 exact b.add e1_cat a3
theorem w_two {n p : Nat} {ops : List OpL} {c : Lv} {L : Lv} (hc : lvE c = E0) (hL : lvE L = E1) (ih : ∀ (lv : Lv) (p : Nat) (ops : List OpL), p ≤ l.length → ops.length ≤ 40 → W l (exP l n lv p ops) fun _ _ os => Ad (lvE lv) ops os) (hp : p ≤ l.length) (h40 : ops.length ≤ 40) :
  W l ((exP l n c p ops).bind fun _ p ops => exP l n L p ops) fun _ _ os => Ad E0 ops os := by
 refine (ih c p ops hp h40).bind fun _ p1 o1 h1 a1 => ?_
 rw [hc] at a1
 refine (ih L p1 o1 h1 a1.le).mono fun _ _ os a3 => ?_
 rw [hL] at a3
 exact a1.add e0_cat a3
theorem ex_w (ht : TG l) : ∀ (n : Nat) (lv : Lv) (p : Nat) (ops : List OpL), p ≤ l.length → ops.length ≤ 40 → W l (exP l n lv p ops) fun _ _ os => Ad (lvE lv) ops os
 | 0, _, _, _, _, _ => by unfold exP; trivial
 | n + 1, .prim, p, ops, hp, h40 => by
  rw [prim_eq]
  refine (w_lit ht hp).bind fun v p1 o1 h1 ⟨e1, hv⟩ => ?_
  subst e1
  split
  ·rename_i hv2
   have hl := hv hv2
   exact (w_put h1 h40).mono fun _ _ os a => ⟨_, a.1, a.2, gos_one ⟨Nat.zero_le _, by have := hl.2.1; dsimp only; omega, hl.2.2⟩, e0_lit hl.1⟩
  split
  ·refine (ex_w ht n .or _ o1 (isQ_lt (by assumption)) h40).bind fun _ p2 o2 h2 a2 => ?_
   exact (w_mark h2).mono fun _ _ os a => by rw [a]; exact a2
  refine (w_name h1).bind fun s p2 o2 h2 ⟨e2, hs⟩ => ?_
  subst e2
  exact (w_put h2 h40).mono fun _ _ os a => ⟨_, a.1, a.2, gos_one ⟨small hs, by show (-9223372036854775808 : Int) ≤ 0; decide, by show (0 : Int) ≤ 9223372036854775807; decide⟩, e0_col hs⟩
 | n + 1, .prod, p, ops, hp, h40 => by rw [prod_eq]; exact w_two rfl rfl (ex_w ht n) hp h40
 | n + 1, .prodL, p, ops, hp, h40 => by
  rw [prodL_eq]; split
  ·exact w_loop (.inr (.inr (by decide))) rfl rfl (ex_w ht n) (isQ_lt (by assumption)) h40
  exact ⟨hp, ad_nil h40⟩
 | n + 1, .sum, p, ops, hp, h40 => by rw [sum_eq]; exact w_two rfl rfl (ex_w ht n) hp h40
 | n + 1, .sumL, p, ops, hp, h40 => by
  rw [sumL_eq]; split
  ·exact w_loop (.inr (.inr (by decide))) rfl rfl (ex_w ht n) (isQ_lt (by assumption)) h40
  split
  ·exact w_loop (.inr (.inr (by decide))) rfl rfl (ex_w ht n) (isQ_lt (by assumption)) h40
  exact ⟨hp, ad_nil h40⟩
 | n + 1, .comp, p, ops, hp, h40 => by
  rw [comp_eq]
  refine (ex_w ht n .sum p ops hp h40).bind fun _ p1 o1 h1 a1 => ?_
  unfold compK
  split
  ·rename_i hq
   refine (w_must (l := l) [wNULL] (p := if isQ l (p1 + 1) 1 ⟨#[78, 79, 84]⟩ = true then p1 + 2 else p1 + 1) (ops := o1) (by
    split
    ·exact isQ_lt (by assumption)
    exact isQ_lt hq)).bind fun _ p2 o2 h2 e2 => ?_
   subst e2
   refine (w_put h2 a1.le).bind fun _ p3 o3 h3 a3 => ?_
   have b := Ad.un (.inr rfl) a1 a3
   split
   ·exact (w_put h3 a3.2).mono fun _ _ os a4 => Ad.un (.inl rfl) b a4
   exact ⟨h3, b⟩
  split
  ·exact ⟨h1, a1⟩
  rename_i m hm
  have hq := List.find?_some hm
  refine (ex_w ht n .sum (p1 + 1) o1 (isQ_lt hq) a1.le).bind fun _ p2 o2 h2 a2 => ?_
  refine (w_put h2 (swap_40 a1 a2)).bind fun _ p3 o3 h3 a3 => ?_
  have b := Ad.cmp (marks_k m (List.mem_of_find?_eq_some hm)) a1 a2 a3
  split
  ·exact (w_put h3 a3.2).mono fun _ _ os a4 => Ad.un (.inl rfl) b a4
  exact ⟨h3, b⟩
 | n + 1, .not, p, ops, hp, h40 => by
  rw [not_eq]; split
  ·refine (ex_w ht n .not (p + 1) ops (isQ_lt (by assumption)) h40).bind fun _ p1 o1 h1 a1 => ?_
   exact (w_put h1 a1.le).mono fun _ _ os a2 => Ad.un (.inl rfl) a1 a2
  exact ex_w ht n .comp p ops hp h40
 | n + 1, .and, p, ops, hp, h40 => by rw [and_eq]; exact w_two rfl rfl (ex_w ht n) hp h40
 | n + 1, .andL, p, ops, hp, h40 => by
  rw [andL_eq]; split
  ·exact w_loop (.inl rfl) rfl rfl (ex_w ht n) (isQ_lt (by assumption)) h40
  exact ⟨hp, ad_nil h40⟩
 | n + 1, .or, p, ops, hp, h40 => by rw [or_eq]; exact w_two rfl rfl (ex_w ht n) hp h40
 | n + 1, .orL, p, ops, hp, h40 => by
  rw [orL_eq]; split
  ·exact w_loop (.inr (.inl rfl)) rfl rfl (ex_w ht n) (isQ_lt (by assumption)) h40
  exact ⟨hp, ad_nil h40⟩
def XOk (w : List OpL) : Prop := w.length ≤ 40 ∧ GOs w ∧ exprL 0 w = 0
theorem w_expr (ht : TG l) {p : Nat} (hp : p ≤ l.length) : W l (exprP l p) fun w _ _ => XOk w := by
 unfold exprP
 refine (ex_w ht _ .or p [] hp (Nat.zero_le _)).bind fun _ p1 o1 h1 a1 => ⟨h1, ?_⟩
 obtain ⟨new, e, h40, hg, he⟩ := a1
 rw [List.nil_append] at e
 subst e
 refine ⟨h40, hg, ?_⟩
 have := he 0 [] (Int.le_refl _)
 rw [List.append_nil] at this
 rw [this]; rfl
def WhOk (w : List OpL) : Prop := w.length ≤ 40 ∧ GOs w ∧ whereF w = 0
theorem w_where (ht : TG l) {p : Nat} {ops : List OpL} (hp : p ≤ l.length) : W l (whereP l p ops) fun w _ _ => WhOk w := by
 unfold whereP; split
 ·refine (w_expr ht (isQ_lt (by assumption))).mono fun w _ _ h => ⟨h.1, h.2.1, ?_⟩
  unfold whereF exprF
  split
  ·rfl
  rw [if_neg (by have := h.1; omega)]; exact h.2.2
 exact ⟨hp, Nat.zero_le _, gos_nil, rfl⟩

end Go.Proofs.YtjgekbmahhhokaaDoor.Pa

namespace Go.Proofs.YtjgekbmahhhokaaDoor.Pa
open Go.RowKit V Pk Go.Proofs.YtjgekbmahhhokaaDoor.Vl Go.Proofs.YtjgekbmahhhokaaDoor.Nm
set_option linter.unusedVariables false
set_option linter.unusedSimpArgs false

variable {l : List Tk}
theorem colsA_snoc : ∀ (a pre : List ColL) (c : ColL), colsA pre a = 0 → colF (pre ++ a) c = 0 → colsA pre (a ++ [c]) = 0
 | [], pre, c, _, h => by
  rw [List.append_nil] at h
  show (if colF pre c ≠ 0 then colF pre c else colsA (pre ++ [c]) []) = 0
  rw [if_neg (by rw [h]; decide)]; rfl
 | x :: a, pre, c, h1, h2 => by
  have h1 : (if colF pre x ≠ 0 then colF pre x else colsA (pre ++ [x]) a) = 0 := h1
  show (if colF pre x ≠ 0 then colF pre x else colsA (pre ++ [x]) (a ++ [c])) = 0
  by_cases h0 : colF pre x ≠ 0
  ·rw [if_pos h0] at h1; exact absurd h1 h0
  rw [if_neg h0] at h1 ⊢
  exact colsA_snoc a _ c h1 (by rw [List.append_assoc]; exact h2)
theorem kind_bd {p : Nat} : 0 ≤ kindP l p ∧ kindP l p ≤ 3 ∧ (kindP l p ≠ 0 → p < l.length) := by
 unfold kindP
 split
 ·exact ⟨by decide, by decide, fun _ => isQ_lt (by assumption)⟩
 split
 ·exact ⟨by decide, by decide, fun _ => isQ_lt (by assumption)⟩
 split
 ·exact ⟨by decide, by decide, fun _ => isQ_lt (by assumption)⟩
 exact ⟨by decide, by decide, fun h => absurd rfl h⟩
def COk (c : List ColL) : Prop := colsF c = 0 ∧ c.length ≤ 6 ∧ ∀ x ∈ c, x.n.size ≤ maxLen
theorem cok {c : List ColL} (h1 : 1 ≤ c.length) (h6 : c.length ≤ 6) (h : colsA [] c = 0) : COk c := by
 have hc : colsF c = 0 := by unfold colsF; rw [if_neg (by omega)]; exact h
 exact ⟨hc, h6, fun x hx => small ((cols_good hc).2 x hx).1⟩
theorem w_cols : ∀ (n : Nat) (out : List ColL) {p : Nat} {ops : List OpL}, p ≤ l.length → out.length ≤ 6 → colsA [] out = 0 → W l (colsP l n out p ops) fun c _ _ => COk c
 | 0, _, _, _, _, _, _ => trivial
 | n + 1, out, p, ops, hp, h6, hc => by
  unfold colsP
  split
  ·exact w_gv hp (by decide)
  rename_i hn6
  refine (w_name hp).bind fun s p1 o1 h1 ⟨_, hs⟩ => ?_
  split
  ·exact w_gv (by omega) (by decide)
  rename_i hd
  split
  ·exact w_gv h1 (by decide)
  rename_i hk
  have kb := kind_bd (l := l) (p := p1)
  have hsn : colsA [] (out ++ [⟨s, kindP l p1⟩]) = 0 := by
   refine colsA_snoc _ _ _ hc ?_
   rw [List.nil_append]
   unfold colF
   rw [if_neg (by rw [hs]; decide), if_neg (show ¬ (kindP l p1 < 1 ∨ kindP l p1 > 3) by omega)]
   exact if_neg hd
  have hlen : (out ++ [(⟨s, kindP l p1⟩ : ColL)]).length = out.length + 1 := by simp
  split
  ·exact w_cols n _ (isQ_lt (by assumption)) (by omega) hsn
  refine (w_mark (kb.2.2 hk)).bind fun _ p3 o3 h3 _ => ⟨h3, cok (by omega) (by omega) hsn⟩
theorem first_all {α : Type} {f : α → Int} : ∀ {a : List α}, (∀ x ∈ a, f x = 0) → firstE f a = 0
 | [], _ => rfl
 | x :: r, h => by
  rw [firstE, if_neg (by rw [h x List.mem_cons_self]; decide)]
  exact first_all fun y hy => h y (List.mem_cons_of_mem _ hy)
def ROk (r : List Vl) : Prop := rowF r = 0 ∧ r.length ≤ 6 ∧ ∀ v ∈ r, -9223372036854775808 ≤ v.n ∧ v.n ≤ 9223372036854775807
theorem w_row (ht : TG l) : ∀ (n : Nat) (out : List Vl) {p : Nat} {ops : List OpL}, p ≤ l.length → out.length ≤ 6 → (∀ v ∈ out, LitOk v) → W l (rowP l n out p ops) fun r _ _ => ROk r
 | 0, _, _, _, _, _, _ => trivial
 | n + 1, out, p, ops, hp, h6, hc => by
  unfold rowP
  split
  ·exact w_gv hp (by decide)
  rename_i hn6
  refine (w_lit ht hp).bind fun v p1 o1 h1 ⟨_, hv⟩ => ?_
  split
  ·exact w_gv h1 (by decide)
  rename_i hv2
  have hl := hv (by simpa using hv2)
  have hall : ∀ x ∈ out ++ [v.1], LitOk x := fun x hx => by
   rcases List.mem_append.1 hx with hx | hx
   ·exact hc x hx
   rw [List.mem_singleton.1 hx]; exact hl
  have hlen : (out ++ [v.1]).length = out.length + 1 := by simp
  split
  ·exact w_row ht n _ (isQ_lt (by assumption)) (by omega) hall
  refine (w_mark h1).bind fun _ p3 o3 h3 _ => ⟨h3, ?_, by omega, fun x hx => ?_⟩
  ·unfold rowF; rw [if_neg (by omega)]; exact first_all fun x hx => (hall x hx).1
  have := (hall x hx).2; omega
def NOk (n : List ByteArray) : Prop := n.length ≤ 6 ∧ ∀ x ∈ n, nameF x = 0
theorem w_names : ∀ (n : Nat) (out : List ByteArray) {p : Nat} {ops : List OpL}, p ≤ l.length → NOk out → W l (namesP l n out p ops) fun r _ _ => NOk r
 | 0, _, _, _, _, _ => trivial
 | n + 1, out, p, ops, hp, hc => by
  unfold namesP
  split
  ·exact w_gv hp (by decide)
  rename_i hn6
  refine (w_name hp).bind fun s p1 o1 h1 ⟨_, hs⟩ => ?_
  have hall : NOk (out ++ [s]) := ⟨by have := hc.1; simp; omega, fun x hx => by
   rcases List.mem_append.1 hx with hx | hx
   ·exact hc.2 x hx
   rw [List.mem_singleton.1 hx]; exact hs⟩
  split
  ·exact w_names n _ (isQ_lt (by assumption)) hall
  exact ⟨h1, hall⟩
theorem w_head {p : Nat} {ops : List OpL} (hp : p ≤ l.length) : W l (headP l p ops) fun h _ _ => NOk h.1 ∧ (h.2 = true → h.1 = []) := by
 unfold headP
 split
 ·exact ⟨isQ_lt (by assumption), ⟨Nat.zero_le _, fun _ h => by cases h⟩, fun _ => rfl⟩
 split
 ·exact (w_mark (isQ_lt (by assumption))).bind fun _ _ _ h1 _ => (w_mark h1).bind fun _ _ _ h2 _ => (w_mark h2).bind fun _ _ _ h3 _ => ⟨h3, ⟨Nat.zero_le _, fun _ h => by cases h⟩, fun _ => rfl⟩
 exact (w_names 8 [] hp ⟨Nat.zero_le _, fun _ h => by cases h⟩).bind fun ns _ _ h1 hn => ⟨h1, hn, fun h => absurd h Bool.false_ne_true⟩
def GoodP (s : StL) : Prop := FinS s ∧ 1 ≤ s.kind ∧ s.kind ≤ 9 ∧ s.limit ≤ 9223372036854775807 ∧ checkS s = 0
def SelOk (t : ByteArray) (N : List ByteArray) (c : Bool) (w : List OpL) (s : StL) : Prop := ∃ o d m, s = { st0 with kind := 4, table := t, names := N, count := c, wher := w, order := o, down := d, limit := m } ∧ (o = ⟨#[]⟩ ∨ nameF o = 0) ∧ (o = ⟨#[]⟩ → d = false) ∧ -1 ≤ m ∧ m ≤ 9223372036854775807
theorem name_pos {s : ByteArray} (h : nameF s = 0) : s ≠ ⟨#[]⟩ := fun e => by rw [e] at h; exact absurd h (by decide +kernel)
theorem w_tail (ht : TG l) {t : ByteArray} {N : List ByteArray} {c : Bool} {w : List OpL} {p : Nat} {ops : List OpL} (hp : p ≤ l.length) : W l (tailP l { st0 with kind := 4, names := N, count := c, table := t, wher := w } p ops) fun s _ _ => SelOk t N c w s := by
 have hlim : ∀ (o : ByteArray) (d : Bool) (p : Nat) (ops : List OpL), p ≤ l.length → (o = ⟨#[]⟩ ∨ nameF o = 0) → (o = ⟨#[]⟩ → d = false) → W l (limP l { st0 with kind := 4, names := N, count := c, table := t, wher := w, order := o, down := d } p ops) fun s _ _ => SelOk t N c w s := by
  intro o d p ops hp ho hd
  unfold limP
  split
  ·rename_i hq
   split
   ·rename_i h
    have hk : (l[p + 1]'h.1).k = 2 := by rw [← at_mem h.1]; exact h.2
    have hm := ht _ (List.getElem_mem h.1)
    have h0 := num_pos hm.1 hk
    exact ⟨h.1, o, d, _, rfl, ho, hd, by omega, hm.2.2⟩
   exact w_gv (isQ_lt hq) (by decide)
  exact ⟨hp, o, d, -1, rfl, ho, hd, by decide, by decide⟩
 have hord : W l (ordP l { st0 with kind := 4, names := N, count := c, table := t, wher := w } p ops) fun s _ _ => ∃ o d, s = { st0 with kind := 4, names := N, count := c, table := t, wher := w, order := o, down := d } ∧ (o = ⟨#[]⟩ ∨ nameF o = 0) ∧ (o = ⟨#[]⟩ → d = false) := by
  unfold ordP
  split
  ·refine (w_must _ (isQ_lt (by assumption))).bind fun _ p1 o1 h1 _ => (w_name h1).bind fun n p2 o2 h2 ⟨_, hn⟩ => ⟨?_, n, _, rfl, .inr hn, fun h => absurd h (name_pos hn)⟩
   split
   ·exact isQ_lt (by assumption)
   exact h2
  exact ⟨hp, ⟨#[]⟩, false, rfl, .inl rfl, fun _ => rfl⟩
 unfold tailP
 exact hord.bind fun s p1 o1 h1 ⟨o, d, e, ho, hd⟩ => by rw [e]; exact hlim o d p1 o1 h1 ho hd
theorem fin_of {s : StL} (ok : okS s) (t : s.table.size ≤ maxLen) (c : ∀ c ∈ s.cols, c.n.size ≤ maxLen) (n : ∀ x ∈ s.names, nameF x = 0) (o : s.order.size ≤ maxLen) (e : s.set.size ≤ maxLen) (r : ∀ v ∈ s.row, -9223372036854775808 ≤ v.n ∧ v.n ≤ 9223372036854775807) (w : GOs s.wher) (x : GOs s.to) : FinS s :=
 ⟨ok, t, c, fun x hx => small (n x hx), o, e, r, w, x⟩
theorem good_sel {t : ByteArray} (ht : nameF t = 0) {N : List ByteArray} (hN : NOk N) {c : Bool} (hc : c = true → N = []) {w : List OpL} (hw : WhOk w) {s : StL} (h : SelOk t N c w s) : GoodP s := by
 obtain ⟨o, d, m, rfl, ho, hd, hm, hm2⟩ := h
 have hos : o.size ≤ maxLen := by
  rcases ho with rfl | h
  ·exact Nat.zero_le _
  exact small h
 refine ⟨fin_of ⟨Nat.zero_le _, Nat.zero_le _, hN.1, hw.1, Nat.zero_le _⟩ (small ht) (fun _ h => by cases h) hN.2 hos (Nat.zero_le _) (fun _ h => by cases h) hw.2.1 gos_nil, by show (1 : Int) ≤ 4; decide, by show (4 : Int) ≤ 9; decide, hm2, check_mk ht ?_ kr_⟩
 show pickF { st0 with kind := 4, table := t, names := N, count := c, wher := w, order := o, down := d, limit := m } = 0
 have hn0 : firstE nameF N = 0 := first_all hN.2
 have hN1 := hN.1
 have hw0 := hw.2.2
 unfold pickF
 dsimp only
 rw [if_neg (by omega), if_neg (by omega), if_neg (by
  rintro (⟨h1, h2⟩ | ⟨h1, h2⟩)
  ·rw [hc h1] at h2; simp at h2
  rw [hd (eqS_iff.1 h2)] at h1; cases h1), if_neg (by rw [hn0]; decide), if_neg (by rw [hw0]; decide)]
 split
 ·rfl
 rename_i h2
 exact ho.resolve_left fun h => h2 (eqS_iff.2 h)
theorem good_create {t : ByteArray} (ht : nameF t = 0) {c : List ColL} (h : COk c) : GoodP { st0 with kind := 1, table := t, cols := c } :=
 ⟨fin_of ⟨h.2.1, Nat.zero_le _, Nat.zero_le _, Nat.zero_le _, Nat.zero_le _⟩ (small ht) h.2.2 (fun _ h => by cases h) (Nat.zero_le _) (Nat.zero_le _) (fun _ h => by cases h) gos_nil gos_nil, by show (1 : Int) ≤ 1; decide, by show (1 : Int) ≤ 9; decide, by show (-1 : Int) ≤ _; decide, check_mk ht (show colsF c = 0 from h.1) kr_⟩
theorem good_drop {t : ByteArray} (ht : nameF t = 0) : GoodP { st0 with kind := 2, table := t } :=
 ⟨fin_of ⟨Nat.zero_le _, Nat.zero_le _, Nat.zero_le _, Nat.zero_le _, Nat.zero_le _⟩ (small ht) (fun _ h => by cases h) (fun _ h => by cases h) (Nat.zero_le _) (Nat.zero_le _) (fun _ h => by cases h) gos_nil gos_nil, by show (1 : Int) ≤ 2; decide, by show (2 : Int) ≤ 9; decide, by show (-1 : Int) ≤ _; decide, check_mk ht kr_ kr_⟩
theorem good_insert {t : ByteArray} (ht : nameF t = 0) {r : List Vl} (h : ROk r) : GoodP { st0 with kind := 3, table := t, row := r } :=
 ⟨fin_of ⟨Nat.zero_le _, h.2.1, Nat.zero_le _, Nat.zero_le _, Nat.zero_le _⟩ (small ht) (fun _ h => by cases h) (fun _ h => by cases h) (Nat.zero_le _) (Nat.zero_le _) h.2.2 gos_nil gos_nil, by show (1 : Int) ≤ 3; decide, by show (3 : Int) ≤ 9; decide, by show (-1 : Int) ≤ _; decide, check_mk ht (show rowF r = 0 from h.1) kr_⟩
theorem good_update {t c : ByteArray} (ht : nameF t = 0) (hc : nameF c = 0) {e w : List OpL} (he : XOk e) (hw : WhOk w) : GoodP { st0 with kind := 5, table := t, set := c, to := e, wher := w } :=
 ⟨fin_of ⟨Nat.zero_le _, Nat.zero_le _, Nat.zero_le _, hw.1, he.1⟩ (small ht) (fun _ h => by cases h) (fun _ h => by cases h) (Nat.zero_le _) (small hc) (fun _ h => by cases h) hw.2.1 he.2.1, by show (1 : Int) ≤ 5; decide, by show (5 : Int) ≤ 9; decide, by show (-1 : Int) ≤ _; decide, check_mk ht (by
  show (if nameF c = 0 then (if exprF e = 0 then whereF w else exprF e) else nameF c) = 0
  have hx : exprF e = 0 := by unfold exprF; rw [if_neg (by have := he.1; omega)]; exact he.2.2
  rw [if_pos hc, if_pos hx, hw.2.2]) kr_⟩
theorem good_delete {t : ByteArray} (ht : nameF t = 0) {w : List OpL} (hw : WhOk w) : GoodP { st0 with kind := 6, table := t, wher := w } :=
 ⟨fin_of ⟨Nat.zero_le _, Nat.zero_le _, Nat.zero_le _, hw.1, Nat.zero_le _⟩ (small ht) (fun _ h => by cases h) (fun _ h => by cases h) (Nat.zero_le _) (Nat.zero_le _) (fun _ h => by cases h) hw.2.1 gos_nil, by show (1 : Int) ≤ 6; decide, by show (6 : Int) ≤ 9; decide, by show (-1 : Int) ≤ _; decide, check_mk ht (show whereF w = 0 from hw.2.2) kr_⟩
theorem good_end {k : Int} (h : k = 7 ∨ k = 8 ∨ k = 9) : GoodP { st0 with kind := k } := by
 refine ⟨fin_of ⟨Nat.zero_le _, Nat.zero_le _, Nat.zero_le _, Nat.zero_le _, Nat.zero_le _⟩ (Nat.zero_le _) (fun _ h => by cases h) (fun _ h => by cases h) (Nat.zero_le _) (Nat.zero_le _) (fun _ h => by cases h) gos_nil gos_nil, by show 1 ≤ k; omega, by show k ≤ 9; omega, by show (-1 : Int) ≤ _; decide, ?_⟩
 rcases h with rfl | rfl | rfl <;> kernel_rfl
theorem st_w (ht : TG l) : W l (stP l 0 []) fun s _ _ => GoodP s := by
 unfold stP
 split
 ·exact (w_must _ (isQ_lt (by assumption))).bind fun _ _ _ h1 _ => (w_name h1).bind fun t _ _ h2 ⟨_, hn⟩ => W.bind (by unfold colsB; exact (w_mark h2).bind fun _ _ _ h3 _ => w_cols 8 [] h3 (Nat.zero_le _) rfl) fun c _ _ h4 hc => ⟨h4, good_create hn hc⟩
 split
 ·exact (w_must _ (isQ_lt (by assumption))).bind fun _ _ _ h1 _ => (w_name h1).bind fun t _ _ h2 ⟨_, hn⟩ => ⟨h2, good_drop hn⟩
 split
 ·exact (w_must _ (isQ_lt (by assumption))).bind fun _ _ _ h1 _ => (w_name h1).bind fun t _ _ h2 ⟨_, hn⟩ => (w_must _ h2).bind fun _ _ _ h3 _ => W.bind (by unfold rowB; exact (w_mark h3).bind fun _ _ _ h4 _ => w_row ht 8 [] h4 (Nat.zero_le _) (fun _ h => by cases h)) fun r _ _ h5 hr => ⟨h5, good_insert hn hr⟩
 split
 ·unfold pickP
  exact (w_head (isQ_lt (by assumption))).bind fun h _ _ h1 ⟨hN, hc⟩ => by
   unfold pickK
   exact (w_must _ h1).bind fun _ _ _ h2 _ => (w_name h2).bind fun t _ _ h3 ⟨_, hn⟩ => (w_where ht h3).bind fun w _ _ h4 hw => (w_tail ht h4).mono fun s _ _ hs => good_sel hn hN hc hw hs
 split
 ·exact (w_name (isQ_lt (by assumption))).bind fun t _ _ h1 ⟨_, hn⟩ => (w_must _ h1).bind fun _ _ _ h2 _ => (w_name h2).bind fun c _ _ h3 ⟨_, hc⟩ => (w_mark h3).bind fun _ _ _ h4 _ => (w_expr ht h4).bind fun e _ _ h5 he => (w_where ht h5).bind fun w _ _ h6 hw => ⟨h6, good_update hn hc he hw⟩
 split
 ·exact (w_must _ (isQ_lt (by assumption))).bind fun _ _ _ h1 _ => (w_name h1).bind fun t _ _ h2 ⟨_, hn⟩ => (w_where ht h2).bind fun w _ _ h3 hw => ⟨h3, good_delete hn hw⟩
 split
 ·exact ⟨isQ_lt (by assumption), good_end (.inl rfl)⟩
 split
 ·exact ⟨isQ_lt (by assumption), good_end (.inr (.inl rfl))⟩
 split
 ·exact ⟨isQ_lt (by assumption), good_end (.inr (.inr rfl))⟩
 exact w_gv (Nat.zero_le _) (by decide)
theorem bad_lt : ∀ {l : List Tk} {i j : Nat} {e : Int}, badTk l i = some (j, e) → j < i + l.length ∧ e ≠ 0
 | [], _, _, _, h => by cases h
 | t :: r, i, j, e, h => by
  unfold badTk at h
  split at h
  ·have := bad_lt h
   simp; omega
  obtain ⟨rfl, rfl⟩ := Prod.mk.inj (Option.some.inj h)
  exact ⟨by simp, by assumption⟩
theorem parse_fix {l : List Tk} (ht : ∀ t ∈ l, t.s.size ≤ maxLen ∧ t.n ≤ 9223372036854775807) : (∃ s, parseF l = (s, 0, 0) ∧ GoodP s) ∨ (∃ p e, parseF l = (stZ, p, e) ∧ p ≤ l.length ∧ e ≠ 0) := by
 by_cases h100 : l.length > 100
 ·exact .inr ⟨0, 10, parse_big h100, Nat.zero_le _, by decide⟩
 cases hb : badTk l 0 with
 | some q =>
  obtain ⟨i, e⟩ := q
  have := bad_lt hb
  exact .inr ⟨i, e, parse_bad (by omega) hb, by omega, this.2⟩
 | none =>
  have hw := st_w (l := l) fun t h => ⟨bad_none hb t h, ht t h⟩
  cases hs : stP l 0 [] with
  | ok s p os =>
   rw [hs] at hw
   by_cases hp : p < l.length
   ·exact .inr ⟨p, _, parse_more (by omega) hb hs hp, by omega, by rw [if_neg (by omega)]; decide⟩
   exact .inl ⟨s, parse_ok (by omega) hb hs hp, hw.2⟩
  | no p e => rw [hs] at hw; exact .inr ⟨p, e, parse_no (by omega) hb hs, hw.1, hw.2⟩
  | stuck => exact absurd hs ns_st

end Go.Proofs.YtjgekbmahhhokaaDoor.Pa
