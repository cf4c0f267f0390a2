/-
  What the proof of ParseMore leans on, part 6 of 6: walks of the program's functions at the level of values, and plain facts of what they compute.
-/
import Derived.Test.YtjgekbmahhhokaaDoorPParseMore5
namespace Go.Proofs.YtjgekbmahhhokaaDoor.Pa
open Go.RowKit V Pk Go.Proofs.YtjgekbmahhhokaaDoor.Vl Go.Proofs.YtjgekbmahhhokaaDoor.Nm
set_option linter.unusedVariables false
set_option linter.unusedSimpArgs false

variable {G : List (Nat × List Value)}

set_option maxHeartbeats 4000000 in
set_option maxRecDepth 100000 in
theorem wordOf_vp (k t a b : Int) (row : List Vl) (x1 x2 : Int) (x3 : ByteArray) (ts1 : List Tw) (y1 y2 : Int) (y3 : ByteArray) (ts2 : List Tw) (bare : Bool) : VP Tryd.prog G 30 [.agg [.v (.int .i64 k), .v (.int .i64 t), .v (.int .i64 a), .v (.int .i64 b), .list 3 (row.flatMap cV) row.length, .v (.int .i64 x1), .v (.int .i64 x2), .v (.string x3), .list 4 (Tw.css ts1) ts1.length, .v (.int .i64 y1), .v (.int .i64 y2), .v (.string y3), .list 4 (Tw.css ts2) ts2.length, .v (.bool bare)]] (.v (.string (wordOfL row))) := by
 refine VC.body Tryd.func30 rfl Tryd.ntmps30 le_ fun X0 w0 S00 => ?_
 refine sr_ ?_
 refine OD.box (ds := [_, _, _, _, _, _, _, _, _, _, _, _, _, _]) wp_ rfl rfl ot rfl rfl (fun b1 => ?_)
 refine om_ ?_
 refine on_ [(1, _)] [⟨b1, 47, 14, [_, _, _, _, _, _, _, _, _, _, _, _, _, _]⟩] ?_
 refine CD.seq ?_
 refine sr_ ?_
 refine os_ (fa_ 4) ?_
 refine os_ (lb_ 0) ?_
 refine os_ ln_ ?_
 refine os_ bn_ ?_
 refine nm_ [1, 6] ?_
 refine CD.cond ot (fun hc0 => ?_) (fun hc0 => ?_)
 ·have hc0' := hc0
  (try simp only [V.cnd, ne_eq] at hc0')
  obtain ⟨v, r, rfl⟩ : ∃ v r, row = v :: r := by (cases row; simp at hc0; exact ⟨_, _, rfl⟩)
  refine sr_ ?_
  refine os_ (fa_ 4) ?_
  refine os_ (lb_ 0) ?_
  refine os_ (still_r2 (mk := Op.indexAddr 42) rfl ot opd_const (by first | exact ix_list Tryd.runUnderlying42 Tryd.sizeOf57 (j := 0) rfl (by simp) | exact ix_row Tryd.runUnderlying42 Tryd.sizeOf57 (j := 0) rfl (by simp))) ?_
  refine os_ (fa_ 2) ?_
  refine os_ (still_r1 (mk := Op.load 9) rfl ot (by exact ld_fm (i := 0) (j := 2) cV_len Tryd.isAgg9 (by simp) rfl)) ?_
  refine om_ ?_
  refine on_ [(2, _)] [⟨b1, 47, 14, [_, _, _, _, _, _, _, _, _, _, _, _, _, _]⟩] ?_
  refine CD.ret ?_
  refine ⟨.inr rfl, rt_ Tryd.results30 ?_⟩
  exact ⟨rfl, rfl⟩
 have hc0' := hc0
 (try simp only [V.cnd, ne_eq] at hc0')
 obtain rfl : row = [] := List.eq_nil_of_length_eq_zero (by simp at hc0; simp [hc0])
 refine CD.skip ?_
 refine sr_ ?_
 refine om_ ?_
 refine nm_ [2] ?_
 refine CD.ret ?_
 refine r1_ ?_
 exact ⟨rfl, rfl⟩

theorem places32_Pg2 : ∀ w, ((#[{ name := "Kind", type := 3, offset := 0, embedded := false, tag := "", pkgPath := "", byteOffset := 0 }, { name := "Table", type := 9, offset := 1, embedded := false, tag := "", pkgPath := "", byteOffset := 8 }, { name := "Cols", type := 27, offset := 2, embedded := false, tag := "", pkgPath := "", byteOffset := 24 }, { name := "Row", type := 28, offset := 3, embedded := false, tag := "", pkgPath := "", byteOffset := 48 }, { name := "Names", type := 29, offset := 4, embedded := false, tag := "", pkgPath := "", byteOffset := 72 }, { name := "Count", type := 4, offset := 5, embedded := false, tag := "", pkgPath := "", byteOffset := 96 }, { name := "Where", type := 30, offset := 6, embedded := false, tag := "", pkgPath := "", byteOffset := 104 }, { name := "Order", type := 9, offset := 7, embedded := false, tag := "", pkgPath := "", byteOffset := 128 }, { name := "Down", type := 4, offset := 8, embedded := false, tag := "", pkgPath := "", byteOffset := 144 }, { name := "Limit", type := 3, offset := 9, embedded := false, tag := "", pkgPath := "", byteOffset := 152 }, { name := "Set", type := 9, offset := 10, embedded := false, tag := "", pkgPath := "", byteOffset := 160 }, { name := "To", type := 30, offset := 11, embedded := false, tag := "", pkgPath := "", byteOffset := 176 }] : Array Field).mapM fun f => do pure (f.offset, ← sizeOf f.type) : Sem (Array (Nat × Nat))).run Tryd.prog w = .ok #[(0, 1), (1, 1), (2, 1), (3, 1), (4, 1), (5, 1), (6, 1), (7, 1), (8, 1), (9, 1), (10, 1), (11, 1)] w := fun w => by simp [Tryd.sizeOf27, Tryd.sizeOf28, Tryd.sizeOf29, Tryd.sizeOf3, Tryd.sizeOf30, Tryd.sizeOf4, Tryd.sizeOf9]

theorem places37_Pg2 : ∀ w, ((#[{ name := "Kind", type := 3, offset := 0, embedded := false, tag := "", pkgPath := "", byteOffset := 0 }, { name := "Int", type := 3, offset := 1, embedded := false, tag := "", pkgPath := "", byteOffset := 8 }, { name := "Text", type := 9, offset := 2, embedded := false, tag := "", pkgPath := "", byteOffset := 16 }] : Array Field).mapM fun f => do pure (f.offset, ← sizeOf f.type) : Sem (Array (Nat × Nat))).run Tryd.prog w = .ok #[(0, 1), (1, 1), (2, 1)] w := fun w => by simp [Tryd.sizeOf3, Tryd.sizeOf9]

set_option maxHeartbeats 4000000 in
set_option maxRecDepth 100000 in
theorem statement_vc (k t a b : Int) (row : List Vl) (x1 x2 : Int) (x3 : ByteArray) (ts1 : List Tw) (y1 y2 : Int) (y3 : ByteArray) (ts2 : List Tw) (bare : Bool) (hk1 : -9223372036854775808 ≤ k) (hk2 : k ≤ 9223372036854775807) (ht1 : -9223372036854775808 ≤ t) (ht2 : t ≤ 9223372036854775807) (ha1 : -9223372036854775808 ≤ a) (ha2 : a ≤ 9223372036854775807) (hb1 : -9223372036854775808 ≤ b) (hb2 : b ≤ 9223372036854775807) (hrow : ∀ v ∈ row, v.s.size ≤ maxLen) (hto : (Tw.mk x1 x2 x3 ts1).Ok) (hwh : (Tw.mk y1 y2 y3 ts2).Ok) : VC Tryd.prog G 15 [.agg [.v (.int .i64 k), .v (.int .i64 t), .v (.int .i64 a), .v (.int .i64 b), .list 3 (row.flatMap cV) row.length, .v (.int .i64 x1), .v (.int .i64 x2), .v (.string x3), .list 4 (Tw.css ts1) ts1.length, .v (.int .i64 y1), .v (.int .i64 y2), .v (.string y3), .list 4 (Tw.css ts2) ts2.length, .v (.bool bare)]] [] (fun r S' => ∃ s, r = .agg (cSt s) ∧ S' = [] ∧ GoodS s) := by
 refine VC.body Tryd.func15 rfl Tryd.ntmps15 le_ fun X0 w0 S00 => ?_
 have pkib := pickedF_bd k (show (1 : Int) ≤ 6 by decide)
 have pkiv := picked_vp G k 6 hk1 hk2 (by decide)
 generalize pickedF k 6 = ki at *
 have ptib := pickedF_bd t (show (1 : Int) ≤ 2 by decide)
 have ptiv := picked_vp G t 2 ht1 ht2 (by decide)
 generalize pickedF t 2 = ti at *
 obtain ⟨tj, rfl⟩ := Int.eq_ofNat_of_zero_le ptib.1
 have htj : tj < tuL.length := by show tj < 2; omega
 have htn := tu_ok tuL[tj] (List.getElem_mem htj)
 generalize htng : tuL[tj] = tn at *
 refine sr_ ?_
 refine OD.box (ds := [_, _, _, _, _, _, _, _, _, _, _, _, _, _]) wp_ rfl rfl ot rfl rfl (fun b1 => ?_)
 refine OD.alloc (ds := [_, _, _, _, _, _, _, _, _, _, _, _]) wp_ rfl rfl Tryd.zeroValue32 rfl (fun b2 => ?_)
 refine on_ [(1, _), (2, _)] [⟨b2, 32, 12, [_, _, _, _, _, _, _, _, _, _, _, _]⟩, ⟨b1, 47, 14, [_, _, _, _, _, _, _, _, _, _, _, _, _, _]⟩] ?_
 refine CD.seq ?_
 refine CD.mono (Q := fun e__ y__ => e__ = Exit.normal ∧ ∃ (b3 : Nat), (True) ∧ Wk y__ (⟨111, [(1, .v (.pointer (some ⟨b1, 0, none⟩))), (2, .v (.pointer (some ⟨b2, 0, none⟩))), (3, .v (.pointer (some ⟨b3, 0, none⟩)))], [⟨b3, 32, 12, [.v (.int .i64 (1 + ki)), .v (.string tn), .v (.slice none 0 0), .v (.slice none 0 0), .v (.slice none 0 0), .v (.bool false), .v (.slice none 0 0), .v (.string ⟨#[]⟩), .v (.bool false), .v (.int .i64 (-1)), .v (.string ⟨#[]⟩), .v (.slice none 0 0)]⟩, ⟨b2, 32, 12, [.v (.int .i64 0), .v (.string ⟨#[]⟩), .v (.slice none 0 0), .v (.slice none 0 0), .v (.slice none 0 0), .v (.bool false), .v (.slice none 0 0), .v (.string ⟨#[]⟩), .v (.bool false), .v (.int .i64 0), .v (.string ⟨#[]⟩), .v (.slice none 0 0)]⟩, ⟨b1, 47, 14, [.v (.int .i64 k), .v (.int .i64 t), .v (.int .i64 a), .v (.int .i64 b), .list 3 (row.flatMap cV) row.length, .v (.int .i64 x1), .v (.int .i64 x2), .v (.string x3), .list 4 (Tw.css ts1) ts1.length, .v (.int .i64 y1), .v (.int .i64 y2), .v (.string y3), .list 4 (Tw.css ts2) ts2.length, .v (.bool bare)]⟩]⟩ : St)) ?_ ?_
 ·skip
  refine CD.draw (bks _) kr_ (fun _ h => h) ?_
  refine a0_ 0 rfl (fa_ 0) ?_
  refine a0_ 1 rfl (lb_ 1) ?_
  refine a0_ 5 rfl (fa_ 1) ?_
  refine a0_ 6 rfl (lb_ 1) ?_
  refine AD0.later rfl ?_
  refine AD.three (i := 2) (j := 4) (k := 11) kr_ ?_ ?_ ?_
  ·skip
   refine ac_ Tryd.call11 (pkiv) ?_
   refine a1_ 3 rfl bn_ ?_
   refine AD.three (i := 4) (j := 7) (k := 11) kr_ ?_ ?_ ?_
   ·skip
    refine ab_ (numD 0 [_, _]) [.string ⟨#[]⟩, .string ⟨#[]⟩] [_, _] Tryd.zeroValue9 Tryd.runUnderlying29 Tryd.sizeOf9 (fun b8 => ?_)
    refine ag_ 0 8 1 2 ?_
    refine AD.two (i := 7) (j := 11) kr_ ?_ ?_
    ·skip
     refine ac_ Tryd.call11 (ptiv) ?_
     refine a1_ 8 rfl (ix_ 1 (h := by first | exact .l (j := tj) rfl htj | exact .r (j := tj) rfl htj)) ?_
     refine AD.two (i := 9) (j := 11) kr_ ?_ ?_
     ·skip
      refine at_ rfl (still_r1 (mk := Op.load 9) rfl ot (by exact ld_fm0 (g := cS) (ls := tuL) (i := tj) (d := .v (.string tn)) cS_len Tryd.isAgg9 htj (by show some (D.v (.string (tuL[tj]'htj))) = some (D.v (.string tn)); rw [htng]))) ?_
      refine a1_ 10 rfl (still_bld (pl := [(0, _), (1, _), (9, _)]) (ds := [_, _, _, _, _, _, _, _, _, _, _, _]) rfl Tryd.zeroValue32 Tryd.runUnderlying32 places32_Pg2 ⟨rfl, ot, rfl, ot, rfl, opd_const, trivial⟩ rfl rfl) ?_
      refine AD.one (i := 11) kr_ ?_
      refine AStep.alloc (ds := [_, _, _, _, _, _, _, _, _, _, _, _]) rfl wp_ rfl rfl Tryd.zeroValue32 rfl (fun b3 => ?_)
      refine AD.one (i := 12) kr_ ?_
      refine as_ 0 [_, _, _, _, _, _, _, _, _, _, _, _] Tryd.sizeOf32 ?_
      refine aw_ [(1, _), (2, _), (3, _)] [⟨b3, 32, 12, [_, _, _, _, _, _, _, _, _, _, _, _]⟩, ⟨b2, 32, 12, [_, _, _, _, _, _, _, _, _, _, _, _]⟩, ⟨b1, 47, 14, [_, _, _, _, _, _, _, _, _, _, _, _, _, _]⟩] ?_
      refine AD.done kr_ ?_
      exact ⟨rfl, _, trivial, Wk.refl _⟩
     refine AStep.alloc (ds := [_, _, _, _, _, _, _, _, _, _, _, _]) rfl wp_ rfl rfl Tryd.zeroValue32 rfl (fun b3 => ?_)
     refine AD.one (i := 9) kr_ ?_
     refine at_ rfl (still_r1 (mk := Op.load 9) rfl ot (by exact ld_fm0 (g := cS) (ls := tuL) (i := tj) (d := .v (.string tn)) cS_len Tryd.isAgg9 htj (by show some (D.v (.string (tuL[tj]'htj))) = some (D.v (.string tn)); rw [htng]))) ?_
     refine a1_ 10 rfl (still_bld (pl := [(0, _), (1, _), (9, _)]) (ds := [_, _, _, _, _, _, _, _, _, _, _, _]) rfl Tryd.zeroValue32 Tryd.runUnderlying32 places32_Pg2 ⟨rfl, ot, rfl, ot, rfl, opd_const, trivial⟩ rfl rfl) ?_
     refine AD.one (i := 12) kr_ ?_
     refine as_ 0 [_, _, _, _, _, _, _, _, _, _, _, _] Tryd.sizeOf32 ?_
     refine aw_ [(1, _), (2, _), (3, _)] [⟨b3, 32, 12, [_, _, _, _, _, _, _, _, _, _, _, _]⟩, ⟨b2, 32, 12, [_, _, _, _, _, _, _, _, _, _, _, _]⟩, ⟨b1, 47, 14, [_, _, _, _, _, _, _, _, _, _, _, _, _, _]⟩] ?_
     refine AD.done kr_ ?_
     exact ⟨rfl, _, trivial, Wk.refl _⟩
    refine AStep.alloc (ds := [_, _, _, _, _, _, _, _, _, _, _, _]) rfl wp_ rfl rfl Tryd.zeroValue32 rfl (fun b3 => ?_)
    refine AD.one (i := 7) kr_ ?_
    refine ac_ Tryd.call11 (ptiv) ?_
    refine a1_ 8 rfl (ix_ 1 (h := by first | exact .l (j := tj) rfl htj | exact .r (j := tj) rfl htj)) ?_
    refine AD.one (i := 9) kr_ ?_
    refine at_ rfl (still_r1 (mk := Op.load 9) rfl ot (by exact ld_fm0 (g := cS) (ls := tuL) (i := tj) (d := .v (.string tn)) cS_len Tryd.isAgg9 htj (by show some (D.v (.string (tuL[tj]'htj))) = some (D.v (.string tn)); rw [htng]))) ?_
    refine a1_ 10 rfl (still_bld (pl := [(0, _), (1, _), (9, _)]) (ds := [_, _, _, _, _, _, _, _, _, _, _, _]) rfl Tryd.zeroValue32 Tryd.runUnderlying32 places32_Pg2 ⟨rfl, ot, rfl, ot, rfl, opd_const, trivial⟩ rfl rfl) ?_
    refine AD.one (i := 12) kr_ ?_
    refine as_ 0 [_, _, _, _, _, _, _, _, _, _, _, _] Tryd.sizeOf32 ?_
    refine aw_ [(1, _), (2, _), (3, _)] [⟨b3, 32, 12, [_, _, _, _, _, _, _, _, _, _, _, _]⟩, ⟨b2, 32, 12, [_, _, _, _, _, _, _, _, _, _, _, _]⟩, ⟨b1, 47, 14, [_, _, _, _, _, _, _, _, _, _, _, _, _, _]⟩] ?_
    refine AD.done kr_ ?_
    exact ⟨rfl, _, trivial, Wk.refl _⟩
   ·skip
    refine ac_ Tryd.call11 (ptiv) ?_
    refine AD.two (i := 4) (j := 11) kr_ ?_ ?_
    ·skip
     refine ab_ (numD 0 [_, _]) [.string ⟨#[]⟩, .string ⟨#[]⟩] [_, _] Tryd.zeroValue9 Tryd.runUnderlying29 Tryd.sizeOf9 (fun b8 => ?_)
     refine ag_ 0 8 1 2 ?_
     refine a1_ 8 rfl (ix_ 1 (h := by first | exact .l (j := tj) rfl htj | exact .r (j := tj) rfl htj)) ?_
     refine AD.two (i := 9) (j := 11) kr_ ?_ ?_
     ·skip
      refine at_ rfl (still_r1 (mk := Op.load 9) rfl ot (by exact ld_fm0 (g := cS) (ls := tuL) (i := tj) (d := .v (.string tn)) cS_len Tryd.isAgg9 htj (by show some (D.v (.string (tuL[tj]'htj))) = some (D.v (.string tn)); rw [htng]))) ?_
      refine a1_ 10 rfl (still_bld (pl := [(0, _), (1, _), (9, _)]) (ds := [_, _, _, _, _, _, _, _, _, _, _, _]) rfl Tryd.zeroValue32 Tryd.runUnderlying32 places32_Pg2 ⟨rfl, ot, rfl, ot, rfl, opd_const, trivial⟩ rfl rfl) ?_
      refine AD.one (i := 11) kr_ ?_
      refine AStep.alloc (ds := [_, _, _, _, _, _, _, _, _, _, _, _]) rfl wp_ rfl rfl Tryd.zeroValue32 rfl (fun b3 => ?_)
      refine AD.one (i := 12) kr_ ?_
      refine as_ 0 [_, _, _, _, _, _, _, _, _, _, _, _] Tryd.sizeOf32 ?_
      refine aw_ [(1, _), (2, _), (3, _)] [⟨b3, 32, 12, [_, _, _, _, _, _, _, _, _, _, _, _]⟩, ⟨b2, 32, 12, [_, _, _, _, _, _, _, _, _, _, _, _]⟩, ⟨b1, 47, 14, [_, _, _, _, _, _, _, _, _, _, _, _, _, _]⟩] ?_
      refine AD.done kr_ ?_
      exact ⟨rfl, _, trivial, Wk.refl _⟩
     refine AStep.alloc (ds := [_, _, _, _, _, _, _, _, _, _, _, _]) rfl wp_ rfl rfl Tryd.zeroValue32 rfl (fun b3 => ?_)
     refine AD.one (i := 9) kr_ ?_
     refine at_ rfl (still_r1 (mk := Op.load 9) rfl ot (by exact ld_fm0 (g := cS) (ls := tuL) (i := tj) (d := .v (.string tn)) cS_len Tryd.isAgg9 htj (by show some (D.v (.string (tuL[tj]'htj))) = some (D.v (.string tn)); rw [htng]))) ?_
     refine a1_ 10 rfl (still_bld (pl := [(0, _), (1, _), (9, _)]) (ds := [_, _, _, _, _, _, _, _, _, _, _, _]) rfl Tryd.zeroValue32 Tryd.runUnderlying32 places32_Pg2 ⟨rfl, ot, rfl, ot, rfl, opd_const, trivial⟩ rfl rfl) ?_
     refine AD.one (i := 12) kr_ ?_
     refine as_ 0 [_, _, _, _, _, _, _, _, _, _, _, _] Tryd.sizeOf32 ?_
     refine aw_ [(1, _), (2, _), (3, _)] [⟨b3, 32, 12, [_, _, _, _, _, _, _, _, _, _, _, _]⟩, ⟨b2, 32, 12, [_, _, _, _, _, _, _, _, _, _, _, _]⟩, ⟨b1, 47, 14, [_, _, _, _, _, _, _, _, _, _, _, _, _, _]⟩] ?_
     refine AD.done kr_ ?_
     exact ⟨rfl, _, trivial, Wk.refl _⟩
    refine AStep.alloc (ds := [_, _, _, _, _, _, _, _, _, _, _, _]) rfl wp_ rfl rfl Tryd.zeroValue32 rfl (fun b3 => ?_)
    refine AD.one (i := 4) kr_ ?_
    refine ab_ (numD 0 [_, _]) [.string ⟨#[]⟩, .string ⟨#[]⟩] [_, _] Tryd.zeroValue9 Tryd.runUnderlying29 Tryd.sizeOf9 (fun b8 => ?_)
    refine ag_ 0 8 1 2 ?_
    refine a1_ 8 rfl (ix_ 1 (h := by first | exact .l (j := tj) rfl htj | exact .r (j := tj) rfl htj)) ?_
    refine AD.one (i := 9) kr_ ?_
    refine at_ rfl (still_r1 (mk := Op.load 9) rfl ot (by exact ld_fm0 (g := cS) (ls := tuL) (i := tj) (d := .v (.string tn)) cS_len Tryd.isAgg9 htj (by show some (D.v (.string (tuL[tj]'htj))) = some (D.v (.string tn)); rw [htng]))) ?_
    refine a1_ 10 rfl (still_bld (pl := [(0, _), (1, _), (9, _)]) (ds := [_, _, _, _, _, _, _, _, _, _, _, _]) rfl Tryd.zeroValue32 Tryd.runUnderlying32 places32_Pg2 ⟨rfl, ot, rfl, ot, rfl, opd_const, trivial⟩ rfl rfl) ?_
    refine AD.one (i := 12) kr_ ?_
    refine as_ 0 [_, _, _, _, _, _, _, _, _, _, _, _] Tryd.sizeOf32 ?_
    refine aw_ [(1, _), (2, _), (3, _)] [⟨b3, 32, 12, [_, _, _, _, _, _, _, _, _, _, _, _]⟩, ⟨b2, 32, 12, [_, _, _, _, _, _, _, _, _, _, _, _]⟩, ⟨b1, 47, 14, [_, _, _, _, _, _, _, _, _, _, _, _, _, _]⟩] ?_
    refine AD.done kr_ ?_
    exact ⟨rfl, _, trivial, Wk.refl _⟩
   refine AStep.alloc (ds := [_, _, _, _, _, _, _, _, _, _, _, _]) rfl wp_ rfl rfl Tryd.zeroValue32 rfl (fun b3 => ?_)
   refine AD.two (i := 4) (j := 7) kr_ ?_ ?_
   ·skip
    refine ab_ (numD 0 [_, _]) [.string ⟨#[]⟩, .string ⟨#[]⟩] [_, _] Tryd.zeroValue9 Tryd.runUnderlying29 Tryd.sizeOf9 (fun b8 => ?_)
    refine ag_ 0 8 1 2 ?_
    refine AD.one (i := 7) kr_ ?_
    refine ac_ Tryd.call11 (ptiv) ?_
    refine a1_ 8 rfl (ix_ 1 (h := by first | exact .l (j := tj) rfl htj | exact .r (j := tj) rfl htj)) ?_
    refine AD.one (i := 9) kr_ ?_
    refine at_ rfl (still_r1 (mk := Op.load 9) rfl ot (by exact ld_fm0 (g := cS) (ls := tuL) (i := tj) (d := .v (.string tn)) cS_len Tryd.isAgg9 htj (by show some (D.v (.string (tuL[tj]'htj))) = some (D.v (.string tn)); rw [htng]))) ?_
    refine a1_ 10 rfl (still_bld (pl := [(0, _), (1, _), (9, _)]) (ds := [_, _, _, _, _, _, _, _, _, _, _, _]) rfl Tryd.zeroValue32 Tryd.runUnderlying32 places32_Pg2 ⟨rfl, ot, rfl, ot, rfl, opd_const, trivial⟩ rfl rfl) ?_
    refine AD.one (i := 12) kr_ ?_
    refine as_ 0 [_, _, _, _, _, _, _, _, _, _, _, _] Tryd.sizeOf32 ?_
    refine aw_ [(1, _), (2, _), (3, _)] [⟨b3, 32, 12, [_, _, _, _, _, _, _, _, _, _, _, _]⟩, ⟨b2, 32, 12, [_, _, _, _, _, _, _, _, _, _, _, _]⟩, ⟨b1, 47, 14, [_, _, _, _, _, _, _, _, _, _, _, _, _, _]⟩] ?_
    refine AD.done kr_ ?_
    exact ⟨rfl, _, trivial, Wk.refl _⟩
   refine ac_ Tryd.call11 (ptiv) ?_
   refine AD.one (i := 4) kr_ ?_
   refine ab_ (numD 0 [_, _]) [.string ⟨#[]⟩, .string ⟨#[]⟩] [_, _] Tryd.zeroValue9 Tryd.runUnderlying29 Tryd.sizeOf9 (fun b8 => ?_)
   refine ag_ 0 8 1 2 ?_
   refine a1_ 8 rfl (ix_ 1 (h := by first | exact .l (j := tj) rfl htj | exact .r (j := tj) rfl htj)) ?_
   refine AD.one (i := 9) kr_ ?_
   refine at_ rfl (still_r1 (mk := Op.load 9) rfl ot (by exact ld_fm0 (g := cS) (ls := tuL) (i := tj) (d := .v (.string tn)) cS_len Tryd.isAgg9 htj (by show some (D.v (.string (tuL[tj]'htj))) = some (D.v (.string tn)); rw [htng]))) ?_
   refine a1_ 10 rfl (still_bld (pl := [(0, _), (1, _), (9, _)]) (ds := [_, _, _, _, _, _, _, _, _, _, _, _]) rfl Tryd.zeroValue32 Tryd.runUnderlying32 places32_Pg2 ⟨rfl, ot, rfl, ot, rfl, opd_const, trivial⟩ rfl rfl) ?_
   refine AD.one (i := 12) kr_ ?_
   refine as_ 0 [_, _, _, _, _, _, _, _, _, _, _, _] Tryd.sizeOf32 ?_
   refine aw_ [(1, _), (2, _), (3, _)] [⟨b3, 32, 12, [_, _, _, _, _, _, _, _, _, _, _, _]⟩, ⟨b2, 32, 12, [_, _, _, _, _, _, _, _, _, _, _, _]⟩, ⟨b1, 47, 14, [_, _, _, _, _, _, _, _, _, _, _, _, _, _]⟩] ?_
   refine AD.done kr_ ?_
   exact ⟨rfl, _, trivial, Wk.refl _⟩
  ·skip
   refine ab_ (numD 0 [_, _]) [.string ⟨#[]⟩, .string ⟨#[]⟩] [_, _] Tryd.zeroValue9 Tryd.runUnderlying29 Tryd.sizeOf9 (fun b8 => ?_)
   refine ag_ 0 8 1 2 ?_
   refine AD.two (i := 2) (j := 11) kr_ ?_ ?_
   ·skip
    refine ac_ Tryd.call11 (pkiv) ?_
    refine a1_ 3 rfl bn_ ?_
    refine AD.two (i := 7) (j := 11) kr_ ?_ ?_
    ·skip
     refine ac_ Tryd.call11 (ptiv) ?_
     refine a1_ 8 rfl (ix_ 1 (h := by first | exact .l (j := tj) rfl htj | exact .r (j := tj) rfl htj)) ?_
     refine AD.two (i := 9) (j := 11) kr_ ?_ ?_
     ·skip
      refine at_ rfl (still_r1 (mk := Op.load 9) rfl ot (by exact ld_fm0 (g := cS) (ls := tuL) (i := tj) (d := .v (.string tn)) cS_len Tryd.isAgg9 htj (by show some (D.v (.string (tuL[tj]'htj))) = some (D.v (.string tn)); rw [htng]))) ?_
      refine a1_ 10 rfl (still_bld (pl := [(0, _), (1, _), (9, _)]) (ds := [_, _, _, _, _, _, _, _, _, _, _, _]) rfl Tryd.zeroValue32 Tryd.runUnderlying32 places32_Pg2 ⟨rfl, ot, rfl, ot, rfl, opd_const, trivial⟩ rfl rfl) ?_
      refine AD.one (i := 11) kr_ ?_
      refine AStep.alloc (ds := [_, _, _, _, _, _, _, _, _, _, _, _]) rfl wp_ rfl rfl Tryd.zeroValue32 rfl (fun b3 => ?_)
      refine AD.one (i := 12) kr_ ?_
      refine as_ 0 [_, _, _, _, _, _, _, _, _, _, _, _] Tryd.sizeOf32 ?_
      refine aw_ [(1, _), (2, _), (3, _)] [⟨b3, 32, 12, [_, _, _, _, _, _, _, _, _, _, _, _]⟩, ⟨b2, 32, 12, [_, _, _, _, _, _, _, _, _, _, _, _]⟩, ⟨b1, 47, 14, [_, _, _, _, _, _, _, _, _, _, _, _, _, _]⟩] ?_
      refine AD.done kr_ ?_
      exact ⟨rfl, _, trivial, Wk.refl _⟩
     refine AStep.alloc (ds := [_, _, _, _, _, _, _, _, _, _, _, _]) rfl wp_ rfl rfl Tryd.zeroValue32 rfl (fun b3 => ?_)
     refine AD.one (i := 9) kr_ ?_
     refine at_ rfl (still_r1 (mk := Op.load 9) rfl ot (by exact ld_fm0 (g := cS) (ls := tuL) (i := tj) (d := .v (.string tn)) cS_len Tryd.isAgg9 htj (by show some (D.v (.string (tuL[tj]'htj))) = some (D.v (.string tn)); rw [htng]))) ?_
     refine a1_ 10 rfl (still_bld (pl := [(0, _), (1, _), (9, _)]) (ds := [_, _, _, _, _, _, _, _, _, _, _, _]) rfl Tryd.zeroValue32 Tryd.runUnderlying32 places32_Pg2 ⟨rfl, ot, rfl, ot, rfl, opd_const, trivial⟩ rfl rfl) ?_
     refine AD.one (i := 12) kr_ ?_
     refine as_ 0 [_, _, _, _, _, _, _, _, _, _, _, _] Tryd.sizeOf32 ?_
     refine aw_ [(1, _), (2, _), (3, _)] [⟨b3, 32, 12, [_, _, _, _, _, _, _, _, _, _, _, _]⟩, ⟨b2, 32, 12, [_, _, _, _, _, _, _, _, _, _, _, _]⟩, ⟨b1, 47, 14, [_, _, _, _, _, _, _, _, _, _, _, _, _, _]⟩] ?_
     refine AD.done kr_ ?_
     exact ⟨rfl, _, trivial, Wk.refl _⟩
    refine AStep.alloc (ds := [_, _, _, _, _, _, _, _, _, _, _, _]) rfl wp_ rfl rfl Tryd.zeroValue32 rfl (fun b3 => ?_)
    refine AD.one (i := 7) kr_ ?_
    refine ac_ Tryd.call11 (ptiv) ?_
    refine a1_ 8 rfl (ix_ 1 (h := by first | exact .l (j := tj) rfl htj | exact .r (j := tj) rfl htj)) ?_
    refine AD.one (i := 9) kr_ ?_
    refine at_ rfl (still_r1 (mk := Op.load 9) rfl ot (by exact ld_fm0 (g := cS) (ls := tuL) (i := tj) (d := .v (.string tn)) cS_len Tryd.isAgg9 htj (by show some (D.v (.string (tuL[tj]'htj))) = some (D.v (.string tn)); rw [htng]))) ?_
    refine a1_ 10 rfl (still_bld (pl := [(0, _), (1, _), (9, _)]) (ds := [_, _, _, _, _, _, _, _, _, _, _, _]) rfl Tryd.zeroValue32 Tryd.runUnderlying32 places32_Pg2 ⟨rfl, ot, rfl, ot, rfl, opd_const, trivial⟩ rfl rfl) ?_
    refine AD.one (i := 12) kr_ ?_
    refine as_ 0 [_, _, _, _, _, _, _, _, _, _, _, _] Tryd.sizeOf32 ?_
    refine aw_ [(1, _), (2, _), (3, _)] [⟨b3, 32, 12, [_, _, _, _, _, _, _, _, _, _, _, _]⟩, ⟨b2, 32, 12, [_, _, _, _, _, _, _, _, _, _, _, _]⟩, ⟨b1, 47, 14, [_, _, _, _, _, _, _, _, _, _, _, _, _, _]⟩] ?_
    refine AD.done kr_ ?_
    exact ⟨rfl, _, trivial, Wk.refl _⟩
   refine AStep.alloc (ds := [_, _, _, _, _, _, _, _, _, _, _, _]) rfl wp_ rfl rfl Tryd.zeroValue32 rfl (fun b3 => ?_)
   refine AD.one (i := 2) kr_ ?_
   refine ac_ Tryd.call11 (pkiv) ?_
   refine a1_ 3 rfl bn_ ?_
   refine AD.one (i := 7) kr_ ?_
   refine ac_ Tryd.call11 (ptiv) ?_
   refine a1_ 8 rfl (ix_ 1 (h := by first | exact .l (j := tj) rfl htj | exact .r (j := tj) rfl htj)) ?_
   refine AD.one (i := 9) kr_ ?_
   refine at_ rfl (still_r1 (mk := Op.load 9) rfl ot (by exact ld_fm0 (g := cS) (ls := tuL) (i := tj) (d := .v (.string tn)) cS_len Tryd.isAgg9 htj (by show some (D.v (.string (tuL[tj]'htj))) = some (D.v (.string tn)); rw [htng]))) ?_
   refine a1_ 10 rfl (still_bld (pl := [(0, _), (1, _), (9, _)]) (ds := [_, _, _, _, _, _, _, _, _, _, _, _]) rfl Tryd.zeroValue32 Tryd.runUnderlying32 places32_Pg2 ⟨rfl, ot, rfl, ot, rfl, opd_const, trivial⟩ rfl rfl) ?_
   refine AD.one (i := 12) kr_ ?_
   refine as_ 0 [_, _, _, _, _, _, _, _, _, _, _, _] Tryd.sizeOf32 ?_
   refine aw_ [(1, _), (2, _), (3, _)] [⟨b3, 32, 12, [_, _, _, _, _, _, _, _, _, _, _, _]⟩, ⟨b2, 32, 12, [_, _, _, _, _, _, _, _, _, _, _, _]⟩, ⟨b1, 47, 14, [_, _, _, _, _, _, _, _, _, _, _, _, _, _]⟩] ?_
   refine AD.done kr_ ?_
   exact ⟨rfl, _, trivial, Wk.refl _⟩
  refine AStep.alloc (ds := [_, _, _, _, _, _, _, _, _, _, _, _]) rfl wp_ rfl rfl Tryd.zeroValue32 rfl (fun b3 => ?_)
  refine AD.two (i := 2) (j := 4) kr_ ?_ ?_
  ·skip
   refine ac_ Tryd.call11 (pkiv) ?_
   refine a1_ 3 rfl bn_ ?_
   refine AD.two (i := 4) (j := 7) kr_ ?_ ?_
   ·skip
    refine ab_ (numD 0 [_, _]) [.string ⟨#[]⟩, .string ⟨#[]⟩] [_, _] Tryd.zeroValue9 Tryd.runUnderlying29 Tryd.sizeOf9 (fun b8 => ?_)
    refine ag_ 0 8 1 2 ?_
    refine AD.one (i := 7) kr_ ?_
    refine ac_ Tryd.call11 (ptiv) ?_
    refine a1_ 8 rfl (ix_ 1 (h := by first | exact .l (j := tj) rfl htj | exact .r (j := tj) rfl htj)) ?_
    refine AD.one (i := 9) kr_ ?_
    refine at_ rfl (still_r1 (mk := Op.load 9) rfl ot (by exact ld_fm0 (g := cS) (ls := tuL) (i := tj) (d := .v (.string tn)) cS_len Tryd.isAgg9 htj (by show some (D.v (.string (tuL[tj]'htj))) = some (D.v (.string tn)); rw [htng]))) ?_
    refine a1_ 10 rfl (still_bld (pl := [(0, _), (1, _), (9, _)]) (ds := [_, _, _, _, _, _, _, _, _, _, _, _]) rfl Tryd.zeroValue32 Tryd.runUnderlying32 places32_Pg2 ⟨rfl, ot, rfl, ot, rfl, opd_const, trivial⟩ rfl rfl) ?_
    refine AD.one (i := 12) kr_ ?_
    refine as_ 0 [_, _, _, _, _, _, _, _, _, _, _, _] Tryd.sizeOf32 ?_
    refine aw_ [(1, _), (2, _), (3, _)] [⟨b3, 32, 12, [_, _, _, _, _, _, _, _, _, _, _, _]⟩, ⟨b2, 32, 12, [_, _, _, _, _, _, _, _, _, _, _, _]⟩, ⟨b1, 47, 14, [_, _, _, _, _, _, _, _, _, _, _, _, _, _]⟩] ?_
    refine AD.done kr_ ?_
    exact ⟨rfl, _, trivial, Wk.refl _⟩
   refine ac_ Tryd.call11 (ptiv) ?_
   refine AD.one (i := 4) kr_ ?_
   refine ab_ (numD 0 [_, _]) [.string ⟨#[]⟩, .string ⟨#[]⟩] [_, _] Tryd.zeroValue9 Tryd.runUnderlying29 Tryd.sizeOf9 (fun b8 => ?_)
   refine ag_ 0 8 1 2 ?_
   refine a1_ 8 rfl (ix_ 1 (h := by first | exact .l (j := tj) rfl htj | exact .r (j := tj) rfl htj)) ?_
   refine AD.one (i := 9) kr_ ?_
   refine at_ rfl (still_r1 (mk := Op.load 9) rfl ot (by exact ld_fm0 (g := cS) (ls := tuL) (i := tj) (d := .v (.string tn)) cS_len Tryd.isAgg9 htj (by show some (D.v (.string (tuL[tj]'htj))) = some (D.v (.string tn)); rw [htng]))) ?_
   refine a1_ 10 rfl (still_bld (pl := [(0, _), (1, _), (9, _)]) (ds := [_, _, _, _, _, _, _, _, _, _, _, _]) rfl Tryd.zeroValue32 Tryd.runUnderlying32 places32_Pg2 ⟨rfl, ot, rfl, ot, rfl, opd_const, trivial⟩ rfl rfl) ?_
   refine AD.one (i := 12) kr_ ?_
   refine as_ 0 [_, _, _, _, _, _, _, _, _, _, _, _] Tryd.sizeOf32 ?_
   refine aw_ [(1, _), (2, _), (3, _)] [⟨b3, 32, 12, [_, _, _, _, _, _, _, _, _, _, _, _]⟩, ⟨b2, 32, 12, [_, _, _, _, _, _, _, _, _, _, _, _]⟩, ⟨b1, 47, 14, [_, _, _, _, _, _, _, _, _, _, _, _, _, _]⟩] ?_
   refine AD.done kr_ ?_
   exact ⟨rfl, _, trivial, Wk.refl _⟩
  refine ab_ (numD 0 [_, _]) [.string ⟨#[]⟩, .string ⟨#[]⟩] [_, _] Tryd.zeroValue9 Tryd.runUnderlying29 Tryd.sizeOf9 (fun b8 => ?_)
  refine ag_ 0 8 1 2 ?_
  refine AD.one (i := 2) kr_ ?_
  refine ac_ Tryd.call11 (pkiv) ?_
  refine a1_ 3 rfl bn_ ?_
  refine AD.one (i := 7) kr_ ?_
  refine ac_ Tryd.call11 (ptiv) ?_
  refine a1_ 8 rfl (ix_ 1 (h := by first | exact .l (j := tj) rfl htj | exact .r (j := tj) rfl htj)) ?_
  refine AD.one (i := 9) kr_ ?_
  refine at_ rfl (still_r1 (mk := Op.load 9) rfl ot (by exact ld_fm0 (g := cS) (ls := tuL) (i := tj) (d := .v (.string tn)) cS_len Tryd.isAgg9 htj (by show some (D.v (.string (tuL[tj]'htj))) = some (D.v (.string tn)); rw [htng]))) ?_
  refine a1_ 10 rfl (still_bld (pl := [(0, _), (1, _), (9, _)]) (ds := [_, _, _, _, _, _, _, _, _, _, _, _]) rfl Tryd.zeroValue32 Tryd.runUnderlying32 places32_Pg2 ⟨rfl, ot, rfl, ot, rfl, opd_const, trivial⟩ rfl rfl) ?_
  refine AD.one (i := 12) kr_ ?_
  refine as_ 0 [_, _, _, _, _, _, _, _, _, _, _, _] Tryd.sizeOf32 ?_
  refine aw_ [(1, _), (2, _), (3, _)] [⟨b3, 32, 12, [_, _, _, _, _, _, _, _, _, _, _, _]⟩, ⟨b2, 32, 12, [_, _, _, _, _, _, _, _, _, _, _, _]⟩, ⟨b1, 47, 14, [_, _, _, _, _, _, _, _, _, _, _, _, _, _]⟩] ?_
  refine AD.done kr_ ?_
  exact ⟨rfl, _, trivial, Wk.refl _⟩
 rintro _ _ ⟨rfl, b3, _, hwk__⟩
 refine CD.wk hwk__ ?_
 refine CD.cut (fun y__ => ∃ (s : StL), (PreS s) ∧ y__ = (⟨111, [(1, .v (.pointer (some ⟨b1, 0, none⟩))), (2, .v (.pointer (some ⟨b2, 0, none⟩))), (3, .v (.pointer (some ⟨b3, 0, none⟩)))], [⟨b3, 32, 12, [.v (.int .i64 s.kind), .v (.string s.table), .list 2 (s.cols.flatMap cC) s.cols.length, .list 3 (s.row.flatMap cV) s.row.length, .list 1 (s.names.flatMap cS) s.names.length, .v (.bool s.count), .list 5 (s.wher.flatMap cO) s.wher.length, .v (.string s.order), .v (.bool s.down), .v (.int .i64 s.limit), .v (.string s.set), .list 5 (s.to.flatMap cO) s.to.length]⟩, ⟨b2, 32, 12, [.v (.int .i64 0), .v (.string ⟨#[]⟩), .v (.slice none 0 0), .v (.slice none 0 0), .v (.slice none 0 0), .v (.bool false), .v (.slice none 0 0), .v (.string ⟨#[]⟩), .v (.bool false), .v (.int .i64 0), .v (.string ⟨#[]⟩), .v (.slice none 0 0)]⟩, ⟨b1, 47, 14, [.v (.int .i64 k), .v (.int .i64 t), .v (.int .i64 a), .v (.int .i64 b), .list 3 (row.flatMap cV) row.length, .v (.int .i64 x1), .v (.int .i64 x2), .v (.string x3), .list 4 (Tw.css ts1) ts1.length, .v (.int .i64 y1), .v (.int .i64 y2), .v (.string y3), .list 4 (Tw.css ts2) ts2.length, .v (.bool bare)]⟩]⟩ : St)) ?_ ?_
 ·skip
  refine CD.seq ?_
  refine CD.cells (k := 0) (cs' := [_, _, .list 2 [] 0, .list 3 [] 0, .list 1 [] 0, _, .list 5 [] 0, _, _, _, _, .list 5 [] 0]) (S' := [_, _, _]) rfl (by repeat (first | exact trivial | exact ⟨gv_rfl, trivial⟩ | exact ⟨gv_nil, trivial⟩ | refine ⟨gv_rfl, ?_⟩ | refine ⟨gv_nil, ?_⟩)) rfl ?_
  refine CD.region ?_
  refine os_ (fa_ 0) ?_
  refine os_ (lb_ 0) ?_
  refine nm_ [1, 2, 3, 16] ?_
  refine CD.block ?_
  refine sr_ ?_
  refine os_ bn_ ?_
  refine om_ ?_
  refine nm_ [1, 2, 3, 16, 17] ?_
  refine CD.cond ot (fun hc0 => ?_) (fun hc0 => ?_)
  ·have hc0' := hc0
   (try simp only [V.cnd, ne_eq] at hc0')
   obtain rfl : ki = 0 := by simp at hc0; omega
   refine CD.region ?_
   refine OD.callP wp_ rfl rfl rfl Tryd.call27 (colsOf_vp) trivial ?_
   refine os_ (fa_ 2) ?_
   refine ot_ 0 [_, _, _, _, _, _, _, _, _, _, _, _] Tryd.sizeOf27 ?_
   refine on_ [(1, _), (2, _), (3, _)] [⟨b3, 32, 12, [_, _, _, _, _, _, _, _, _, _, _, _]⟩, ⟨b2, 32, 12, [_, _, _, _, _, _, _, _, _, _, _, _]⟩, ⟨b1, 47, 14, [_, _, _, _, _, _, _, _, _, _, _, _, _, _]⟩] ?_
   refine ⟨_, ?_, { st0 with kind := 1 + 0, table := tn, cols := colsL }, (pre_create htn), rfl⟩
   exact Wk.asS (n := 111) rfl (List.Sublist.refl _) sq_
  have hc0' := hc0
  (try simp only [V.cnd, ne_eq] at hc0')
  refine sr_ ?_
  refine os_ bn_ ?_
  refine om_ ?_
  refine nm_ [1, 2, 3, 16, 21] ?_
  refine CD.cond ot (fun hc1 => ?_) (fun hc1 => ?_)
  ·have hc1' := hc1
   (try simp only [V.cnd, ne_eq] at hc1')
   obtain rfl : ki = 2 := by simp at hc1; omega
   have pxab := pickedF_bd a (show (1 : Int) ≤ 12 by decide)
   have pxav := picked_vp G a 12 ha1 ha2 (by decide)
   generalize pickedF a 12 = xa at *
   have pxbb := pickedF_bd b (show (1 : Int) ≤ 9 by decide)
   have pxbv := picked_vp G b 9 hb1 hb2 (by decide)
   generalize pickedF b 9 = xb at *
   have hwl : (wordOfL row).size ≤ maxLen := by (cases row; decide; exact hrow _ List.mem_cons_self)
   have hcz : (cutF (wordOfL row) 2).size ≤ maxLen := by rw [cutF_size]; exact Nat.le_trans (Nat.min_le_left _ _) hwl
   have hcs : ((⟨#[]⟩ : ByteArray) ++ cutF (wordOfL row) 2).size ≤ maxLen := by rw [ByteArray.size_append]; show 0 + _ ≤ _; omega
   have hcq : (⟨#[]⟩ : ByteArray).size + (cutF (wordOfL row) 2).size ≤ 9223372036854775807 := by (have := hcz; unfold maxLen at this; show 0 + _ ≤ _; omega)
   have hu6 := (wordF_size ((⟨#[]⟩ : ByteArray) ++ cutF (wordOfL row) 2)).2
   refine CD.draw (bks (List.eraseIdx _ 0)) kr_ (fun _ h => (List.Sublist.map _ (List.eraseIdx_sublist _ 0)).subset h) ?_
   refine a0_ 0 rfl (fa_ 2) ?_
   refine a0_ 1 rfl (lb_ 2) ?_
   refine a0_ 4 rfl (fa_ 3) ?_
   refine a0_ 5 rfl (lb_ 2) ?_
   refine a0_ 8 rfl (lab_ 2 [_, _, _, _, _, _, _, _, _, _, _, _, _, _]) ?_
   refine a0_ 14 rfl (fa_ 3) ?_
   refine a0_ 15 rfl (lb_ 2) ?_
   refine AD0.later rfl ?_
   refine AD.one (i := 2) kr_ ?_
   refine ac_ Tryd.call11 (pxav) ?_
   refine a1_ 3 rfl (still_bld (pl := [(0, _), (1, _)]) (ds := [_, _, _]) rfl Tryd.zeroValue37 Tryd.runUnderlying37 places37_Pg2 ⟨rfl, opd_const, rfl, ot, trivial⟩ rfl rfl) ?_
   refine AD.one (i := 6) kr_ ?_
   refine ac_ Tryd.call11 (pxbv) ?_
   refine a1_ 7 rfl (still_bld (pl := [(0, _), (1, _)]) (ds := [_, _, _]) rfl Tryd.zeroValue37 Tryd.runUnderlying37 places37_Pg2 ⟨rfl, opd_const, rfl, ot, trivial⟩ rfl rfl) ?_
   refine AD.one (i := 9) kr_ ?_
   refine ac_ Tryd.call30 (wordOf_vp k t a b row x1 x2 x3 ts1 y1 y2 y3 ts2 bare) ?_
   refine AD.one (i := 10) kr_ ?_
   refine ac_ Tryd.call29 (cut_vp (wordOfL row) 2 hwl) ?_
   refine a1_ 11 rfl (still_bin rfl opd_const ot (bin_cat hcq)) ?_
   refine AD.one (i := 12) kr_ ?_
   refine ac_ Tryd.call28 (Nm.word_vp ((⟨#[]⟩ : ByteArray) ++ cutF (wordOfL row) 2) hcs) ?_
   refine a1_ 13 rfl (still_bld (pl := [(0, _), (2, _)]) (ds := [_, _, _]) rfl Tryd.zeroValue37 Tryd.runUnderlying37 places37_Pg2 ⟨rfl, opd_const, rfl, ot, trivial⟩ rfl rfl) ?_
   refine AD.one (i := 16) kr_ ?_
   refine ac_ Tryd.call31 (truth_vp b hb1 hb2) ?_
   refine AD.one (i := 17) kr_ ?_
   refine ab_ (numD 0 [_, _, _, _]) [.int .i64 0, .int .i64 0, .string ⟨#[]⟩, .int .i64 0, .int .i64 0, .string ⟨#[]⟩, .int .i64 0, .int .i64 0, .string ⟨#[]⟩, .int .i64 0, .int .i64 0, .string ⟨#[]⟩] [_, _, _, _, _, _, _, _, _, _, _, _] Tryd.zeroValue37 Tryd.runUnderlying28 Tryd.sizeOf37 (fun b40 => ?_)
   refine ag_ 0 40 3 4 ?_
   refine a1_ 18 rfl (fa_ 3) ?_
   refine AD.one (i := 19) kr_ ?_
   refine as_ 0 [_, _, _, _, _, _, _, _, _, _, _, _] Tryd.sizeOf28 ?_
   refine aw_ [(1, _), (2, _), (3, _)] [⟨b3, 32, 12, [_, _, _, _, _, _, _, _, _, _, _, _]⟩, ⟨b2, 32, 12, [_, _, _, _, _, _, _, _, _, _, _, _]⟩, ⟨b1, 47, 14, [_, _, _, _, _, _, _, _, _, _, _, _, _, _]⟩] ?_
   refine AD.done kr_ ?_
   refine ⟨_, ?_, { st0 with kind := 1 + 2, table := tn, row := [⟨2, xa, ⟨#[]⟩⟩, ⟨2, xb, ⟨#[]⟩⟩, ⟨3, 0, wordF ((⟨#[]⟩ : ByteArray) ++ cutF (wordOfL row) 2)⟩, truthF b] }, (pre_insert htn pxab pxbb hu6), rfl⟩
   exact Wk.asS (n := 111) rfl (List.Sublist.refl _) sq_
  have hc1' := hc1
  (try simp only [V.cnd, ne_eq] at hc1')
  refine sr_ ?_
  refine os_ bn_ ?_
  refine om_ ?_
  refine nm_ [1, 2, 3, 16, 42] ?_
  refine CD.cond ot (fun hc2 => ?_) (fun hc2 => ?_)
  ·have hc2' := hc2
   (try simp only [V.cnd, ne_eq] at hc2')
   obtain rfl : ki = 3 := by simp at hc2; omega
   refine CD.cut (fun y__ => ∃ (N : List ByteArray), ((N.length ≤ 6 ∧ ∀ x ∈ N, nameF x = 0)) ∧ y__ = (⟨111, [(1, .v (.pointer (some ⟨b1, 0, none⟩))), (2, .v (.pointer (some ⟨b2, 0, none⟩))), (3, .v (.pointer (some ⟨b3, 0, none⟩)))], [⟨b3, 32, 12, [.v (.int .i64 (1 + 3)), .v (.string tn), .list 2 [] 0, .list 3 [] 0, .list 1 (N.flatMap cS) N.length, .v (.bool false), .list 5 [] 0, .v (.string ⟨#[]⟩), .v (.bool false), .v (.int .i64 (-1)), .v (.string ⟨#[]⟩), .list 5 [] 0]⟩, ⟨b2, 32, 12, [.v (.int .i64 0), .v (.string ⟨#[]⟩), .v (.slice none 0 0), .v (.slice none 0 0), .v (.slice none 0 0), .v (.bool false), .v (.slice none 0 0), .v (.string ⟨#[]⟩), .v (.bool false), .v (.int .i64 0), .v (.string ⟨#[]⟩), .v (.slice none 0 0)]⟩, ⟨b1, 47, 14, [.v (.int .i64 k), .v (.int .i64 t), .v (.int .i64 a), .v (.int .i64 b), .list 3 (row.flatMap cV) row.length, .v (.int .i64 x1), .v (.int .i64 x2), .v (.string x3), .list 4 (Tw.css ts1) ts1.length, .v (.int .i64 y1), .v (.int .i64 y2), .v (.string y3), .list 4 (Tw.css ts2) ts2.length, .v (.bool bare)]⟩]⟩ : St)) ?_ ?_
   ·skip
    refine CD.seq ?_
    have pxcb := pickedF_bd a (show (1 : Int) ≤ 3 by decide)
    have pxcv := picked_vp G a 3 ha1 ha2 (by decide)
    generalize pickedF a 3 = xc at *
    refine CD.region ?_
    refine os_ (fa_ 2) ?_
    refine os_ (lb_ 2) ?_
    refine oc_ Tryd.call11 (pxcv) ?_
    refine os_ bn_ ?_
    refine on_ [(1, _), (2, _), (3, _), (47, _)] [⟨b3, 32, 12, [_, _, _, _, _, _, _, _, _, _, _, _]⟩, ⟨b2, 32, 12, [_, _, _, _, _, _, _, _, _, _, _, _]⟩, ⟨b1, 47, 14, [_, _, _, _, _, _, _, _, _, _, _, _, _, _]⟩] ?_
    refine CD.cond ot (fun hc3 => ?_) (fun hc3 => ?_)
    ·have hc3' := hc3
     (try simp only [V.cnd, ne_eq] at hc3')
     have pyb := pickedF_bd b (show (1 : Int) ≤ 3 by decide)
     have pyv := picked_vp G b 3 hb1 hb2 (by decide)
     generalize pickedF b 3 = yb at *
     have hyb : yb = 0 ∨ yb = 1 ∨ yb = 2 := by omega
     rcases hyb with rfl | rfl | rfl
     ·skip
      refine CD.region ?_
      refine ob_ (numD 0 [_, _, _]) [.string ⟨#[]⟩, .string ⟨#[]⟩, .string ⟨#[]⟩] [_, _, _] Tryd.zeroValue9 Tryd.runUnderlying29 Tryd.sizeOf9 (fun b48 => ?_)
      refine og_ 0 48 1 3 ?_
      refine os_ (fa_ 3) ?_
      refine os_ (lb_ 2) ?_
      refine oc_ Tryd.call11 (pyv) ?_
      refine os_ bn_ ?_
      refine os_ (still_rs (l := 0) (h := 1) rfl ot trivial ⟨_, ot⟩ (by first | exact sl_head cS_len (fun h => by cases h) Tryd.runUnderlying29 Tryd.sizeOf9 (by omega) | exact sl_head cC_len (fun h => by cases h) Tryd.runUnderlying29 Tryd.sizeOf9 (by omega) | exact sl_row (fun h => by cases h) Tryd.runUnderlying29 Tryd.sizeOf9 (by omega) | exact sl_list (fun _ => rfl) (fun h => by cases h) Tryd.runUnderlying29 Tryd.sizeOf9 (by omega) (by omega))) ?_
      refine os_ (fa_ 4) ?_
      refine ot_ 0 [_, _, _, _, _, _, _, _, _, _, _, _] Tryd.sizeOf29 ?_
      refine on_ [(1, _), (2, _), (3, _)] [⟨b3, 32, 12, [_, _, _, _, _, _, _, _, _, _, _, _]⟩, ⟨b2, 32, 12, [_, _, _, _, _, _, _, _, _, _, _, _]⟩, ⟨b1, 47, 14, [_, _, _, _, _, _, _, _, _, _, _, _, _, _]⟩] ?_
      refine ⟨_, ?_, [⟨#[115]⟩], ⟨by decide, by decide +kernel⟩, rfl⟩
      exact Wk.asS (n := 111) rfl (List.Sublist.refl _) sq_
     ·skip
      refine CD.region ?_
      refine ob_ (numD 0 [_, _, _]) [.string ⟨#[]⟩, .string ⟨#[]⟩, .string ⟨#[]⟩] [_, _, _] Tryd.zeroValue9 Tryd.runUnderlying29 Tryd.sizeOf9 (fun b48 => ?_)
      refine og_ 0 48 1 3 ?_
      refine os_ (fa_ 3) ?_
      refine os_ (lb_ 2) ?_
      refine oc_ Tryd.call11 (pyv) ?_
      refine os_ bn_ ?_
      refine os_ (still_rs (l := 0) (h := 2) rfl ot trivial ⟨_, ot⟩ (by first | exact sl_head cS_len (fun h => by cases h) Tryd.runUnderlying29 Tryd.sizeOf9 (by omega) | exact sl_head cC_len (fun h => by cases h) Tryd.runUnderlying29 Tryd.sizeOf9 (by omega) | exact sl_row (fun h => by cases h) Tryd.runUnderlying29 Tryd.sizeOf9 (by omega) | exact sl_list (fun _ => rfl) (fun h => by cases h) Tryd.runUnderlying29 Tryd.sizeOf9 (by omega) (by omega))) ?_
      refine os_ (fa_ 4) ?_
      refine ot_ 0 [_, _, _, _, _, _, _, _, _, _, _, _] Tryd.sizeOf29 ?_
      refine on_ [(1, _), (2, _), (3, _)] [⟨b3, 32, 12, [_, _, _, _, _, _, _, _, _, _, _, _]⟩, ⟨b2, 32, 12, [_, _, _, _, _, _, _, _, _, _, _, _]⟩, ⟨b1, 47, 14, [_, _, _, _, _, _, _, _, _, _, _, _, _, _]⟩] ?_
      refine ⟨_, ?_, [⟨#[115]⟩, ⟨#[105, 100]⟩], ⟨by decide, by decide +kernel⟩, rfl⟩
      exact Wk.asS (n := 111) rfl (List.Sublist.refl _) sq_
     refine CD.region ?_
     refine ob_ (numD 0 [_, _, _]) [.string ⟨#[]⟩, .string ⟨#[]⟩, .string ⟨#[]⟩] [_, _, _] Tryd.zeroValue9 Tryd.runUnderlying29 Tryd.sizeOf9 (fun b48 => ?_)
     refine og_ 0 48 1 3 ?_
     refine os_ (fa_ 3) ?_
     refine os_ (lb_ 2) ?_
     refine oc_ Tryd.call11 (pyv) ?_
     refine os_ bn_ ?_
     refine os_ (still_rs (l := 0) (h := 3) rfl ot trivial ⟨_, ot⟩ (by first | exact sl_head cS_len (fun h => by cases h) Tryd.runUnderlying29 Tryd.sizeOf9 (by omega) | exact sl_head cC_len (fun h => by cases h) Tryd.runUnderlying29 Tryd.sizeOf9 (by omega) | exact sl_row (fun h => by cases h) Tryd.runUnderlying29 Tryd.sizeOf9 (by omega) | exact sl_list (fun _ => rfl) (fun h => by cases h) Tryd.runUnderlying29 Tryd.sizeOf9 (by omega) (by omega))) ?_
     refine os_ (fa_ 4) ?_
     refine ot_ 0 [_, _, _, _, _, _, _, _, _, _, _, _] Tryd.sizeOf29 ?_
     refine on_ [(1, _), (2, _), (3, _)] [⟨b3, 32, 12, [_, _, _, _, _, _, _, _, _, _, _, _]⟩, ⟨b2, 32, 12, [_, _, _, _, _, _, _, _, _, _, _, _]⟩, ⟨b1, 47, 14, [_, _, _, _, _, _, _, _, _, _, _, _, _, _]⟩] ?_
     refine ⟨_, ?_, [⟨#[115]⟩, ⟨#[105, 100]⟩, ⟨#[110]⟩], ⟨by decide, by decide +kernel⟩, rfl⟩
     exact Wk.asS (n := 111) rfl (List.Sublist.refl _) sq_
    have hc3' := hc3
    (try simp only [V.cnd, ne_eq] at hc3')
    refine CD.skip ?_
    refine ⟨_, ?_, [], ⟨by simp, fun _ h => by cases h⟩, rfl⟩
    exact Wk.asS (n := 111) rfl (List.Sublist.refl _) sq_
   rintro _ ⟨N, hN, rfl⟩
   refine CD.seq ?_
   have pxdb := pickedF_bd a (show (1 : Int) ≤ 5 by decide)
   have pxdv := picked_vp G a 5 ha1 ha2 (by decide)
   generalize pickedF a 5 = xd at *
   refine CD.region ?_
   refine os_ (fa_ 2) ?_
   refine os_ (lb_ 2) ?_
   refine oc_ Tryd.call11 (pxdv) ?_
   refine os_ bn_ ?_
   refine os_ (fa_ 5) ?_
   refine ot_ 0 [_, _, _, _, _, _, _, _, _, _, _, _] Tryd.sizeOf4 ?_
   refine on_ [(1, _), (2, _), (3, _)] [⟨b3, 32, 12, [_, _, _, _, _, _, _, _, _, _, _, _]⟩, ⟨b2, 32, 12, [_, _, _, _, _, _, _, _, _, _, _, _]⟩, ⟨b1, 47, 14, [_, _, _, _, _, _, _, _, _, _, _, _, _, _]⟩] ?_
   refine CD.cut (fun y__ => ∃ (N : List ByteArray), ∃ (ct : Bool), ((N.length ≤ 6 ∧ ∀ x ∈ N, nameF x = 0)) ∧ (ct = true → N = []) ∧ y__ = (⟨111, [(1, .v (.pointer (some ⟨b1, 0, none⟩))), (2, .v (.pointer (some ⟨b2, 0, none⟩))), (3, .v (.pointer (some ⟨b3, 0, none⟩)))], [⟨b3, 32, 12, [.v (.int .i64 (1 + 3)), .v (.string tn), .list 2 [] 0, .list 3 [] 0, .list 1 (N.flatMap cS) N.length, .v (.bool ct), .list 5 [] 0, .v (.string ⟨#[]⟩), .v (.bool false), .v (.int .i64 (-1)), .v (.string ⟨#[]⟩), .list 5 [] 0]⟩, ⟨b2, 32, 12, [.v (.int .i64 0), .v (.string ⟨#[]⟩), .v (.slice none 0 0), .v (.slice none 0 0), .v (.slice none 0 0), .v (.bool false), .v (.slice none 0 0), .v (.string ⟨#[]⟩), .v (.bool false), .v (.int .i64 0), .v (.string ⟨#[]⟩), .v (.slice none 0 0)]⟩, ⟨b1, 47, 14, [.v (.int .i64 k), .v (.int .i64 t), .v (.int .i64 a), .v (.int .i64 b), .list 3 (row.flatMap cV) row.length, .v (.int .i64 x1), .v (.int .i64 x2), .v (.string x3), .list 4 (Tw.css ts1) ts1.length, .v (.int .i64 y1), .v (.int .i64 y2), .v (.string y3), .list 4 (Tw.css ts2) ts2.length, .v (.bool bare)]⟩]⟩ : St)) ?_ ?_
   ·skip
    refine sr_ ?_
    refine os_ (fa_ 5) ?_
    refine os_ (lb_ 0) ?_
    refine nm_ [1, 2, 3, 61] ?_
    refine CD.cond ot (fun hc4 => ?_) (fun hc4 => ?_)
    ·have hc4' := hc4
     (try simp only [V.cnd, ne_eq] at hc4')
     refine CD.region ?_
     refine os_ (fa_ 4) ?_
     refine ot_ 0 [_, _, _, _, _, _, _, _, _, _, _, _] Tryd.sizeOf29 ?_
     refine on_ [(1, _), (2, _), (3, _)] [⟨b3, 32, 12, [_, _, _, _, _, _, _, _, _, _, _, _]⟩, ⟨b2, 32, 12, [_, _, _, _, _, _, _, _, _, _, _, _]⟩, ⟨b1, 47, 14, [_, _, _, _, _, _, _, _, _, _, _, _, _, _]⟩] ?_
     refine ⟨_, ?_, [], (xd == 3), ⟨Nat.zero_le _, fun _ h => by cases h⟩, (fun _ => rfl), rfl⟩
     exact (Wk.cells (k := 0) (cs' := [_, _, _, _, .list 1 [] 0, _, _, _, _, _, _, _]) rfl (by repeat (first | exact trivial | exact ⟨gv_rfl, trivial⟩ | exact ⟨gv_nil, trivial⟩ | refine ⟨gv_rfl, ?_⟩ | refine ⟨gv_nil, ?_⟩)) rfl).trans (Wk.asS (n := 111) rfl (List.Sublist.refl _) sq_)
    have hc4' := hc4
    (try simp only [V.cnd, ne_eq] at hc4')
    refine CD.skip ?_
    refine ⟨_, ?_, N, (xd == 3), hN, (fun h => absurd h (by rw [hc4]; decide)), rfl⟩
    exact Wk.asS (n := 111) rfl (List.Sublist.refl _) sq_
   rintro _ ⟨N, ct, hN, hcn, rfl⟩
   refine CD.seq ?_
   have pxeb := pickedF_bd b (show (1 : Int) ≤ 4 by decide)
   have pxev := picked_vp G b 4 hb1 hb2 (by decide)
   generalize pickedF b 4 = xe at *
   obtain ⟨ej, rfl⟩ := Int.eq_ofNat_of_zero_le pxeb.1
   have hej : ej < orL.length := by show ej < 4; omega
   have hon := or_ok orL[ej] (List.getElem_mem hej)
   generalize heng : orL[ej] = od at *
   refine CD.region ?_
   refine ob_ (numD 0 [_, _, _, _]) [.string ⟨#[]⟩, .string ⟨#[]⟩, .string ⟨#[]⟩, .string ⟨#[]⟩] [_, _, _, _] Tryd.zeroValue9 Tryd.runUnderlying29 Tryd.sizeOf9 (fun b63 => ?_)
   refine og_ 0 63 1 4 ?_
   refine os_ (fa_ 3) ?_
   refine os_ (lb_ 2) ?_
   refine oc_ Tryd.call11 (pxev) ?_
   refine os_ (ix_ 1 (h := by first | exact .l (j := ej) rfl hej | exact .r (j := ej) rfl hej)) ?_
   refine os_ (still_r1 (mk := Op.load 9) rfl ot (by exact ld_fm0 (g := cS) (ls := orL) (i := ej) (d := .v (.string od)) cS_len Tryd.isAgg9 hej (by show some (D.v (.string (orL[ej]'hej))) = some (D.v (.string od)); rw [heng]))) ?_
   refine os_ (fa_ 7) ?_
   refine ot_ 0 [_, _, _, _, _, _, _, _, _, _, _, _] Tryd.sizeOf9 ?_
   refine on_ [(1, _), (2, _), (3, _)] [⟨b3, 32, 12, [_, _, _, _, _, _, _, _, _, _, _, _]⟩, ⟨b2, 32, 12, [_, _, _, _, _, _, _, _, _, _, _, _]⟩, ⟨b1, 47, 14, [_, _, _, _, _, _, _, _, _, _, _, _, _, _]⟩] ?_
   refine CD.cut (fun y__ => ∃ (dn : Bool), (od = ⟨#[]⟩ → dn = false) ∧ y__ = (⟨111, [(1, .v (.pointer (some ⟨b1, 0, none⟩))), (2, .v (.pointer (some ⟨b2, 0, none⟩))), (3, .v (.pointer (some ⟨b3, 0, none⟩)))], [⟨b3, 32, 12, [.v (.int .i64 (1 + 3)), .v (.string tn), .list 2 [] 0, .list 3 [] 0, .list 1 (N.flatMap cS) N.length, .v (.bool ct), .list 5 [] 0, .v (.string od), .v (.bool dn), .v (.int .i64 (-1)), .v (.string ⟨#[]⟩), .list 5 [] 0]⟩, ⟨b2, 32, 12, [.v (.int .i64 0), .v (.string ⟨#[]⟩), .v (.slice none 0 0), .v (.slice none 0 0), .v (.slice none 0 0), .v (.bool false), .v (.slice none 0 0), .v (.string ⟨#[]⟩), .v (.bool false), .v (.int .i64 0), .v (.string ⟨#[]⟩), .v (.slice none 0 0)]⟩, ⟨b1, 47, 14, [.v (.int .i64 k), .v (.int .i64 t), .v (.int .i64 a), .v (.int .i64 b), .list 3 (row.flatMap cV) row.length, .v (.int .i64 x1), .v (.int .i64 x2), .v (.string x3), .list 4 (Tw.css ts1) ts1.length, .v (.int .i64 y1), .v (.int .i64 y2), .v (.string y3), .list 4 (Tw.css ts2) ts2.length, .v (.bool bare)]⟩]⟩ : St)) ?_ ?_
   ·skip
    have pxfb := pickedF_bd a (show (1 : Int) ≤ 2 by decide)
    have pxfv := picked_vp G a 2 ha1 ha2 (by decide)
    generalize pickedF a 2 = xf at *
    refine CD.region ?_
    refine os_ (fa_ 7) ?_
    refine os_ (lb_ 0) ?_
    refine os_ bn_ ?_
    refine om_ ?_
    refine OD.split (t := 73) lk (fun hg73 => ?_) (fun hg73 => ?_)
    ·have hg73' := hg73; (try simp only [V.cnd, ne_eq] at hg73')
     refine os_ (fa_ 2) ?_
     refine os_ (lb_ 2) ?_
     refine OD.callP wt_ rfl rfl rfl Tryd.call11 (pxfv) ⟨ot, opd_const, trivial⟩ ?_
     refine os_ bn_ ?_
     refine os_ pkT_ ?_
     refine os_ (fa_ 8) ?_
     refine ot_ 0 [_, _, _, _, _, _, _, _, _, _, _, _] Tryd.sizeOf4 ?_
     refine on_ [(1, _), (2, _), (3, _)] [⟨b3, 32, 12, [_, _, _, _, _, _, _, _, _, _, _, _]⟩, ⟨b2, 32, 12, [_, _, _, _, _, _, _, _, _, _, _, _]⟩, ⟨b1, 47, 14, [_, _, _, _, _, _, _, _, _, _, _, _, _, _]⟩] ?_
     refine ⟨_, ?_, (xf == 1), (fun h => by rw [h] at hg73; exact absurd hg73 (by decide +kernel)), rfl⟩
     exact Wk.asS (n := 111) rfl (List.Sublist.refl _) sq_
    have hg73' := hg73; (try simp only [V.cnd, ne_eq] at hg73')
    refine sk_ ?_
    refine sk_ ?_
    refine sk_ ?_
    refine sk_ ?_
    refine os_ pkF_ ?_
    refine os_ (fa_ 8) ?_
    refine ot_ 0 [_, _, _, _, _, _, _, _, _, _, _, _] Tryd.sizeOf4 ?_
    refine on_ [(1, _), (2, _), (3, _)] [⟨b3, 32, 12, [_, _, _, _, _, _, _, _, _, _, _, _]⟩, ⟨b2, 32, 12, [_, _, _, _, _, _, _, _, _, _, _, _]⟩, ⟨b1, 47, 14, [_, _, _, _, _, _, _, _, _, _, _, _, _, _]⟩] ?_
    refine ⟨_, ?_, false, (fun _ => rfl), rfl⟩
    exact Wk.asS (n := 111) rfl (List.Sublist.refl _) sq_
   rintro _ ⟨dn, hdn, rfl⟩
   have pxgb := pickedF_bd a (show (1 : Int) ≤ 9 by decide)
   have pxgv := picked_vp G a 9 ha1 ha2 (by decide)
   generalize pickedF a 9 = xg at *
   refine CD.region ?_
   refine os_ (fa_ 2) ?_
   refine os_ (lb_ 2) ?_
   refine oc_ Tryd.call11 (pxgv) ?_
   refine os_ bn_ ?_
   refine os_ (fa_ 9) ?_
   refine ot_ 0 [_, _, _, _, _, _, _, _, _, _, _, _] Tryd.sizeOf3 ?_
   refine on_ [(1, _), (2, _), (3, _)] [⟨b3, 32, 12, [_, _, _, _, _, _, _, _, _, _, _, _]⟩, ⟨b2, 32, 12, [_, _, _, _, _, _, _, _, _, _, _, _]⟩, ⟨b1, 47, 14, [_, _, _, _, _, _, _, _, _, _, _, _, _, _]⟩] ?_
   refine ⟨_, ?_, { st0 with kind := 1 + 3, table := tn, names := N, count := ct, order := od, down := dn, limit := xg - 1 }, (pre_select htn hN hcn (hon.imp (fun h => size_0 h) id) hdn (by omega)), rfl⟩
   exact Wk.asS (n := 111) rfl (List.Sublist.refl _) sq_
  have hc2' := hc2
  (try simp only [V.cnd, ne_eq] at hc2')
  refine sr_ ?_
  refine os_ bn_ ?_
  refine om_ ?_
  refine nm_ [1, 2, 3, 85] ?_
  refine CD.cond ot (fun hc5 => ?_) (fun hc5 => ?_)
  ·have hc5' := hc5
   (try simp only [V.cnd, ne_eq] at hc5')
   obtain rfl : ki = 4 := by simp at hc5; omega
   refine CD.seq ?_
   have pxhb := pickedF_bd a (show (1 : Int) ≤ 5 by decide)
   have pxhv := picked_vp G a 5 ha1 ha2 (by decide)
   generalize pickedF a 5 = xh at *
   obtain ⟨hj, rfl⟩ := Int.eq_ofNat_of_zero_le pxhb.1
   have hhj : hj < stL.length := by show hj < 5; omega
   have hsn := st_ok stL[hj] (List.getElem_mem hhj)
   generalize hsng : stL[hj] = sn at *
   refine CD.region ?_
   refine ob_ (numD 0 [_, _, _, _, _]) [.string ⟨#[]⟩, .string ⟨#[]⟩, .string ⟨#[]⟩, .string ⟨#[]⟩, .string ⟨#[]⟩] [_, _, _, _, _] Tryd.zeroValue9 Tryd.runUnderlying29 Tryd.sizeOf9 (fun b87 => ?_)
   refine og_ 0 87 1 5 ?_
   refine os_ (fa_ 2) ?_
   refine os_ (lb_ 2) ?_
   refine oc_ Tryd.call11 (pxhv) ?_
   refine os_ (ix_ 1 (h := by first | exact .l (j := hj) rfl hhj | exact .r (j := hj) rfl hhj)) ?_
   refine os_ (still_r1 (mk := Op.load 9) rfl ot (by exact ld_fm0 (g := cS) (ls := stL) (i := hj) (d := .v (.string sn)) cS_len Tryd.isAgg9 hhj (by show some (D.v (.string (stL[hj]'hhj))) = some (D.v (.string sn)); rw [hsng]))) ?_
   refine os_ (fa_ 10) ?_
   refine ot_ 0 [_, _, _, _, _, _, _, _, _, _, _, _] Tryd.sizeOf9 ?_
   refine on_ [(1, _), (2, _), (3, _)] [⟨b3, 32, 12, [_, _, _, _, _, _, _, _, _, _, _, _]⟩, ⟨b2, 32, 12, [_, _, _, _, _, _, _, _, _, _, _, _]⟩, ⟨b1, 47, 14, [_, _, _, _, _, _, _, _, _, _, _, _, _, _]⟩] ?_
   refine CD.region ?_
   refine os_ (fa_ 5) ?_
   refine os_ (lab_ 2 [_, _, _, _]) ?_
   refine oc_ Tryd.call32 (Ops_vp (.mk x1 x2 x3 ts1) hto) ?_
   refine os_ (fa_ 11) ?_
   refine ot_ 0 [_, _, _, _, _, _, _, _, _, _, _, _] Tryd.sizeOf30 ?_
   refine on_ [(1, _), (2, _), (3, _)] [⟨b3, 32, 12, [_, _, _, _, _, _, _, _, _, _, _, _]⟩, ⟨b2, 32, 12, [_, _, _, _, _, _, _, _, _, _, _, _]⟩, ⟨b1, 47, 14, [_, _, _, _, _, _, _, _, _, _, _, _, _, _]⟩] ?_
   refine ⟨_, ?_, { st0 with kind := 1 + 4, table := tn, set := sn, to := opsAt 3 (.mk x1 x2 x3 ts1) }, (pre_update htn hsn (.mk x1 x2 x3 ts1)), rfl⟩
   exact Wk.asS (n := 111) rfl (List.Sublist.refl _) sq_
  have hc5' := hc5
  (try simp only [V.cnd, ne_eq] at hc5')
  have hk15 : ki = 1 ∨ ki = 5 := by simp at hc0 hc1 hc2 hc5; omega
  refine CD.skip ?_
  refine ⟨_, ?_, { st0 with kind := 1 + ki, table := tn }, (by (rcases hk15 with rfl | rfl; exact pre_drop htn; exact pre_delete htn)), rfl⟩
  exact Wk.asS (n := 111) rfl (List.Sublist.refl _) sq_
 rintro _ ⟨s, hpre, rfl⟩
 refine CD.seq ?_
 refine sr_ ?_
 refine os_ (fa_ 0) ?_
 refine os_ (lb_ 0) ?_
 refine os_ bn_ ?_
 refine om_ ?_
 refine OD.split (t := 101) lk (fun hg101 => ?_) (fun hg101 => ?_)
 ·have hg101' := hg101; (try simp only [V.cnd, ne_eq] at hg101')
  refine os_ (fa_ 13) ?_
  refine os_ (lb_ 2) ?_
  refine os_ un_ ?_
  refine os_ pkT_ ?_
  refine nm_ [1, 2, 3, 105] ?_
  refine CD.cond ot (fun hc6 => ?_) (fun hc6 => ?_)
  ·have hc6' := hc6
   (try simp only [V.cnd, ne_eq] at hc6')
   have hg4 : 4 ≤ s.kind ∧ bare = false := by (have q1 := hc6; simp at q1; first | exact ⟨by simpa using hg101, by simpa using q1⟩ | simp_all)
   have hgood := hpre.2 (opsAt 3 (.mk y1 y2 y3 ts2)) (wok_ops _) (.inl hg4.1)
   refine CD.region ?_
   refine os_ (fa_ 9) ?_
   refine os_ (lab_ 2 [_, _, _, _]) ?_
   refine oc_ Tryd.call32 (Ops_vp (.mk y1 y2 y3 ts2) hwh) ?_
   refine os_ (fa_ 6) ?_
   refine ot_ 0 [_, _, _, _, _, _, _, _, _, _, _, _] Tryd.sizeOf30 ?_
   refine on_ [(2, _), (3, _)] [⟨b3, 32, 12, [_, _, _, _, _, _, _, _, _, _, _, _]⟩, ⟨b2, 32, 12, [_, _, _, _, _, _, _, _, _, _, _, _]⟩, ⟨b1, 47, 14, [_, _, _, _, _, _, _, _, _, _, _, _, _, _]⟩] ?_
   refine sr_ ?_
   refine os_ (lab_ 0 [_, _, _, _, _, _, _, _, _, _, _, _]) ?_
   refine ot_ 1 [_, _, _, _, _, _, _, _, _, _, _, _] Tryd.sizeOf32 ?_
   refine on_ [(2, _)] [⟨b3, 32, 12, [_, _, _, _, _, _, _, _, _, _, _, _]⟩, ⟨b2, 32, 12, [_, _, _, _, _, _, _, _, _, _, _, _]⟩, ⟨b1, 47, 14, [_, _, _, _, _, _, _, _, _, _, _, _, _, _]⟩] ?_
   refine CD.ret ?_
   refine ⟨.inr rfl, _, [], List.nil_sublist _, ret_one Tryd.results15 (res_cells (k := 1) (ds := [_, _, _, _, _, _, _, _, _, _, _, _]) le_ lk rfl rfl Tryd.isAgg32 Tryd.sizeOf32 rfl rfl), ?_⟩
   exact ⟨{ s with wher := opsAt 3 (.mk y1 y2 y3 ts2) }, rfl, rfl, hgood⟩
  have hgood := hpre.good
  refine CD.skip ?_
  refine sr_ ?_
  refine os_ (lab_ 0 [_, _, _, _, _, _, _, _, _, _, _, _]) ?_
  refine ot_ 1 [_, _, _, _, _, _, _, _, _, _, _, _] Tryd.sizeOf32 ?_
  refine on_ [(2, _)] [⟨b3, 32, 12, [_, _, _, _, _, _, _, _, _, _, _, _]⟩, ⟨b2, 32, 12, [_, _, _, _, _, _, _, _, _, _, _, _]⟩, ⟨b1, 47, 14, [_, _, _, _, _, _, _, _, _, _, _, _, _, _]⟩] ?_
  refine CD.ret ?_
  refine ⟨.inr rfl, _, [], List.nil_sublist _, ret_one Tryd.results15 (res_cells (k := 1) (ds := [_, _, _, _, _, _, _, _, _, _, _, _]) le_ lk rfl rfl Tryd.isAgg32 Tryd.sizeOf32 rfl rfl), ?_⟩
  exact ⟨s, rfl, rfl, hgood⟩
 have hg101' := hg101; (try simp only [V.cnd, ne_eq] at hg101')
 refine sk_ ?_
 refine sk_ ?_
 refine sk_ ?_
 refine os_ pkF_ ?_
 refine nm_ [1, 2, 3, 105] ?_
 refine CD.condF ot (by first | rfl | assumption) ?_
 have hgood := hpre.good
 refine CD.skip ?_
 refine sr_ ?_
 refine os_ (lab_ 0 [_, _, _, _, _, _, _, _, _, _, _, _]) ?_
 refine ot_ 1 [_, _, _, _, _, _, _, _, _, _, _, _] Tryd.sizeOf32 ?_
 refine on_ [(2, _)] [⟨b3, 32, 12, [_, _, _, _, _, _, _, _, _, _, _, _]⟩, ⟨b2, 32, 12, [_, _, _, _, _, _, _, _, _, _, _, _]⟩, ⟨b1, 47, 14, [_, _, _, _, _, _, _, _, _, _, _, _, _, _]⟩] ?_
 refine CD.ret ?_
 refine ⟨.inr rfl, _, [], List.nil_sublist _, ret_one Tryd.results15 (res_cells (k := 1) (ds := [_, _, _, _, _, _, _, _, _, _, _, _]) le_ lk rfl rfl Tryd.isAgg32 Tryd.sizeOf32 rfl rfl), ?_⟩
 exact ⟨s, rfl, rfl, hgood⟩

end Go.Proofs.YtjgekbmahhhokaaDoor.Pa

namespace Go.Proofs.YtjgekbmahhhokaaDoor.Pa
open Go.RowKit V Pk Go.Proofs.YtjgekbmahhhokaaDoor.Vl Go.Proofs.YtjgekbmahhhokaaDoor.Nm
set_option linter.unusedVariables false
set_option linter.unusedSimpArgs false

variable {G : List (Nat × List Value)}
def dvS (s : StL) (r : D) : Prop := r = .agg (cSt s) ∧ okS s

theorem places32_Pbb : ∀ w, ((#[{ name := "Kind", type := 3, offset := 0, embedded := false, tag := "", pkgPath := "", byteOffset := 0 }, { name := "Table", type := 9, offset := 1, embedded := false, tag := "", pkgPath := "", byteOffset := 8 }, { name := "Cols", type := 27, offset := 2, embedded := false, tag := "", pkgPath := "", byteOffset := 24 }, { name := "Row", type := 28, offset := 3, embedded := false, tag := "", pkgPath := "", byteOffset := 48 }, { name := "Names", type := 29, offset := 4, embedded := false, tag := "", pkgPath := "", byteOffset := 72 }, { name := "Count", type := 4, offset := 5, embedded := false, tag := "", pkgPath := "", byteOffset := 96 }, { name := "Where", type := 30, offset := 6, embedded := false, tag := "", pkgPath := "", byteOffset := 104 }, { name := "Order", type := 9, offset := 7, embedded := false, tag := "", pkgPath := "", byteOffset := 128 }, { name := "Down", type := 4, offset := 8, embedded := false, tag := "", pkgPath := "", byteOffset := 144 }, { name := "Limit", type := 3, offset := 9, embedded := false, tag := "", pkgPath := "", byteOffset := 152 }, { name := "Set", type := 9, offset := 10, embedded := false, tag := "", pkgPath := "", byteOffset := 160 }, { name := "To", type := 30, offset := 11, embedded := false, tag := "", pkgPath := "", byteOffset := 176 }] : Array Field).mapM fun f => do pure (f.offset, ← sizeOf f.type) : Sem (Array (Nat × Nat))).run Tryd.prog w = .ok #[(0, 1), (1, 1), (2, 1), (3, 1), (4, 1), (5, 1), (6, 1), (7, 1), (8, 1), (9, 1), (10, 1), (11, 1)] w := fun w => by simp [Tryd.sizeOf27, Tryd.sizeOf28, Tryd.sizeOf29, Tryd.sizeOf3, Tryd.sizeOf30, Tryd.sizeOf4, Tryd.sizeOf9]

set_option maxHeartbeats 4000000 in
set_option maxRecDepth 100000 in
theorem statement_vx {br : Nat} {l : List Tk} (hl : l.length ≤ 100) (hm : (0, marksC) ∈ G) (hw : (2, wordsC) ∈ G) (hk : (5, cmpC) ∈ G) (hty : (1, typesC) ∈ G) (ht : ∀ t ∈ l, t.s.size ≤ maxLen ∧ (t.k = 2 → 0 ≤ t.n ∧ t.n ≤ 9223372036854775807)) (p : Nat) (hp : p ≤ l.length) (os : List OpL) (R : Rs StL) (hR : R = stP l p os) (ad : Option Addr) (n cap : Nat) : VX Tryd.prog G 25 [.v (.pointer (some ⟨br, 0, none⟩))] [⟨br, 70, 3, [.list 3 (l.flatMap cT) l.length, .v (.int .i64 ((p : Nat) : Int)), .v (.slice ad n cap)]⟩] (fun r S' => EndR br l R dvS r S') (PanX R) := by
 refine VX.body Tryd.func25 rfl Tryd.ntmps25 le_ fun X0 w0 S00 => ?_
 refine sr_ ?_
 refine OD.alloc (ds := [_, _, _, _, _, _, _, _, _, _, _, _]) wp_ rfl rfl Tryd.zeroValue32 rfl (fun b2 => ?_)
 refine on_ [(0, _), (2, _)] [⟨b2, 32, 12, [_, _, _, _, _, _, _, _, _, _, _, _]⟩, ⟨br, 70, 3, [_, _, _]⟩] ?_
 refine sr_ ?_
 refine os_ (still_bld (pl := [(9, _)]) (ds := [_, _, _, _, _, _, _, _, _, _, _, _]) rfl Tryd.zeroValue32 Tryd.runUnderlying32 places32_Pbb ⟨rfl, opd_const, trivial⟩ rfl rfl) ?_
 refine OD.alloc (ds := [_, _, _, _, _, _, _, _, _, _, _, _]) wp_ rfl rfl Tryd.zeroValue32 rfl (fun b3 => ?_)
 refine ot_ 0 [_, _, _, _, _, _, _, _, _, _, _, _] Tryd.sizeOf32 ?_
 refine on_ [(0, _), (2, _), (3, _)] [⟨b3, 32, 12, [_, _, _, _, _, _, _, _, _, _, _, _]⟩, ⟨b2, 32, 12, [_, _, _, _, _, _, _, _, _, _, _, _]⟩, ⟨br, 70, 3, [_, _, _]⟩] ?_
 refine CD.seq ?_
 refine CD.block ?_
 refine CD.seq ?_
 refine CD.perm (S' := [_, _, _]) (List.perm_append_comm (l₁ := [_, _]) (l₂ := [_])) ?_
 refine CD.cells (k := 1) (cs' := [_, _, .list 2 [] 0, .list 3 [] 0, _, _, .list 5 [] 0, _, _, _, _, .list 5 [] 0]) (S' := [⟨br, 70, 3, [.list 3 (l.flatMap cT) l.length, .v (.int .i64 ((p : Nat) : Int)), .v (.slice ad n cap)]⟩, _, _]) rfl (by repeat (first | exact trivial | exact ⟨gv_rfl, trivial⟩ | exact ⟨gv_nil, trivial⟩ | refine ⟨gv_rfl, ?_⟩ | refine ⟨gv_nil, ?_⟩)) rfl ?_
 refine CD.region ?_
 refine om_ ?_
 refine OD.call wp_ rfl rfl rfl Tryd.call43 (eat_vc l hl p 1 ⟨#[67, 82, 69, 65, 84, 69]⟩ ad n cap br) ⟨ot, opd_const, opd_const, trivial⟩ (List.Perm.refl _) ?_
 rintro _ _ ⟨rfl, rfl⟩
 refine OD.perm (S' := ⟨br, 70, 3, [.list 3 (l.flatMap cT) l.length, .v (.int .i64 (((if isQ l p 1 ⟨#[67, 82, 69, 65, 84, 69]⟩ = true then p + 1 else p) : Nat) : Int)), .v (.slice ad n cap)]⟩ :: [⟨b3, 32, 12, [_, _, _, _, _, _, _, _, _, _, _, _]⟩, ⟨b2, 32, 12, [_, _, _, _, _, _, _, _, _, _, _, _]⟩]) (List.Perm.refl _) ?_
 refine om_ ?_
 refine on_ [(0, _), (2, _), (3, _), (7, _)] [⟨br, 70, 3, [_, _, _]⟩, ⟨b3, 32, 12, [_, _, _, _, _, _, _, _, _, _, _, _]⟩, ⟨b2, 32, 12, [_, _, _, _, _, _, _, _, _, _, _, _]⟩] ?_
 refine CD.cond ot (fun hc0 => ?_) (fun hc0 => ?_)
 ·have hc0' := hc0
  (try simp only [V.cnd, ne_eq] at hc0')
  have e0t : isQ l p 1 ⟨#[67, 82, 69, 65, 84, 69]⟩ = true := hc0
  rw [e0t]
  simp only [if_true]
  have hR1 : R = (mustP l [⟨#[84, 65, 66, 76, 69]⟩] (p + 1) os).bind (fun _ p ops => (nameP l p ops).bind (fun t p ops => (colsB l p ops).bind (fun c p ops => .ok { st0 with kind := 1, table := t, cols := c } p ops))) := hR.trans (by unfold stP; rw [if_pos e0t])
  refine sr_ ?_
  refine om_ ?_
  refine ob_ (numD 0 [_]) [.string ⟨#[]⟩] [_] Tryd.zeroValue9 Tryd.runUnderlying29 Tryd.sizeOf9 (fun b11 => ?_)
  refine og_ 0 11 1 1 ?_
  refine OD.callX wp_ rfl rfl rfl Tryd.call44 (must_vx l hl [⟨#[84, 65, 66, 76, 69]⟩] (by decide) (p + 1) ad n cap br) ⟨ot, by exact rfl, trivial⟩ (List.Perm.refl _) (fun ch hch => (Or.inr ⟨ch, rfl, by obtain ⟨q, e, h1, h2⟩ := hch; exact ⟨q, e, hR1.trans (by rw [h1]; rfl), h2⟩⟩ : BodyX _ _ _ _ _ _)) ?_
  rintro _ _ ⟨p2, hr2, rfl⟩
  refine OD.perm (S' := ⟨br, 70, 3, [.list 3 (l.flatMap cT) l.length, .v (.int .i64 ((p2 : Nat) : Int)), .v (.slice ad n cap)]⟩ :: [⟨b3, 32, 12, [_, _, _, _, _, _, _, _, _, _, _, _]⟩, ⟨b2, 32, 12, [_, _, _, _, _, _, _, _, _, _, _, _]⟩]) (List.Perm.refl _) ?_
  have hp2 := (must_le (hr2 []) (isQ_lt e0t)).2.1
  have hR2 : R = (nameP l p2 os).bind (fun t p ops => (colsB l p ops).bind (fun c p ops => .ok { st0 with kind := 1, table := t, cols := c } p ops)) := hR1.trans (by rw [hr2]; rfl)
  refine on_ [(0, _), (2, _), (3, _)] [⟨br, 70, 3, [_, _, _]⟩, ⟨b3, 32, 12, [_, _, _, _, _, _, _, _, _, _, _, _]⟩, ⟨b2, 32, 12, [_, _, _, _, _, _, _, _, _, _, _, _]⟩] ?_
  refine sr_ ?_
  refine om_ ?_
  refine OD.callX wp_ rfl rfl rfl Tryd.call45 (name_vx hm hw l hl ht p2 ad n cap br) ⟨ot, trivial⟩ (List.Perm.refl _) (fun ch hch => (Or.inr ⟨ch, rfl, by obtain ⟨q, e, h1, h2⟩ := hch; exact ⟨q, e, hR2.trans (by rw [h1]; rfl), h2⟩⟩ : BodyX _ _ _ _ _ _)) ?_
  rintro _ _ ⟨t, hr3, rfl, rfl⟩
  refine OD.perm (S' := ⟨br, 70, 3, [.list 3 (l.flatMap cT) l.length, .v (.int .i64 (((p2 + 1) : Nat) : Int)), .v (.slice ad n cap)]⟩ :: [⟨b3, 32, 12, [_, _, _, _, _, _, _, _, _, _, _, _]⟩, ⟨b2, 32, 12, [_, _, _, _, _, _, _, _, _, _, _, _]⟩]) (List.Perm.refl _) ?_
  have hlt3 := (name_le (hr3 [])).2.2
  have hR3 : R = (colsB l (p2 + 1) os).bind (fun c p ops => .ok { st0 with kind := 1, table := t, cols := c } p ops) := hR2.trans (by rw [hr3]; rfl)
  refine os_ (fa_ 0) ?_
  refine ot_ 1 [_, _, _, _, _, _, _, _, _, _, _, _] Tryd.sizeOf3 ?_
  refine os_ (fa_ 1) ?_
  refine ot_ 1 [_, _, _, _, _, _, _, _, _, _, _, _] Tryd.sizeOf9 ?_
  refine on_ [(0, _), (2, _), (3, _)] [⟨br, 70, 3, [_, _, _]⟩, ⟨b3, 32, 12, [_, _, _, _, _, _, _, _, _, _, _, _]⟩, ⟨b2, 32, 12, [_, _, _, _, _, _, _, _, _, _, _, _]⟩] ?_
  refine CD.region ?_
  refine om_ ?_
  refine OD.callX wp_ rfl rfl rfl Tryd.call46 (columns_vx hl hm hw hty ht (p2 + 1) hlt3 os (colsB l (p2 + 1) os) rfl ad n cap) ⟨ot, trivial⟩ (List.Perm.refl _) (fun ch hch => (Or.inr ⟨ch, rfl, by obtain ⟨q, e, h1, h2⟩ := hch; exact ⟨q, e, hR3.trans (by rw [h1]; rfl), h2⟩⟩ : BodyX _ _ _ _ _ _)) ?_
  rintro _ _ ⟨c, p4, o4, ad4, n4, cap4, hr4, ⟨rfl, hv_c⟩, hp4, rfl⟩
  refine OD.perm (S' := ⟨br, 70, 3, [.list 3 (l.flatMap cT) l.length, .v (.int .i64 ((p4 : Nat) : Int)), .v (.slice ad4 n4 cap4)]⟩ :: [⟨b3, 32, 12, [_, _, _, _, _, _, _, _, _, _, _, _]⟩, ⟨b2, 32, 12, [_, _, _, _, _, _, _, _, _, _, _, _]⟩]) (List.Perm.refl _) ?_
  have hR4 : R = .ok { st0 with kind := 1, table := t, cols := c } p4 o4 := hR3.trans (by rw [hr4]; rfl)
  refine os_ (fa_ 2) ?_
  refine ot_ 1 [_, _, _, _, _, _, _, _, _, _, _, _] Tryd.sizeOf27 ?_
  refine on_ [(2, _), (3, _)] [⟨br, 70, 3, [_, _, _]⟩, ⟨b3, 32, 12, [_, _, _, _, _, _, _, _, _, _, _, _]⟩, ⟨b2, 32, 12, [_, _, _, _, _, _, _, _, _, _, _, _]⟩] ?_
  refine CD.seq ?_
  refine CD.cells (k := 1) (cs' := [_, _, _, _, .list 1 [] 0, _, _, _, _, _, _, _]) (S' := [⟨br, 70, 3, [.list 3 (l.flatMap cT) l.length, .v (.int .i64 ((p4 : Nat) : Int)), .v (.slice ad4 n4 cap4)]⟩, _, _]) rfl (by repeat (first | exact trivial | exact ⟨gv_rfl, trivial⟩ | exact ⟨gv_nil, trivial⟩ | refine ⟨gv_rfl, ?_⟩ | refine ⟨gv_nil, ?_⟩)) rfl ?_
  refine CD.region ?_
  refine os_ (lab_ 1 [_, _, _, _, _, _, _, _, _, _, _, _]) ?_
  refine ot_ 2 [_, _, _, _, _, _, _, _, _, _, _, _] Tryd.sizeOf32 ?_
  refine on_ [(2, _)] [⟨br, 70, 3, [_, _, _]⟩, ⟨b3, 32, 12, [_, _, _, _, _, _, _, _, _, _, _, _]⟩, ⟨b2, 32, 12, [_, _, _, _, _, _, _, _, _, _, _, _]⟩] ?_
  refine CD.ret ?_
  refine Or.inl ?_
  refine ⟨.inr rfl, _, [⟨br, 70, 3, [.list 3 (l.flatMap cT) l.length, .v (.int .i64 ((p4 : Nat) : Int)), .v (.slice ad4 n4 cap4)]⟩], sw_, ret_one Tryd.results25 (res_cells (k := 2) (ds := [_, _, _, _, _, _, _, _, _, _, _, _]) le_ lk rfl rfl Tryd.isAgg32 Tryd.sizeOf32 rfl rfl), ?_⟩
  exact ⟨{ st0 with kind := 1, table := t, cols := c }, p4, o4, _, _, _, hR4, ⟨rfl, ⟨hv_c, Nat.zero_le _, Nat.zero_le _, Nat.zero_le _, Nat.zero_le _⟩⟩, hp4, rfl⟩
 have hc0' := hc0
 (try simp only [V.cnd, ne_eq] at hc0')
 have e0f : isQ l p 1 ⟨#[67, 82, 69, 65, 84, 69]⟩ = false := hc0
 rw [e0f]
 simp only [Bool.false_eq_true, if_false]
 refine sr_ ?_
 refine om_ ?_
 refine OD.call wp_ rfl rfl rfl Tryd.call43 (eat_vc l hl p 1 ⟨#[68, 82, 79, 80]⟩ ad n cap br) ⟨ot, opd_const, opd_const, trivial⟩ (List.Perm.refl _) ?_
 rintro _ _ ⟨rfl, rfl⟩
 refine OD.perm (S' := ⟨br, 70, 3, [.list 3 (l.flatMap cT) l.length, .v (.int .i64 (((if isQ l p 1 ⟨#[68, 82, 79, 80]⟩ = true then p + 1 else p) : Nat) : Int)), .v (.slice ad n cap)]⟩ :: [⟨b3, 32, 12, [_, _, _, _, _, _, _, _, _, _, _, _]⟩, ⟨b2, 32, 12, [_, _, _, _, _, _, _, _, _, _, _, _]⟩]) (List.Perm.refl _) ?_
 refine om_ ?_
 refine on_ [(0, _), (2, _), (3, _), (20, _)] [⟨br, 70, 3, [_, _, _]⟩, ⟨b3, 32, 12, [_, _, _, _, _, _, _, _, _, _, _, _]⟩, ⟨b2, 32, 12, [_, _, _, _, _, _, _, _, _, _, _, _]⟩] ?_
 refine CD.cond ot (fun hc1 => ?_) (fun hc1 => ?_)
 ·have hc1' := hc1
  (try simp only [V.cnd, ne_eq] at hc1')
  have e1t : isQ l p 1 ⟨#[68, 82, 79, 80]⟩ = true := hc1
  rw [e1t]
  simp only [if_true]
  have hR5 : R = (mustP l [⟨#[84, 65, 66, 76, 69]⟩] (p + 1) os).bind (fun _ p ops => (nameP l p ops).bind (fun t p ops => .ok { st0 with kind := 2, table := t } p ops)) := hR.trans (by unfold stP; rw [if_neg (F_ e0f), if_pos e1t])
  refine sr_ ?_
  refine om_ ?_
  refine ob_ (numD 0 [_]) [.string ⟨#[]⟩] [_] Tryd.zeroValue9 Tryd.runUnderlying29 Tryd.sizeOf9 (fun b24 => ?_)
  refine og_ 0 24 1 1 ?_
  refine OD.callX wp_ rfl rfl rfl Tryd.call44 (must_vx l hl [⟨#[84, 65, 66, 76, 69]⟩] (by decide) (p + 1) ad n cap br) ⟨ot, by exact rfl, trivial⟩ (List.Perm.refl _) (fun ch hch => (Or.inr ⟨ch, rfl, by obtain ⟨q, e, h1, h2⟩ := hch; exact ⟨q, e, hR5.trans (by rw [h1]; rfl), h2⟩⟩ : BodyX _ _ _ _ _ _)) ?_
  rintro _ _ ⟨p6, hr6, rfl⟩
  refine OD.perm (S' := ⟨br, 70, 3, [.list 3 (l.flatMap cT) l.length, .v (.int .i64 ((p6 : Nat) : Int)), .v (.slice ad n cap)]⟩ :: [⟨b3, 32, 12, [_, _, _, _, _, _, _, _, _, _, _, _]⟩, ⟨b2, 32, 12, [_, _, _, _, _, _, _, _, _, _, _, _]⟩]) (List.Perm.refl _) ?_
  have hp6 := (must_le (hr6 []) (isQ_lt e1t)).2.1
  have hR6 : R = (nameP l p6 os).bind (fun t p ops => .ok { st0 with kind := 2, table := t } p ops) := hR5.trans (by rw [hr6]; rfl)
  refine on_ [(0, _), (2, _), (3, _)] [⟨br, 70, 3, [_, _, _]⟩, ⟨b3, 32, 12, [_, _, _, _, _, _, _, _, _, _, _, _]⟩, ⟨b2, 32, 12, [_, _, _, _, _, _, _, _, _, _, _, _]⟩] ?_
  refine CD.region ?_
  refine om_ ?_
  refine OD.callX wp_ rfl rfl rfl Tryd.call45 (name_vx hm hw l hl ht p6 ad n cap br) ⟨ot, trivial⟩ (List.Perm.refl _) (fun ch hch => (Or.inr ⟨ch, rfl, by obtain ⟨q, e, h1, h2⟩ := hch; exact ⟨q, e, hR6.trans (by rw [h1]; rfl), h2⟩⟩ : BodyX _ _ _ _ _ _)) ?_
  rintro _ _ ⟨t, hr7, rfl, rfl⟩
  refine OD.perm (S' := ⟨br, 70, 3, [.list 3 (l.flatMap cT) l.length, .v (.int .i64 (((p6 + 1) : Nat) : Int)), .v (.slice ad n cap)]⟩ :: [⟨b3, 32, 12, [_, _, _, _, _, _, _, _, _, _, _, _]⟩, ⟨b2, 32, 12, [_, _, _, _, _, _, _, _, _, _, _, _]⟩]) (List.Perm.refl _) ?_
  have hlt7 := (name_le (hr7 [])).2.2
  have hR7 : R = .ok { st0 with kind := 2, table := t } (p6 + 1) os := hR6.trans (by rw [hr7]; rfl)
  refine os_ (fa_ 0) ?_
  refine ot_ 1 [_, _, _, _, _, _, _, _, _, _, _, _] Tryd.sizeOf3 ?_
  refine os_ (fa_ 1) ?_
  refine ot_ 1 [_, _, _, _, _, _, _, _, _, _, _, _] Tryd.sizeOf9 ?_
  refine on_ [(2, _), (3, _)] [⟨br, 70, 3, [_, _, _]⟩, ⟨b3, 32, 12, [_, _, _, _, _, _, _, _, _, _, _, _]⟩, ⟨b2, 32, 12, [_, _, _, _, _, _, _, _, _, _, _, _]⟩] ?_
  refine CD.seq ?_
  refine CD.cells (k := 1) (cs' := [_, _, _, _, .list 1 [] 0, _, _, _, _, _, _, _]) (S' := [⟨br, 70, 3, [.list 3 (l.flatMap cT) l.length, .v (.int .i64 (((p6 + 1) : Nat) : Int)), .v (.slice ad n cap)]⟩, _, _]) rfl (by repeat (first | exact trivial | exact ⟨gv_rfl, trivial⟩ | exact ⟨gv_nil, trivial⟩ | refine ⟨gv_rfl, ?_⟩ | refine ⟨gv_nil, ?_⟩)) rfl ?_
  refine CD.region ?_
  refine os_ (lab_ 1 [_, _, _, _, _, _, _, _, _, _, _, _]) ?_
  refine ot_ 2 [_, _, _, _, _, _, _, _, _, _, _, _] Tryd.sizeOf32 ?_
  refine on_ [(2, _)] [⟨br, 70, 3, [_, _, _]⟩, ⟨b3, 32, 12, [_, _, _, _, _, _, _, _, _, _, _, _]⟩, ⟨b2, 32, 12, [_, _, _, _, _, _, _, _, _, _, _, _]⟩] ?_
  refine CD.ret ?_
  refine Or.inl ?_
  refine ⟨.inr rfl, _, [⟨br, 70, 3, [.list 3 (l.flatMap cT) l.length, .v (.int .i64 (((p6 + 1) : Nat) : Int)), .v (.slice ad n cap)]⟩], sw_, ret_one Tryd.results25 (res_cells (k := 2) (ds := [_, _, _, _, _, _, _, _, _, _, _, _]) le_ lk rfl rfl Tryd.isAgg32 Tryd.sizeOf32 rfl rfl), ?_⟩
  exact ⟨{ st0 with kind := 2, table := t }, (p6 + 1), os, _, _, _, hR7, ⟨rfl, ⟨Nat.zero_le _, Nat.zero_le _, Nat.zero_le _, Nat.zero_le _, Nat.zero_le _⟩⟩, hlt7, rfl⟩
 have hc1' := hc1
 (try simp only [V.cnd, ne_eq] at hc1')
 have e1f : isQ l p 1 ⟨#[68, 82, 79, 80]⟩ = false := hc1
 rw [e1f]
 simp only [Bool.false_eq_true, if_false]
 refine sr_ ?_
 refine om_ ?_
 refine OD.call wp_ rfl rfl rfl Tryd.call43 (eat_vc l hl p 1 ⟨#[73, 78, 83, 69, 82, 84]⟩ ad n cap br) ⟨ot, opd_const, opd_const, trivial⟩ (List.Perm.refl _) ?_
 rintro _ _ ⟨rfl, rfl⟩
 refine OD.perm (S' := ⟨br, 70, 3, [.list 3 (l.flatMap cT) l.length, .v (.int .i64 (((if isQ l p 1 ⟨#[73, 78, 83, 69, 82, 84]⟩ = true then p + 1 else p) : Nat) : Int)), .v (.slice ad n cap)]⟩ :: [⟨b3, 32, 12, [_, _, _, _, _, _, _, _, _, _, _, _]⟩, ⟨b2, 32, 12, [_, _, _, _, _, _, _, _, _, _, _, _]⟩]) (List.Perm.refl _) ?_
 refine om_ ?_
 refine on_ [(0, _), (2, _), (3, _), (30, _)] [⟨br, 70, 3, [_, _, _]⟩, ⟨b3, 32, 12, [_, _, _, _, _, _, _, _, _, _, _, _]⟩, ⟨b2, 32, 12, [_, _, _, _, _, _, _, _, _, _, _, _]⟩] ?_
 refine CD.cond ot (fun hc2 => ?_) (fun hc2 => ?_)
 ·have hc2' := hc2
  (try simp only [V.cnd, ne_eq] at hc2')
  have e2t : isQ l p 1 ⟨#[73, 78, 83, 69, 82, 84]⟩ = true := hc2
  rw [e2t]
  simp only [if_true]
  have hR8 : R = (mustP l [⟨#[73, 78, 84, 79]⟩] (p + 1) os).bind (fun _ p ops => (nameP l p ops).bind (fun t p ops => (mustP l [⟨#[86, 65, 76, 85, 69, 83]⟩] p ops).bind (fun _ p ops => (rowB l p ops).bind (fun r p ops => .ok { st0 with kind := 3, table := t, row := r } p ops)))) := hR.trans (by unfold stP; rw [if_neg (F_ e0f), if_neg (F_ e1f), if_pos e2t])
  refine sr_ ?_
  refine om_ ?_
  refine ob_ (numD 0 [_]) [.string ⟨#[]⟩] [_] Tryd.zeroValue9 Tryd.runUnderlying29 Tryd.sizeOf9 (fun b34 => ?_)
  refine og_ 0 34 1 1 ?_
  refine OD.callX wp_ rfl rfl rfl Tryd.call44 (must_vx l hl [⟨#[73, 78, 84, 79]⟩] (by decide) (p + 1) ad n cap br) ⟨ot, by exact rfl, trivial⟩ (List.Perm.refl _) (fun ch hch => (Or.inr ⟨ch, rfl, by obtain ⟨q, e, h1, h2⟩ := hch; exact ⟨q, e, hR8.trans (by rw [h1]; rfl), h2⟩⟩ : BodyX _ _ _ _ _ _)) ?_
  rintro _ _ ⟨p9, hr9, rfl⟩
  refine OD.perm (S' := ⟨br, 70, 3, [.list 3 (l.flatMap cT) l.length, .v (.int .i64 ((p9 : Nat) : Int)), .v (.slice ad n cap)]⟩ :: [⟨b3, 32, 12, [_, _, _, _, _, _, _, _, _, _, _, _]⟩, ⟨b2, 32, 12, [_, _, _, _, _, _, _, _, _, _, _, _]⟩]) (List.Perm.refl _) ?_
  have hp9 := (must_le (hr9 []) (isQ_lt e2t)).2.1
  have hR9 : R = (nameP l p9 os).bind (fun t p ops => (mustP l [⟨#[86, 65, 76, 85, 69, 83]⟩] p ops).bind (fun _ p ops => (rowB l p ops).bind (fun r p ops => .ok { st0 with kind := 3, table := t, row := r } p ops))) := hR8.trans (by rw [hr9]; rfl)
  refine on_ [(0, _), (2, _), (3, _)] [⟨br, 70, 3, [_, _, _]⟩, ⟨b3, 32, 12, [_, _, _, _, _, _, _, _, _, _, _, _]⟩, ⟨b2, 32, 12, [_, _, _, _, _, _, _, _, _, _, _, _]⟩] ?_
  refine sr_ ?_
  refine om_ ?_
  refine OD.callX wp_ rfl rfl rfl Tryd.call45 (name_vx hm hw l hl ht p9 ad n cap br) ⟨ot, trivial⟩ (List.Perm.refl _) (fun ch hch => (Or.inr ⟨ch, rfl, by obtain ⟨q, e, h1, h2⟩ := hch; exact ⟨q, e, hR9.trans (by rw [h1]; rfl), h2⟩⟩ : BodyX _ _ _ _ _ _)) ?_
  rintro _ _ ⟨t, hr10, rfl, rfl⟩
  refine OD.perm (S' := ⟨br, 70, 3, [.list 3 (l.flatMap cT) l.length, .v (.int .i64 (((p9 + 1) : Nat) : Int)), .v (.slice ad n cap)]⟩ :: [⟨b3, 32, 12, [_, _, _, _, _, _, _, _, _, _, _, _]⟩, ⟨b2, 32, 12, [_, _, _, _, _, _, _, _, _, _, _, _]⟩]) (List.Perm.refl _) ?_
  have hlt10 := (name_le (hr10 [])).2.2
  have hR10 : R = (mustP l [⟨#[86, 65, 76, 85, 69, 83]⟩] (p9 + 1) os).bind (fun _ p ops => (rowB l p ops).bind (fun r p ops => .ok { st0 with kind := 3, table := t, row := r } p ops)) := hR9.trans (by rw [hr10]; rfl)
  refine os_ (fa_ 0) ?_
  refine ot_ 1 [_, _, _, _, _, _, _, _, _, _, _, _] Tryd.sizeOf3 ?_
  refine os_ (fa_ 1) ?_
  refine ot_ 1 [_, _, _, _, _, _, _, _, _, _, _, _] Tryd.sizeOf9 ?_
  refine on_ [(0, _), (2, _), (3, _)] [⟨br, 70, 3, [_, _, _]⟩, ⟨b3, 32, 12, [_, _, _, _, _, _, _, _, _, _, _, _]⟩, ⟨b2, 32, 12, [_, _, _, _, _, _, _, _, _, _, _, _]⟩] ?_
  refine sr_ ?_
  refine om_ ?_
  refine ob_ (numD 0 [_]) [.string ⟨#[]⟩] [_] Tryd.zeroValue9 Tryd.runUnderlying29 Tryd.sizeOf9 (fun b41 => ?_)
  refine og_ 0 41 1 1 ?_
  refine OD.callX wp_ rfl rfl rfl Tryd.call44 (must_vx l hl [⟨#[86, 65, 76, 85, 69, 83]⟩] (by decide) (p9 + 1) ad n cap br) ⟨ot, by exact rfl, trivial⟩ (List.Perm.refl _) (fun ch hch => (Or.inr ⟨ch, rfl, by obtain ⟨q, e, h1, h2⟩ := hch; exact ⟨q, e, hR10.trans (by rw [h1]; rfl), h2⟩⟩ : BodyX _ _ _ _ _ _)) ?_
  rintro _ _ ⟨p11, hr11, rfl⟩
  refine OD.perm (S' := ⟨br, 70, 3, [.list 3 (l.flatMap cT) l.length, .v (.int .i64 ((p11 : Nat) : Int)), .v (.slice ad n cap)]⟩ :: [⟨b3, 32, 12, [_, _, _, _, _, _, _, _, _, _, _, _]⟩, ⟨b2, 32, 12, [_, _, _, _, _, _, _, _, _, _, _, _]⟩]) (List.Perm.refl _) ?_
  have hp11 := (must_le (hr11 []) hlt10).2.1
  have hR11 : R = (rowB l p11 os).bind (fun r p ops => .ok { st0 with kind := 3, table := t, row := r } p ops) := hR10.trans (by rw [hr11]; rfl)
  refine on_ [(0, _), (2, _), (3, _)] [⟨br, 70, 3, [_, _, _]⟩, ⟨b3, 32, 12, [_, _, _, _, _, _, _, _, _, _, _, _]⟩, ⟨b2, 32, 12, [_, _, _, _, _, _, _, _, _, _, _, _]⟩] ?_
  refine CD.region ?_
  refine om_ ?_
  refine OD.callX wp_ rfl rfl rfl Tryd.call47 (row_vx hl ht p11 hp11 os (rowB l p11 os) rfl ad n cap) ⟨ot, trivial⟩ (List.Perm.refl _) (fun ch hch => (Or.inr ⟨ch, rfl, by obtain ⟨q, e, h1, h2⟩ := hch; exact ⟨q, e, hR11.trans (by rw [h1]; rfl), h2⟩⟩ : BodyX _ _ _ _ _ _)) ?_
  rintro _ _ ⟨r, p12, o12, ad12, n12, cap12, hr12, ⟨rfl, hv_r⟩, hp12, rfl⟩
  refine OD.perm (S' := ⟨br, 70, 3, [.list 3 (l.flatMap cT) l.length, .v (.int .i64 ((p12 : Nat) : Int)), .v (.slice ad12 n12 cap12)]⟩ :: [⟨b3, 32, 12, [_, _, _, _, _, _, _, _, _, _, _, _]⟩, ⟨b2, 32, 12, [_, _, _, _, _, _, _, _, _, _, _, _]⟩]) (List.Perm.refl _) ?_
  have hR12 : R = .ok { st0 with kind := 3, table := t, row := r } p12 o12 := hR11.trans (by rw [hr12]; rfl)
  refine os_ (fa_ 3) ?_
  refine ot_ 1 [_, _, _, _, _, _, _, _, _, _, _, _] Tryd.sizeOf28 ?_
  refine on_ [(2, _), (3, _)] [⟨br, 70, 3, [_, _, _]⟩, ⟨b3, 32, 12, [_, _, _, _, _, _, _, _, _, _, _, _]⟩, ⟨b2, 32, 12, [_, _, _, _, _, _, _, _, _, _, _, _]⟩] ?_
  refine CD.seq ?_
  refine CD.cells (k := 1) (cs' := [_, _, _, _, .list 1 [] 0, _, _, _, _, _, _, _]) (S' := [⟨br, 70, 3, [.list 3 (l.flatMap cT) l.length, .v (.int .i64 ((p12 : Nat) : Int)), .v (.slice ad12 n12 cap12)]⟩, _, _]) rfl (by repeat (first | exact trivial | exact ⟨gv_rfl, trivial⟩ | exact ⟨gv_nil, trivial⟩ | refine ⟨gv_rfl, ?_⟩ | refine ⟨gv_nil, ?_⟩)) rfl ?_
  refine CD.region ?_
  refine os_ (lab_ 1 [_, _, _, _, _, _, _, _, _, _, _, _]) ?_
  refine ot_ 2 [_, _, _, _, _, _, _, _, _, _, _, _] Tryd.sizeOf32 ?_
  refine on_ [(2, _)] [⟨br, 70, 3, [_, _, _]⟩, ⟨b3, 32, 12, [_, _, _, _, _, _, _, _, _, _, _, _]⟩, ⟨b2, 32, 12, [_, _, _, _, _, _, _, _, _, _, _, _]⟩] ?_
  refine CD.ret ?_
  refine Or.inl ?_
  refine ⟨.inr rfl, _, [⟨br, 70, 3, [.list 3 (l.flatMap cT) l.length, .v (.int .i64 ((p12 : Nat) : Int)), .v (.slice ad12 n12 cap12)]⟩], sw_, ret_one Tryd.results25 (res_cells (k := 2) (ds := [_, _, _, _, _, _, _, _, _, _, _, _]) le_ lk rfl rfl Tryd.isAgg32 Tryd.sizeOf32 rfl rfl), ?_⟩
  exact ⟨{ st0 with kind := 3, table := t, row := r }, p12, o12, _, _, _, hR12, ⟨rfl, ⟨Nat.zero_le _, hv_r, Nat.zero_le _, Nat.zero_le _, Nat.zero_le _⟩⟩, hp12, rfl⟩
 have hc2' := hc2
 (try simp only [V.cnd, ne_eq] at hc2')
 have e2f : isQ l p 1 ⟨#[73, 78, 83, 69, 82, 84]⟩ = false := hc2
 rw [e2f]
 simp only [Bool.false_eq_true, if_false]
 refine sr_ ?_
 refine om_ ?_
 refine OD.call wp_ rfl rfl rfl Tryd.call43 (eat_vc l hl p 1 ⟨#[83, 69, 76, 69, 67, 84]⟩ ad n cap br) ⟨ot, opd_const, opd_const, trivial⟩ (List.Perm.refl _) ?_
 rintro _ _ ⟨rfl, rfl⟩
 refine OD.perm (S' := ⟨br, 70, 3, [.list 3 (l.flatMap cT) l.length, .v (.int .i64 (((if isQ l p 1 ⟨#[83, 69, 76, 69, 67, 84]⟩ = true then p + 1 else p) : Nat) : Int)), .v (.slice ad n cap)]⟩ :: [⟨b3, 32, 12, [_, _, _, _, _, _, _, _, _, _, _, _]⟩, ⟨b2, 32, 12, [_, _, _, _, _, _, _, _, _, _, _, _]⟩]) (List.Perm.refl _) ?_
 refine om_ ?_
 refine on_ [(0, _), (2, _), (3, _), (46, _)] [⟨br, 70, 3, [_, _, _]⟩, ⟨b3, 32, 12, [_, _, _, _, _, _, _, _, _, _, _, _]⟩, ⟨b2, 32, 12, [_, _, _, _, _, _, _, _, _, _, _, _]⟩] ?_
 refine CD.cond ot (fun hc3 => ?_) (fun hc3 => ?_)
 ·have hc3' := hc3
  (try simp only [V.cnd, ne_eq] at hc3')
  have e3t : isQ l p 1 ⟨#[83, 69, 76, 69, 67, 84]⟩ = true := hc3
  rw [e3t]
  simp only [if_true]
  have hR13 : R = pickP l (p + 1) os := hR.trans (by unfold stP; rw [if_neg (F_ e0f), if_neg (F_ e1f), if_neg (F_ e2f), if_pos e3t])
  refine sr_ ?_
  refine os_ (fa_ 0) ?_
  refine ot_ 1 [_, _, _, _, _, _, _, _, _, _, _, _] Tryd.sizeOf3 ?_
  refine on_ [(0, _), (2, _), (3, _)] [⟨br, 70, 3, [_, _, _]⟩, ⟨b3, 32, 12, [_, _, _, _, _, _, _, _, _, _, _, _]⟩, ⟨b2, 32, 12, [_, _, _, _, _, _, _, _, _, _, _, _]⟩] ?_
  refine CD.region ?_
  refine om_ ?_
  refine OD.callX wp_ rfl rfl rfl Tryd.call48 (pick_vx hl hm hw hk ht (p + 1) (isQ_lt e3t) os _ hR13 ad n cap b3) ⟨ot, ot, trivial⟩ (List.Perm.refl _) (fun ch hch => (Or.inr ⟨ch, rfl, hch⟩ : BodyX _ _ _ _ _ _)) ?_
  rintro _ _ ⟨s, p9, o9, ad9, n9, cap9, hr9, hok9, hp9, rfl⟩
  refine OD.perm (S' := [⟨br, 70, 3, [.list 3 (l.flatMap cT) l.length, .v (.int .i64 ((p9 : Nat) : Int)), .v (.slice ad9 n9 cap9)]⟩, ⟨b3, 32, 12, [_, _, _, _, _, _, _, _, _, _, _, _]⟩, ⟨b2, 32, 12, [_, _, _, _, _, _, _, _, _, _, _, _]⟩]) (List.Perm.refl _) ?_
  refine on_ [(2, _), (3, _)] [⟨br, 70, 3, [_, _, _]⟩, ⟨b3, 32, 12, [_, _, _, _, _, _, _, _, _, _, _, _]⟩, ⟨b2, 32, 12, [_, _, _, _, _, _, _, _, _, _, _, _]⟩] ?_
  refine CD.seq ?_
  refine CD.region ?_
  refine os_ (lab_ 1 [_, _, _, _, _, _, _, _, _, _, _, _]) ?_
  refine ot_ 2 [_, _, _, _, _, _, _, _, _, _, _, _] Tryd.sizeOf32 ?_
  refine on_ [(2, _)] [⟨br, 70, 3, [_, _, _]⟩, ⟨b3, 32, 12, [_, _, _, _, _, _, _, _, _, _, _, _]⟩, ⟨b2, 32, 12, [_, _, _, _, _, _, _, _, _, _, _, _]⟩] ?_
  refine CD.ret ?_
  refine Or.inl ?_
  refine ⟨.inr rfl, _, [⟨br, 70, 3, [.list 3 (l.flatMap cT) l.length, .v (.int .i64 ((p9 : Nat) : Int)), .v (.slice ad9 n9 cap9)]⟩], sw_, ret_one Tryd.results25 (res_cells (k := 2) (ds := [_, _, _, _, _, _, _, _, _, _, _, _]) le_ lk rfl rfl Tryd.isAgg32 Tryd.sizeOf32 rfl rfl), ?_⟩
  exact ⟨s, p9, o9, _, _, _, hr9, ⟨rfl, hok9⟩, hp9, rfl⟩
 have hc3' := hc3
 (try simp only [V.cnd, ne_eq] at hc3')
 have e3f : isQ l p 1 ⟨#[83, 69, 76, 69, 67, 84]⟩ = false := hc3
 rw [e3f]
 simp only [Bool.false_eq_true, if_false]
 refine sr_ ?_
 refine om_ ?_
 refine OD.call wp_ rfl rfl rfl Tryd.call43 (eat_vc l hl p 1 ⟨#[85, 80, 68, 65, 84, 69]⟩ ad n cap br) ⟨ot, opd_const, opd_const, trivial⟩ (List.Perm.refl _) ?_
 rintro _ _ ⟨rfl, rfl⟩
 refine OD.perm (S' := ⟨br, 70, 3, [.list 3 (l.flatMap cT) l.length, .v (.int .i64 (((if isQ l p 1 ⟨#[85, 80, 68, 65, 84, 69]⟩ = true then p + 1 else p) : Nat) : Int)), .v (.slice ad n cap)]⟩ :: [⟨b3, 32, 12, [_, _, _, _, _, _, _, _, _, _, _, _]⟩, ⟨b2, 32, 12, [_, _, _, _, _, _, _, _, _, _, _, _]⟩]) (List.Perm.refl _) ?_
 refine om_ ?_
 refine on_ [(0, _), (2, _), (3, _), (52, _)] [⟨br, 70, 3, [_, _, _]⟩, ⟨b3, 32, 12, [_, _, _, _, _, _, _, _, _, _, _, _]⟩, ⟨b2, 32, 12, [_, _, _, _, _, _, _, _, _, _, _, _]⟩] ?_
 refine CD.cond ot (fun hc4 => ?_) (fun hc4 => ?_)
 ·have hc4' := hc4
  (try simp only [V.cnd, ne_eq] at hc4')
  have e4t : isQ l p 1 ⟨#[85, 80, 68, 65, 84, 69]⟩ = true := hc4
  rw [e4t]
  simp only [if_true]
  have hR14 : R = (nameP l (p + 1) os).bind (fun t p ops => (mustP l [⟨#[83, 69, 84]⟩] p ops).bind (fun _ p ops => (nameP l p ops).bind (fun c p ops => (markP l ⟨#[61]⟩ p ops).bind (fun _ p ops => (exprP l p).bind (fun e p ops => (whereP l p ops).bind (fun w p ops => .ok { st0 with kind := 5, table := t, set := c, to := e, wher := w } p ops)))))) := hR.trans (by unfold stP; rw [if_neg (F_ e0f), if_neg (F_ e1f), if_neg (F_ e2f), if_neg (F_ e3f), if_pos e4t])
  refine sr_ ?_
  refine om_ ?_
  refine OD.callX wp_ rfl rfl rfl Tryd.call45 (name_vx hm hw l hl ht (p + 1) ad n cap br) ⟨ot, trivial⟩ (List.Perm.refl _) (fun ch hch => (Or.inr ⟨ch, rfl, by obtain ⟨q, e, h1, h2⟩ := hch; exact ⟨q, e, hR14.trans (by rw [h1]; rfl), h2⟩⟩ : BodyX _ _ _ _ _ _)) ?_
  rintro _ _ ⟨t, hr15, rfl, rfl⟩
  refine OD.perm (S' := ⟨br, 70, 3, [.list 3 (l.flatMap cT) l.length, .v (.int .i64 ((((p + 1) + 1) : Nat) : Int)), .v (.slice ad n cap)]⟩ :: [⟨b3, 32, 12, [_, _, _, _, _, _, _, _, _, _, _, _]⟩, ⟨b2, 32, 12, [_, _, _, _, _, _, _, _, _, _, _, _]⟩]) (List.Perm.refl _) ?_
  have hlt15 := (name_le (hr15 [])).2.2
  have hR15 : R = (mustP l [⟨#[83, 69, 84]⟩] ((p + 1) + 1) os).bind (fun _ p ops => (nameP l p ops).bind (fun c p ops => (markP l ⟨#[61]⟩ p ops).bind (fun _ p ops => (exprP l p).bind (fun e p ops => (whereP l p ops).bind (fun w p ops => .ok { st0 with kind := 5, table := t, set := c, to := e, wher := w } p ops))))) := hR14.trans (by rw [hr15]; rfl)
  refine os_ (fa_ 0) ?_
  refine ot_ 1 [_, _, _, _, _, _, _, _, _, _, _, _] Tryd.sizeOf3 ?_
  refine os_ (fa_ 1) ?_
  refine ot_ 1 [_, _, _, _, _, _, _, _, _, _, _, _] Tryd.sizeOf9 ?_
  refine on_ [(0, _), (2, _), (3, _)] [⟨br, 70, 3, [_, _, _]⟩, ⟨b3, 32, 12, [_, _, _, _, _, _, _, _, _, _, _, _]⟩, ⟨b2, 32, 12, [_, _, _, _, _, _, _, _, _, _, _, _]⟩] ?_
  refine sr_ ?_
  refine om_ ?_
  refine ob_ (numD 0 [_]) [.string ⟨#[]⟩] [_] Tryd.zeroValue9 Tryd.runUnderlying29 Tryd.sizeOf9 (fun b60 => ?_)
  refine og_ 0 60 1 1 ?_
  refine OD.callX wp_ rfl rfl rfl Tryd.call44 (must_vx l hl [⟨#[83, 69, 84]⟩] (by decide) ((p + 1) + 1) ad n cap br) ⟨ot, by exact rfl, trivial⟩ (List.Perm.refl _) (fun ch hch => (Or.inr ⟨ch, rfl, by obtain ⟨q, e, h1, h2⟩ := hch; exact ⟨q, e, hR15.trans (by rw [h1]; rfl), h2⟩⟩ : BodyX _ _ _ _ _ _)) ?_
  rintro _ _ ⟨p16, hr16, rfl⟩
  refine OD.perm (S' := ⟨br, 70, 3, [.list 3 (l.flatMap cT) l.length, .v (.int .i64 ((p16 : Nat) : Int)), .v (.slice ad n cap)]⟩ :: [⟨b3, 32, 12, [_, _, _, _, _, _, _, _, _, _, _, _]⟩, ⟨b2, 32, 12, [_, _, _, _, _, _, _, _, _, _, _, _]⟩]) (List.Perm.refl _) ?_
  have hp16 := (must_le (hr16 []) hlt15).2.1
  have hR16 : R = (nameP l p16 os).bind (fun c p ops => (markP l ⟨#[61]⟩ p ops).bind (fun _ p ops => (exprP l p).bind (fun e p ops => (whereP l p ops).bind (fun w p ops => .ok { st0 with kind := 5, table := t, set := c, to := e, wher := w } p ops)))) := hR15.trans (by rw [hr16]; rfl)
  refine on_ [(0, _), (2, _), (3, _)] [⟨br, 70, 3, [_, _, _]⟩, ⟨b3, 32, 12, [_, _, _, _, _, _, _, _, _, _, _, _]⟩, ⟨b2, 32, 12, [_, _, _, _, _, _, _, _, _, _, _, _]⟩] ?_
  refine sr_ ?_
  refine om_ ?_
  refine OD.callX wp_ rfl rfl rfl Tryd.call45 (name_vx hm hw l hl ht p16 ad n cap br) ⟨ot, trivial⟩ (List.Perm.refl _) (fun ch hch => (Or.inr ⟨ch, rfl, by obtain ⟨q, e, h1, h2⟩ := hch; exact ⟨q, e, hR16.trans (by rw [h1]; rfl), h2⟩⟩ : BodyX _ _ _ _ _ _)) ?_
  rintro _ _ ⟨c, hr17, rfl, rfl⟩
  refine OD.perm (S' := ⟨br, 70, 3, [.list 3 (l.flatMap cT) l.length, .v (.int .i64 (((p16 + 1) : Nat) : Int)), .v (.slice ad n cap)]⟩ :: [⟨b3, 32, 12, [_, _, _, _, _, _, _, _, _, _, _, _]⟩, ⟨b2, 32, 12, [_, _, _, _, _, _, _, _, _, _, _, _]⟩]) (List.Perm.refl _) ?_
  have hlt17 := (name_le (hr17 [])).2.2
  have hR17 : R = (markP l ⟨#[61]⟩ (p16 + 1) os).bind (fun _ p ops => (exprP l p).bind (fun e p ops => (whereP l p ops).bind (fun w p ops => .ok { st0 with kind := 5, table := t, set := c, to := e, wher := w } p ops))) := hR16.trans (by rw [hr17]; rfl)
  refine os_ (fa_ 10) ?_
  refine ot_ 1 [_, _, _, _, _, _, _, _, _, _, _, _] Tryd.sizeOf9 ?_
  refine on_ [(0, _), (2, _), (3, _)] [⟨br, 70, 3, [_, _, _]⟩, ⟨b3, 32, 12, [_, _, _, _, _, _, _, _, _, _, _, _]⟩, ⟨b2, 32, 12, [_, _, _, _, _, _, _, _, _, _, _, _]⟩] ?_
  refine sr_ ?_
  refine om_ ?_
  refine OD.callX wp_ rfl rfl rfl Tryd.call49 (mark_vx l hl (p16 + 1) ⟨#[61]⟩ ad n cap br) ⟨ot, opd_const, trivial⟩ (List.Perm.refl _) (fun ch hch => (Or.inr ⟨ch, rfl, ⟨_, _, hR17.trans (by rw [mark_no hch.1]; rfl), hch.2⟩⟩ : BodyX _ _ _ _ _ _)) ?_
  rintro _ _ ⟨hm18, rfl⟩
  refine OD.perm (S' := ⟨br, 70, 3, [.list 3 (l.flatMap cT) l.length, .v (.int .i64 ((((p16 + 1) + 1) : Nat) : Int)), .v (.slice ad n cap)]⟩ :: [⟨b3, 32, 12, [_, _, _, _, _, _, _, _, _, _, _, _]⟩, ⟨b2, 32, 12, [_, _, _, _, _, _, _, _, _, _, _, _]⟩]) (List.Perm.refl _) ?_
  have hR18 : R = (exprP l ((p16 + 1) + 1)).bind (fun e p ops => (whereP l p ops).bind (fun w p ops => .ok { st0 with kind := 5, table := t, set := c, to := e, wher := w } p ops)) := hR17.trans (by rw [mark_yes hm18]; rfl)
  refine on_ [(0, _), (2, _), (3, _)] [⟨br, 70, 3, [_, _, _]⟩, ⟨b3, 32, 12, [_, _, _, _, _, _, _, _, _, _, _, _]⟩, ⟨b2, 32, 12, [_, _, _, _, _, _, _, _, _, _, _, _]⟩] ?_
  refine sr_ ?_
  refine om_ ?_
  have hs19 := ns_expr (isQ_lt hm18)
  refine OD.callX wp_ rfl rfl rfl Tryd.call50 (expr_vx hl hm hw hk ht ((p16 + 1) + 1) (isQ_lt hm18) _ rfl hs19 ad n cap) ⟨ot, trivial⟩ (List.Perm.refl _) (fun ch hch => (Or.inr ⟨ch, rfl, by obtain ⟨q, e, h1, h2⟩ := hch; exact ⟨q, e, hR18.trans (by rw [h1]; rfl), h2⟩⟩ : BodyX _ _ _ _ _ _)) ?_
  rintro _ _ ⟨e, p19, o19, ad19, n19, cap19, hr19, ⟨rfl, hv19⟩, hp19, rfl⟩
  refine OD.perm (S' := ⟨br, 70, 3, [.list 3 (l.flatMap cT) l.length, .v (.int .i64 ((p19 : Nat) : Int)), .v (.slice ad19 n19 cap19)]⟩ :: [⟨b3, 32, 12, [_, _, _, _, _, _, _, _, _, _, _, _]⟩, ⟨b2, 32, 12, [_, _, _, _, _, _, _, _, _, _, _, _]⟩]) (List.Perm.refl _) ?_
  have hR19 : R = (whereP l p19 o19).bind (fun w p ops => .ok { st0 with kind := 5, table := t, set := c, to := e, wher := w } p ops) := hR18.trans (by rw [hr19]; rfl)
  refine os_ (fa_ 11) ?_
  refine ot_ 1 [_, _, _, _, _, _, _, _, _, _, _, _] Tryd.sizeOf30 ?_
  refine on_ [(0, _), (2, _), (3, _)] [⟨br, 70, 3, [_, _, _]⟩, ⟨b3, 32, 12, [_, _, _, _, _, _, _, _, _, _, _, _]⟩, ⟨b2, 32, 12, [_, _, _, _, _, _, _, _, _, _, _, _]⟩] ?_
  refine CD.region ?_
  refine om_ ?_
  have hs20 := (ns_where : whereP l p19 o19 ≠ .stuck)
  refine OD.callX wp_ rfl rfl rfl Tryd.call51 (where_vx hl hm hw hk ht p19 hp19 o19 _ rfl hs20 ad19 n19 cap19) ⟨ot, trivial⟩ (List.Perm.refl _) (fun ch hch => (Or.inr ⟨ch, rfl, by obtain ⟨q, e, h1, h2⟩ := hch; exact ⟨q, e, hR19.trans (by rw [h1]; rfl), h2⟩⟩ : BodyX _ _ _ _ _ _)) ?_
  rintro _ _ ⟨w, p20, o20, ad20, n20, cap20, hr20, ⟨rfl, hv20⟩, hp20, rfl⟩
  refine OD.perm (S' := ⟨br, 70, 3, [.list 3 (l.flatMap cT) l.length, .v (.int .i64 ((p20 : Nat) : Int)), .v (.slice ad20 n20 cap20)]⟩ :: [⟨b3, 32, 12, [_, _, _, _, _, _, _, _, _, _, _, _]⟩, ⟨b2, 32, 12, [_, _, _, _, _, _, _, _, _, _, _, _]⟩]) (List.Perm.refl _) ?_
  have hR20 : R = .ok { st0 with kind := 5, table := t, set := c, to := e, wher := w } p20 o20 := hR19.trans (by rw [hr20]; rfl)
  refine os_ (fa_ 6) ?_
  refine ot_ 1 [_, _, _, _, _, _, _, _, _, _, _, _] Tryd.sizeOf30 ?_
  refine on_ [(2, _), (3, _)] [⟨br, 70, 3, [_, _, _]⟩, ⟨b3, 32, 12, [_, _, _, _, _, _, _, _, _, _, _, _]⟩, ⟨b2, 32, 12, [_, _, _, _, _, _, _, _, _, _, _, _]⟩] ?_
  refine CD.seq ?_
  refine CD.cells (k := 1) (cs' := [_, _, _, _, .list 1 [] 0, _, _, _, _, _, _, _]) (S' := [⟨br, 70, 3, [.list 3 (l.flatMap cT) l.length, .v (.int .i64 ((p20 : Nat) : Int)), .v (.slice ad20 n20 cap20)]⟩, _, _]) rfl (by repeat (first | exact trivial | exact ⟨gv_rfl, trivial⟩ | exact ⟨gv_nil, trivial⟩ | refine ⟨gv_rfl, ?_⟩ | refine ⟨gv_nil, ?_⟩)) rfl ?_
  refine CD.region ?_
  refine os_ (lab_ 1 [_, _, _, _, _, _, _, _, _, _, _, _]) ?_
  refine ot_ 2 [_, _, _, _, _, _, _, _, _, _, _, _] Tryd.sizeOf32 ?_
  refine on_ [(2, _)] [⟨br, 70, 3, [_, _, _]⟩, ⟨b3, 32, 12, [_, _, _, _, _, _, _, _, _, _, _, _]⟩, ⟨b2, 32, 12, [_, _, _, _, _, _, _, _, _, _, _, _]⟩] ?_
  refine CD.ret ?_
  refine Or.inl ?_
  refine ⟨.inr rfl, _, [⟨br, 70, 3, [.list 3 (l.flatMap cT) l.length, .v (.int .i64 ((p20 : Nat) : Int)), .v (.slice ad20 n20 cap20)]⟩], sw_, ret_one Tryd.results25 (res_cells (k := 2) (ds := [_, _, _, _, _, _, _, _, _, _, _, _]) le_ lk rfl rfl Tryd.isAgg32 Tryd.sizeOf32 rfl rfl), ?_⟩
  exact ⟨{ st0 with kind := 5, table := t, set := c, to := e, wher := w }, p20, o20, _, _, _, hR20, ⟨rfl, ⟨Nat.zero_le _, Nat.zero_le _, Nat.zero_le _, hv20, hv19⟩⟩, hp20, rfl⟩
 have hc4' := hc4
 (try simp only [V.cnd, ne_eq] at hc4')
 have e4f : isQ l p 1 ⟨#[85, 80, 68, 65, 84, 69]⟩ = false := hc4
 rw [e4f]
 simp only [Bool.false_eq_true, if_false]
 refine sr_ ?_
 refine om_ ?_
 refine OD.call wp_ rfl rfl rfl Tryd.call43 (eat_vc l hl p 1 ⟨#[68, 69, 76, 69, 84, 69]⟩ ad n cap br) ⟨ot, opd_const, opd_const, trivial⟩ (List.Perm.refl _) ?_
 rintro _ _ ⟨rfl, rfl⟩
 refine OD.perm (S' := ⟨br, 70, 3, [.list 3 (l.flatMap cT) l.length, .v (.int .i64 (((if isQ l p 1 ⟨#[68, 69, 76, 69, 84, 69]⟩ = true then p + 1 else p) : Nat) : Int)), .v (.slice ad n cap)]⟩ :: [⟨b3, 32, 12, [_, _, _, _, _, _, _, _, _, _, _, _]⟩, ⟨b2, 32, 12, [_, _, _, _, _, _, _, _, _, _, _, _]⟩]) (List.Perm.refl _) ?_
 refine om_ ?_
 refine on_ [(0, _), (2, _), (3, _), (73, _)] [⟨br, 70, 3, [_, _, _]⟩, ⟨b3, 32, 12, [_, _, _, _, _, _, _, _, _, _, _, _]⟩, ⟨b2, 32, 12, [_, _, _, _, _, _, _, _, _, _, _, _]⟩] ?_
 refine CD.cond ot (fun hc5 => ?_) (fun hc5 => ?_)
 ·have hc5' := hc5
  (try simp only [V.cnd, ne_eq] at hc5')
  have e5t : isQ l p 1 ⟨#[68, 69, 76, 69, 84, 69]⟩ = true := hc5
  rw [e5t]
  simp only [if_true]
  have hR21 : R = (mustP l [⟨#[70, 82, 79, 77]⟩] (p + 1) os).bind (fun _ p ops => (nameP l p ops).bind (fun t p ops => (whereP l p ops).bind (fun w p ops => .ok { st0 with kind := 6, table := t, wher := w } p ops))) := hR.trans (by unfold stP; rw [if_neg (F_ e0f), if_neg (F_ e1f), if_neg (F_ e2f), if_neg (F_ e3f), if_neg (F_ e4f), if_pos e5t])
  refine sr_ ?_
  refine om_ ?_
  refine ob_ (numD 0 [_]) [.string ⟨#[]⟩] [_] Tryd.zeroValue9 Tryd.runUnderlying29 Tryd.sizeOf9 (fun b77 => ?_)
  refine og_ 0 77 1 1 ?_
  refine OD.callX wp_ rfl rfl rfl Tryd.call44 (must_vx l hl [⟨#[70, 82, 79, 77]⟩] (by decide) (p + 1) ad n cap br) ⟨ot, by exact rfl, trivial⟩ (List.Perm.refl _) (fun ch hch => (Or.inr ⟨ch, rfl, by obtain ⟨q, e, h1, h2⟩ := hch; exact ⟨q, e, hR21.trans (by rw [h1]; rfl), h2⟩⟩ : BodyX _ _ _ _ _ _)) ?_
  rintro _ _ ⟨p22, hr22, rfl⟩
  refine OD.perm (S' := ⟨br, 70, 3, [.list 3 (l.flatMap cT) l.length, .v (.int .i64 ((p22 : Nat) : Int)), .v (.slice ad n cap)]⟩ :: [⟨b3, 32, 12, [_, _, _, _, _, _, _, _, _, _, _, _]⟩, ⟨b2, 32, 12, [_, _, _, _, _, _, _, _, _, _, _, _]⟩]) (List.Perm.refl _) ?_
  have hp22 := (must_le (hr22 []) (isQ_lt e5t)).2.1
  have hR22 : R = (nameP l p22 os).bind (fun t p ops => (whereP l p ops).bind (fun w p ops => .ok { st0 with kind := 6, table := t, wher := w } p ops)) := hR21.trans (by rw [hr22]; rfl)
  refine on_ [(0, _), (2, _), (3, _)] [⟨br, 70, 3, [_, _, _]⟩, ⟨b3, 32, 12, [_, _, _, _, _, _, _, _, _, _, _, _]⟩, ⟨b2, 32, 12, [_, _, _, _, _, _, _, _, _, _, _, _]⟩] ?_
  refine sr_ ?_
  refine om_ ?_
  refine OD.callX wp_ rfl rfl rfl Tryd.call45 (name_vx hm hw l hl ht p22 ad n cap br) ⟨ot, trivial⟩ (List.Perm.refl _) (fun ch hch => (Or.inr ⟨ch, rfl, by obtain ⟨q, e, h1, h2⟩ := hch; exact ⟨q, e, hR22.trans (by rw [h1]; rfl), h2⟩⟩ : BodyX _ _ _ _ _ _)) ?_
  rintro _ _ ⟨t, hr23, rfl, rfl⟩
  refine OD.perm (S' := ⟨br, 70, 3, [.list 3 (l.flatMap cT) l.length, .v (.int .i64 (((p22 + 1) : Nat) : Int)), .v (.slice ad n cap)]⟩ :: [⟨b3, 32, 12, [_, _, _, _, _, _, _, _, _, _, _, _]⟩, ⟨b2, 32, 12, [_, _, _, _, _, _, _, _, _, _, _, _]⟩]) (List.Perm.refl _) ?_
  have hlt23 := (name_le (hr23 [])).2.2
  have hR23 : R = (whereP l (p22 + 1) os).bind (fun w p ops => .ok { st0 with kind := 6, table := t, wher := w } p ops) := hR22.trans (by rw [hr23]; rfl)
  refine os_ (fa_ 0) ?_
  refine ot_ 1 [_, _, _, _, _, _, _, _, _, _, _, _] Tryd.sizeOf3 ?_
  refine os_ (fa_ 1) ?_
  refine ot_ 1 [_, _, _, _, _, _, _, _, _, _, _, _] Tryd.sizeOf9 ?_
  refine on_ [(0, _), (2, _), (3, _)] [⟨br, 70, 3, [_, _, _]⟩, ⟨b3, 32, 12, [_, _, _, _, _, _, _, _, _, _, _, _]⟩, ⟨b2, 32, 12, [_, _, _, _, _, _, _, _, _, _, _, _]⟩] ?_
  refine CD.region ?_
  refine om_ ?_
  have hs24 := (ns_where : whereP l (p22 + 1) os ≠ .stuck)
  refine OD.callX wp_ rfl rfl rfl Tryd.call51 (where_vx hl hm hw hk ht (p22 + 1) hlt23 os _ rfl hs24 ad n cap) ⟨ot, trivial⟩ (List.Perm.refl _) (fun ch hch => (Or.inr ⟨ch, rfl, by obtain ⟨q, e, h1, h2⟩ := hch; exact ⟨q, e, hR23.trans (by rw [h1]; rfl), h2⟩⟩ : BodyX _ _ _ _ _ _)) ?_
  rintro _ _ ⟨w, p24, o24, ad24, n24, cap24, hr24, ⟨rfl, hv24⟩, hp24, rfl⟩
  refine OD.perm (S' := ⟨br, 70, 3, [.list 3 (l.flatMap cT) l.length, .v (.int .i64 ((p24 : Nat) : Int)), .v (.slice ad24 n24 cap24)]⟩ :: [⟨b3, 32, 12, [_, _, _, _, _, _, _, _, _, _, _, _]⟩, ⟨b2, 32, 12, [_, _, _, _, _, _, _, _, _, _, _, _]⟩]) (List.Perm.refl _) ?_
  have hR24 : R = .ok { st0 with kind := 6, table := t, wher := w } p24 o24 := hR23.trans (by rw [hr24]; rfl)
  refine os_ (fa_ 6) ?_
  refine ot_ 1 [_, _, _, _, _, _, _, _, _, _, _, _] Tryd.sizeOf30 ?_
  refine on_ [(2, _), (3, _)] [⟨br, 70, 3, [_, _, _]⟩, ⟨b3, 32, 12, [_, _, _, _, _, _, _, _, _, _, _, _]⟩, ⟨b2, 32, 12, [_, _, _, _, _, _, _, _, _, _, _, _]⟩] ?_
  refine CD.seq ?_
  refine CD.cells (k := 1) (cs' := [_, _, _, _, .list 1 [] 0, _, _, _, _, _, _, _]) (S' := [⟨br, 70, 3, [.list 3 (l.flatMap cT) l.length, .v (.int .i64 ((p24 : Nat) : Int)), .v (.slice ad24 n24 cap24)]⟩, _, _]) rfl (by repeat (first | exact trivial | exact ⟨gv_rfl, trivial⟩ | exact ⟨gv_nil, trivial⟩ | refine ⟨gv_rfl, ?_⟩ | refine ⟨gv_nil, ?_⟩)) rfl ?_
  refine CD.region ?_
  refine os_ (lab_ 1 [_, _, _, _, _, _, _, _, _, _, _, _]) ?_
  refine ot_ 2 [_, _, _, _, _, _, _, _, _, _, _, _] Tryd.sizeOf32 ?_
  refine on_ [(2, _)] [⟨br, 70, 3, [_, _, _]⟩, ⟨b3, 32, 12, [_, _, _, _, _, _, _, _, _, _, _, _]⟩, ⟨b2, 32, 12, [_, _, _, _, _, _, _, _, _, _, _, _]⟩] ?_
  refine CD.ret ?_
  refine Or.inl ?_
  refine ⟨.inr rfl, _, [⟨br, 70, 3, [.list 3 (l.flatMap cT) l.length, .v (.int .i64 ((p24 : Nat) : Int)), .v (.slice ad24 n24 cap24)]⟩], sw_, ret_one Tryd.results25 (res_cells (k := 2) (ds := [_, _, _, _, _, _, _, _, _, _, _, _]) le_ lk rfl rfl Tryd.isAgg32 Tryd.sizeOf32 rfl rfl), ?_⟩
  exact ⟨{ st0 with kind := 6, table := t, wher := w }, p24, o24, _, _, _, hR24, ⟨rfl, ⟨Nat.zero_le _, Nat.zero_le _, Nat.zero_le _, hv24, Nat.zero_le _⟩⟩, hp24, rfl⟩
 have hc5' := hc5
 (try simp only [V.cnd, ne_eq] at hc5')
 have e5f : isQ l p 1 ⟨#[68, 69, 76, 69, 84, 69]⟩ = false := hc5
 rw [e5f]
 simp only [Bool.false_eq_true, if_false]
 refine sr_ ?_
 refine om_ ?_
 refine OD.call wp_ rfl rfl rfl Tryd.call43 (eat_vc l hl p 1 ⟨#[66, 69, 71, 73, 78]⟩ ad n cap br) ⟨ot, opd_const, opd_const, trivial⟩ (List.Perm.refl _) ?_
 rintro _ _ ⟨rfl, rfl⟩
 refine OD.perm (S' := ⟨br, 70, 3, [.list 3 (l.flatMap cT) l.length, .v (.int .i64 (((if isQ l p 1 ⟨#[66, 69, 71, 73, 78]⟩ = true then p + 1 else p) : Nat) : Int)), .v (.slice ad n cap)]⟩ :: [⟨b3, 32, 12, [_, _, _, _, _, _, _, _, _, _, _, _]⟩, ⟨b2, 32, 12, [_, _, _, _, _, _, _, _, _, _, _, _]⟩]) (List.Perm.refl _) ?_
 refine om_ ?_
 refine on_ [(0, _), (2, _), (3, _), (86, _)] [⟨br, 70, 3, [_, _, _]⟩, ⟨b3, 32, 12, [_, _, _, _, _, _, _, _, _, _, _, _]⟩, ⟨b2, 32, 12, [_, _, _, _, _, _, _, _, _, _, _, _]⟩] ?_
 refine CD.cond ot (fun hc6 => ?_) (fun hc6 => ?_)
 ·have hc6' := hc6
  (try simp only [V.cnd, ne_eq] at hc6')
  have e6t : isQ l p 1 ⟨#[66, 69, 71, 73, 78]⟩ = true := hc6
  rw [e6t]
  simp only [if_true]
  have hR25 : R = .ok { st0 with kind := 7 } (p + 1) os := hR.trans (by unfold stP; rw [if_neg (F_ e0f), if_neg (F_ e1f), if_neg (F_ e2f), if_neg (F_ e3f), if_neg (F_ e4f), if_neg (F_ e5f), if_pos e6t])
  refine CD.region ?_
  refine os_ (fa_ 0) ?_
  refine ot_ 1 [_, _, _, _, _, _, _, _, _, _, _, _] Tryd.sizeOf3 ?_
  refine on_ [(2, _), (3, _)] [⟨br, 70, 3, [_, _, _]⟩, ⟨b3, 32, 12, [_, _, _, _, _, _, _, _, _, _, _, _]⟩, ⟨b2, 32, 12, [_, _, _, _, _, _, _, _, _, _, _, _]⟩] ?_
  refine CD.seq ?_
  refine CD.cells (k := 1) (cs' := [_, _, _, _, .list 1 [] 0, _, _, _, _, _, _, _]) (S' := [⟨br, 70, 3, [.list 3 (l.flatMap cT) l.length, .v (.int .i64 (((p + 1) : Nat) : Int)), .v (.slice ad n cap)]⟩, _, _]) rfl (by repeat (first | exact trivial | exact ⟨gv_rfl, trivial⟩ | exact ⟨gv_nil, trivial⟩ | refine ⟨gv_rfl, ?_⟩ | refine ⟨gv_nil, ?_⟩)) rfl ?_
  refine CD.region ?_
  refine os_ (lab_ 1 [_, _, _, _, _, _, _, _, _, _, _, _]) ?_
  refine ot_ 2 [_, _, _, _, _, _, _, _, _, _, _, _] Tryd.sizeOf32 ?_
  refine on_ [(2, _)] [⟨br, 70, 3, [_, _, _]⟩, ⟨b3, 32, 12, [_, _, _, _, _, _, _, _, _, _, _, _]⟩, ⟨b2, 32, 12, [_, _, _, _, _, _, _, _, _, _, _, _]⟩] ?_
  refine CD.ret ?_
  refine Or.inl ?_
  refine ⟨.inr rfl, _, [⟨br, 70, 3, [.list 3 (l.flatMap cT) l.length, .v (.int .i64 (((p + 1) : Nat) : Int)), .v (.slice ad n cap)]⟩], sw_, ret_one Tryd.results25 (res_cells (k := 2) (ds := [_, _, _, _, _, _, _, _, _, _, _, _]) le_ lk rfl rfl Tryd.isAgg32 Tryd.sizeOf32 rfl rfl), ?_⟩
  exact ⟨{ st0 with kind := 7 }, (p + 1), os, _, _, _, hR25, ⟨rfl, ⟨Nat.zero_le _, Nat.zero_le _, Nat.zero_le _, Nat.zero_le _, Nat.zero_le _⟩⟩, (isQ_lt e6t), rfl⟩
 have hc6' := hc6
 (try simp only [V.cnd, ne_eq] at hc6')
 have e6f : isQ l p 1 ⟨#[66, 69, 71, 73, 78]⟩ = false := hc6
 rw [e6f]
 simp only [Bool.false_eq_true, if_false]
 refine sr_ ?_
 refine om_ ?_
 refine OD.call wp_ rfl rfl rfl Tryd.call43 (eat_vc l hl p 1 ⟨#[67, 79, 77, 77, 73, 84]⟩ ad n cap br) ⟨ot, opd_const, opd_const, trivial⟩ (List.Perm.refl _) ?_
 rintro _ _ ⟨rfl, rfl⟩
 refine OD.perm (S' := ⟨br, 70, 3, [.list 3 (l.flatMap cT) l.length, .v (.int .i64 (((if isQ l p 1 ⟨#[67, 79, 77, 77, 73, 84]⟩ = true then p + 1 else p) : Nat) : Int)), .v (.slice ad n cap)]⟩ :: [⟨b3, 32, 12, [_, _, _, _, _, _, _, _, _, _, _, _]⟩, ⟨b2, 32, 12, [_, _, _, _, _, _, _, _, _, _, _, _]⟩]) (List.Perm.refl _) ?_
 refine om_ ?_
 refine on_ [(0, _), (2, _), (3, _), (90, _)] [⟨br, 70, 3, [_, _, _]⟩, ⟨b3, 32, 12, [_, _, _, _, _, _, _, _, _, _, _, _]⟩, ⟨b2, 32, 12, [_, _, _, _, _, _, _, _, _, _, _, _]⟩] ?_
 refine CD.cond ot (fun hc7 => ?_) (fun hc7 => ?_)
 ·have hc7' := hc7
  (try simp only [V.cnd, ne_eq] at hc7')
  have e7t : isQ l p 1 ⟨#[67, 79, 77, 77, 73, 84]⟩ = true := hc7
  rw [e7t]
  simp only [if_true]
  have hR26 : R = .ok { st0 with kind := 8 } (p + 1) os := hR.trans (by unfold stP; rw [if_neg (F_ e0f), if_neg (F_ e1f), if_neg (F_ e2f), if_neg (F_ e3f), if_neg (F_ e4f), if_neg (F_ e5f), if_neg (F_ e6f), if_pos e7t])
  refine CD.region ?_
  refine os_ (fa_ 0) ?_
  refine ot_ 1 [_, _, _, _, _, _, _, _, _, _, _, _] Tryd.sizeOf3 ?_
  refine on_ [(2, _), (3, _)] [⟨br, 70, 3, [_, _, _]⟩, ⟨b3, 32, 12, [_, _, _, _, _, _, _, _, _, _, _, _]⟩, ⟨b2, 32, 12, [_, _, _, _, _, _, _, _, _, _, _, _]⟩] ?_
  refine CD.seq ?_
  refine CD.cells (k := 1) (cs' := [_, _, _, _, .list 1 [] 0, _, _, _, _, _, _, _]) (S' := [⟨br, 70, 3, [.list 3 (l.flatMap cT) l.length, .v (.int .i64 (((p + 1) : Nat) : Int)), .v (.slice ad n cap)]⟩, _, _]) rfl (by repeat (first | exact trivial | exact ⟨gv_rfl, trivial⟩ | exact ⟨gv_nil, trivial⟩ | refine ⟨gv_rfl, ?_⟩ | refine ⟨gv_nil, ?_⟩)) rfl ?_
  refine CD.region ?_
  refine os_ (lab_ 1 [_, _, _, _, _, _, _, _, _, _, _, _]) ?_
  refine ot_ 2 [_, _, _, _, _, _, _, _, _, _, _, _] Tryd.sizeOf32 ?_
  refine on_ [(2, _)] [⟨br, 70, 3, [_, _, _]⟩, ⟨b3, 32, 12, [_, _, _, _, _, _, _, _, _, _, _, _]⟩, ⟨b2, 32, 12, [_, _, _, _, _, _, _, _, _, _, _, _]⟩] ?_
  refine CD.ret ?_
  refine Or.inl ?_
  refine ⟨.inr rfl, _, [⟨br, 70, 3, [.list 3 (l.flatMap cT) l.length, .v (.int .i64 (((p + 1) : Nat) : Int)), .v (.slice ad n cap)]⟩], sw_, ret_one Tryd.results25 (res_cells (k := 2) (ds := [_, _, _, _, _, _, _, _, _, _, _, _]) le_ lk rfl rfl Tryd.isAgg32 Tryd.sizeOf32 rfl rfl), ?_⟩
  exact ⟨{ st0 with kind := 8 }, (p + 1), os, _, _, _, hR26, ⟨rfl, ⟨Nat.zero_le _, Nat.zero_le _, Nat.zero_le _, Nat.zero_le _, Nat.zero_le _⟩⟩, (isQ_lt e7t), rfl⟩
 have hc7' := hc7
 (try simp only [V.cnd, ne_eq] at hc7')
 have e7f : isQ l p 1 ⟨#[67, 79, 77, 77, 73, 84]⟩ = false := hc7
 rw [e7f]
 simp only [Bool.false_eq_true, if_false]
 refine sr_ ?_
 refine om_ ?_
 refine OD.call wp_ rfl rfl rfl Tryd.call43 (eat_vc l hl p 1 ⟨#[82, 79, 76, 76, 66, 65, 67, 75]⟩ ad n cap br) ⟨ot, opd_const, opd_const, trivial⟩ (List.Perm.refl _) ?_
 rintro _ _ ⟨rfl, rfl⟩
 refine OD.perm (S' := ⟨br, 70, 3, [.list 3 (l.flatMap cT) l.length, .v (.int .i64 (((if isQ l p 1 ⟨#[82, 79, 76, 76, 66, 65, 67, 75]⟩ = true then p + 1 else p) : Nat) : Int)), .v (.slice ad n cap)]⟩ :: [⟨b3, 32, 12, [_, _, _, _, _, _, _, _, _, _, _, _]⟩, ⟨b2, 32, 12, [_, _, _, _, _, _, _, _, _, _, _, _]⟩]) (List.Perm.refl _) ?_
 refine om_ ?_
 refine on_ [(0, _), (2, _), (3, _), (94, _)] [⟨br, 70, 3, [_, _, _]⟩, ⟨b3, 32, 12, [_, _, _, _, _, _, _, _, _, _, _, _]⟩, ⟨b2, 32, 12, [_, _, _, _, _, _, _, _, _, _, _, _]⟩] ?_
 refine CD.cond ot (fun hc8 => ?_) (fun hc8 => ?_)
 ·have hc8' := hc8
  (try simp only [V.cnd, ne_eq] at hc8')
  have e8t : isQ l p 1 ⟨#[82, 79, 76, 76, 66, 65, 67, 75]⟩ = true := hc8
  rw [e8t]
  simp only [if_true]
  have hR27 : R = .ok { st0 with kind := 9 } (p + 1) os := hR.trans (by unfold stP; rw [if_neg (F_ e0f), if_neg (F_ e1f), if_neg (F_ e2f), if_neg (F_ e3f), if_neg (F_ e4f), if_neg (F_ e5f), if_neg (F_ e6f), if_neg (F_ e7f), if_pos e8t])
  refine CD.region ?_
  refine os_ (fa_ 0) ?_
  refine ot_ 1 [_, _, _, _, _, _, _, _, _, _, _, _] Tryd.sizeOf3 ?_
  refine on_ [(2, _), (3, _)] [⟨br, 70, 3, [_, _, _]⟩, ⟨b3, 32, 12, [_, _, _, _, _, _, _, _, _, _, _, _]⟩, ⟨b2, 32, 12, [_, _, _, _, _, _, _, _, _, _, _, _]⟩] ?_
  refine CD.seq ?_
  refine CD.cells (k := 1) (cs' := [_, _, _, _, .list 1 [] 0, _, _, _, _, _, _, _]) (S' := [⟨br, 70, 3, [.list 3 (l.flatMap cT) l.length, .v (.int .i64 (((p + 1) : Nat) : Int)), .v (.slice ad n cap)]⟩, _, _]) rfl (by repeat (first | exact trivial | exact ⟨gv_rfl, trivial⟩ | exact ⟨gv_nil, trivial⟩ | refine ⟨gv_rfl, ?_⟩ | refine ⟨gv_nil, ?_⟩)) rfl ?_
  refine CD.region ?_
  refine os_ (lab_ 1 [_, _, _, _, _, _, _, _, _, _, _, _]) ?_
  refine ot_ 2 [_, _, _, _, _, _, _, _, _, _, _, _] Tryd.sizeOf32 ?_
  refine on_ [(2, _)] [⟨br, 70, 3, [_, _, _]⟩, ⟨b3, 32, 12, [_, _, _, _, _, _, _, _, _, _, _, _]⟩, ⟨b2, 32, 12, [_, _, _, _, _, _, _, _, _, _, _, _]⟩] ?_
  refine CD.ret ?_
  refine Or.inl ?_
  refine ⟨.inr rfl, _, [⟨br, 70, 3, [.list 3 (l.flatMap cT) l.length, .v (.int .i64 (((p + 1) : Nat) : Int)), .v (.slice ad n cap)]⟩], sw_, ret_one Tryd.results25 (res_cells (k := 2) (ds := [_, _, _, _, _, _, _, _, _, _, _, _]) le_ lk rfl rfl Tryd.isAgg32 Tryd.sizeOf32 rfl rfl), ?_⟩
  exact ⟨{ st0 with kind := 9 }, (p + 1), os, _, _, _, hR27, ⟨rfl, ⟨Nat.zero_le _, Nat.zero_le _, Nat.zero_le _, Nat.zero_le _, Nat.zero_le _⟩⟩, (isQ_lt e8t), rfl⟩
 have hc8' := hc8
 (try simp only [V.cnd, ne_eq] at hc8')
 have e8f : isQ l p 1 ⟨#[82, 79, 76, 76, 66, 65, 67, 75]⟩ = false := hc8
 rw [e8f]
 simp only [Bool.false_eq_true, if_false]
 have hR28 : R = gv l p 6 := hR.trans (by unfold stP; rw [if_neg (F_ e0f), if_neg (F_ e1f), if_neg (F_ e2f), if_neg (F_ e3f), if_neg (F_ e4f), if_neg (F_ e5f), if_neg (F_ e6f), if_neg (F_ e7f), if_neg (F_ e8f)])
 refine CD.region ?_
 refine om_ ?_
 exact OD.callX wp_ rfl rfl rfl Tryd.call26 (give_vx l hl p 6 ad n cap br) ⟨ot, opd_const, trivial⟩ (List.Perm.refl _) (fun ch hch => (Or.inr ⟨ch, rfl, ⟨_, _, hR28, hch⟩⟩ : BodyX _ _ _ _ _ _)) (fun r S' h => h.elim)

end Go.Proofs.YtjgekbmahhhokaaDoor.Pa

namespace Go.Proofs.YtjgekbmahhhokaaDoor.Pa
open Go.RowKit V Pk Go.Proofs.YtjgekbmahhhokaaDoor.Vl Go.Proofs.YtjgekbmahhhokaaDoor.Nm
set_option linter.unusedVariables false
set_option linter.unusedSimpArgs false

variable {G : List (Nat × List Value)}
theorem bad_at {l : List Tk} {i : Nat} (h : i < l.length) (hq : badTk l 0 = badTk (l.drop i) i) (hc : checkT l[i] ≠ 0) : badTk l 0 = some (i, checkT l[i]) := by
 rw [hq, List.drop_eq_getElem_cons h, badTk, if_neg hc]
theorem bad_on {l : List Tk} {i : Nat} (h : i < l.length) (hq : badTk l 0 = badTk (l.drop i) i) (hc : checkT l[i] = 0) : badTk l 0 = badTk (l.drop (i + 1)) (i + 1) := by
 rw [hq, List.drop_eq_getElem_cons h, badTk, if_pos hc]
theorem bad_none : ∀ {l : List Tk} {i : Nat}, badTk l i = none → ∀ t ∈ l, checkT t = 0
 | [], _, _, t, h => by cases h
 | a :: r, i, h, t, ht => by
  unfold badTk at h
  split at h
  ·rename_i hc
   rcases List.mem_cons.1 ht with rfl | ht
   ·exact hc
   exact bad_none h t ht
  cases h
theorem num_pos {t : Tk} (h : checkT t = 0) (hk : t.k = 2) : 0 ≤ t.n := by
 unfold checkT at h
 rw [if_neg (by omega), if_pos hk] at h
 split at h
 ·cases h
 omega
theorem parse_big {l : List Tk} (h : l.length > 100) : parseF l = (stZ, 0, 10) := by unfold parseF; rw [if_pos h]
theorem parse_bad {l : List Tk} {i : Nat} {e : Int} (h : l.length ≤ 100) (hb : badTk l 0 = some (i, e)) : parseF l = (stZ, i, e) := by unfold parseF; rw [if_neg (by omega), hb]
theorem parse_no {l : List Tk} {p : Nat} {e : Int} (h : l.length ≤ 100) (hb : badTk l 0 = none) (hs : stP l 0 [] = .no p e) : parseF l = (stZ, p, e) := by unfold parseF; rw [if_neg (by omega), hb, hs]; rfl
theorem parse_ok {l : List Tk} {s : StL} {p : Nat} {os : List OpL} (h : l.length ≤ 100) (hb : badTk l 0 = none) (hs : stP l 0 [] = .ok s p os) (hp : ¬ p < l.length) : parseF l = (s, 0, 0) := by
 unfold parseF; rw [if_neg (by omega), hb, hs]; simp only [Rs.bind, if_neg hp]
theorem parse_more {l : List Tk} {s : StL} {p : Nat} {os : List OpL} (h : l.length ≤ 100) (hb : badTk l 0 = none) (hs : stP l 0 [] = .ok s p os) (hp : p < l.length) : parseF l = (stZ, p, if l.length ≤ p then 7 else 6) := by
 unfold parseF; rw [if_neg (by omega), hb, hs]; simp only [Rs.bind, if_pos hp, gv]
def dvP (r : StL × Nat × Int) : D := .tup [.agg (cSt r.1), .v (.int .i64 ((r.2.1 : Nat) : Int)), .v (.int .i64 r.2.2)]
theorem recoverD_ret (c0 : Frame) (cs : List Frame) (h : c0.mode = .returning) : (recoverD (c0 :: cs) = some (.nilIface, { c0 with mode := .returning } :: cs)) ∨ (recoverD (c0 :: cs) = none ∧ Value.nilIface = .nilIface ∧ FrameMode.returning = .returning) := .inr ⟨by simp [recoverD, h], rfl, rfl⟩
theorem recoverD_pan (v : Value) (c0 : Frame) (cs : List Frame) (h : c0.mode = .panicking [{ v := v, recovered := false }]) : (recoverD (c0 :: cs) = some (v, { c0 with mode := .panicking [{ v := v, recovered := true }] } :: cs)) ∨ (recoverD (c0 :: cs) = none ∧ v = .nilIface ∧ FrameMode.panicking [{ v := v, recovered := true }] = .panicking [{ v := v, recovered := false }]) := .inl (by simp [recoverD, h])

set_option maxHeartbeats 4000000 in
set_option maxRecDepth 100000 in
theorem cl_ret (b2 b3 b4 : Nat) (S : List Blk) : VDf Tryd.prog G 24 [.v (.pointer (some ⟨b2, 0, none⟩)), .v (.pointer (some ⟨b3, 0, none⟩)), .v (.pointer (some ⟨b4, 0, none⟩))] S .returning .returning (fun S' => S' = S) := by
 refine VDf.recover (v := .nilIface) Tryd.func24 rfl Tryd.ntmps24 Tryd.results24 le_ rfl rfl rfl rfl rfl rfl (by decide) (fun c0 cs h => recoverD_ret c0 cs h) fun X0 w0 => ?_
 refine sr_ ?_
 refine om_ ?_
 refine os_ (still_errNo rfl ot Tryd.underlying20) ?_
 refine OD.wk (Wk.as_ (n := 15) (l' := [(0, _), (1, _), (2, _), (3, _), (7, _)]) (S' := S) rfl rfl sl_) ?_
 refine OD.nil ?_
 refine CD.cond ot (fun hc0 => ?_) (fun hc0 => ?_)
 ·exact absurd hc0 (by decide)
 refine CD.skip ?_
 exact ⟨rfl, rfl⟩

theorem places32_Pbc : ∀ w, ((#[{ name := "Kind", type := 3, offset := 0, embedded := false, tag := "", pkgPath := "", byteOffset := 0 }, { name := "Table", type := 9, offset := 1, embedded := false, tag := "", pkgPath := "", byteOffset := 8 }, { name := "Cols", type := 27, offset := 2, embedded := false, tag := "", pkgPath := "", byteOffset := 24 }, { name := "Row", type := 28, offset := 3, embedded := false, tag := "", pkgPath := "", byteOffset := 48 }, { name := "Names", type := 29, offset := 4, embedded := false, tag := "", pkgPath := "", byteOffset := 72 }, { name := "Count", type := 4, offset := 5, embedded := false, tag := "", pkgPath := "", byteOffset := 96 }, { name := "Where", type := 30, offset := 6, embedded := false, tag := "", pkgPath := "", byteOffset := 104 }, { name := "Order", type := 9, offset := 7, embedded := false, tag := "", pkgPath := "", byteOffset := 128 }, { name := "Down", type := 4, offset := 8, embedded := false, tag := "", pkgPath := "", byteOffset := 144 }, { name := "Limit", type := 3, offset := 9, embedded := false, tag := "", pkgPath := "", byteOffset := 152 }, { name := "Set", type := 9, offset := 10, embedded := false, tag := "", pkgPath := "", byteOffset := 160 }, { name := "To", type := 30, offset := 11, embedded := false, tag := "", pkgPath := "", byteOffset := 176 }] : Array Field).mapM fun f => do pure (f.offset, ← sizeOf f.type) : Sem (Array (Nat × Nat))).run Tryd.prog w = .ok #[(0, 1), (1, 1), (2, 1), (3, 1), (4, 1), (5, 1), (6, 1), (7, 1), (8, 1), (9, 1), (10, 1), (11, 1)] w := fun w => by simp [Tryd.sizeOf27, Tryd.sizeOf28, Tryd.sizeOf29, Tryd.sizeOf3, Tryd.sizeOf30, Tryd.sizeOf4, Tryd.sizeOf9]

set_option maxHeartbeats 4000000 in
set_option maxRecDepth 100000 in
theorem cl_pan0 (k2 k3 k4 p : Nat) (e : Int) (c4 c3 : D) (cs : List D) (hcs : cs.length = 12) : VDf Tryd.prog G 24 [.v (.pointer (some ⟨k2, 0, none⟩)), .v (.pointer (some ⟨k3, 0, none⟩)), .v (.pointer (some ⟨k4, 0, none⟩))] [⟨k4, 33, 1, [c4]⟩, ⟨k3, 3, 1, [c3]⟩, ⟨k2, 32, 12, cs⟩] (.panicking (wrC p e)) (.panicking [{ v := .iface 67 (.agg #[.int .i64 (p : Nat), .int .i64 e]), recovered := true }]) (fun S' => ∃ B, S' = [B, ⟨k4, 33, 1, [.v (.int .i64 e)]⟩, ⟨k3, 3, 1, [.v (.int .i64 ((p : Nat) : Int))]⟩, ⟨k2, 32, 12, [.v (.int .i64 0), .v (.string ⟨#[]⟩), .v (.slice none 0 0), .v (.slice none 0 0), .v (.slice none 0 0), .v (.bool false), .v (.slice none 0 0), .v (.string ⟨#[]⟩), .v (.bool false), .v (.int .i64 0), .v (.string ⟨#[]⟩), .v (.slice none 0 0)]⟩]) := by
 rcases cs with _ | ⟨x0, _ | ⟨x1, _ | ⟨x2, _ | ⟨x3, _ | ⟨x4, _ | ⟨x5, _ | ⟨x6, _ | ⟨x7, _ | ⟨x8, _ | ⟨x9, _ | ⟨x10, _ | ⟨x11, _ | ⟨x12, cs⟩⟩⟩⟩⟩⟩⟩⟩⟩⟩⟩⟩⟩ <;> first | (simp at hcs; done) | skip
 refine VDf.recover (v := .iface 67 (.agg #[.int .i64 (p : Nat), .int .i64 e])) Tryd.func24 rfl Tryd.ntmps24 Tryd.results24 le_ rfl rfl rfl rfl rfl rfl (by decide) (fun c0 cs h => recoverD_pan _ c0 cs h) fun X0 w0 => ?_
 refine sr_ ?_
 refine om_ ?_
 refine os_ (still_errYes rfl ot Tryd.underlying20) ?_
 refine on_ [(0, _), (1, _), (2, _), (3, _), (7, _)] [⟨k4, 33, 1, [_]⟩, ⟨k3, 3, 1, [_]⟩, ⟨k2, 32, 12, [_, _, _, _, _, _, _, _, _, _, _, _]⟩] ?_
 refine CD.cond ot (fun hc0 => ?_) (fun hc0 => ?_)
 ·have hc0' := hc0
  (try simp only [V.cnd, ne_eq] at hc0')
  refine sr_ ?_
  refine om_ ?_
  refine os_ (still_tassert (vs := [.int .i64 ((p : Nat) : Int), .int .i64 e]) rfl ot Tryd.underlying67) ?_
  refine OD.alloc (ds := [_, _]) wp_ rfl rfl Tryd.zeroValue67 rfl (fun b4 => ?_)
  refine ot_ 0 [_, _] Tryd.sizeOf67 ?_
  refine on_ [(0, _), (1, _), (2, _), (4, _)] [⟨b4, 67, 2, [_, _]⟩, ⟨k4, 33, 1, [_]⟩, ⟨k3, 3, 1, [_]⟩, ⟨k2, 32, 12, [_, _, _, _, _, _, _, _, _, _, _, _]⟩] ?_
  refine CD.draw (bks (List.take 1 _)) kr_ (fun _ h => (List.Sublist.map _ (List.take_sublist _ _)).subset h) ?_
  refine a0_ 0 rfl (still_bld (pl := []) (ds := [_, _, _, _, _, _, _, _, _, _, _, _]) rfl Tryd.zeroValue32 Tryd.runUnderlying32 places32_Pbc trivial rfl rfl) ?_
  refine a0_ 1 rfl (fa_ 0) ?_
  refine a0_ 2 rfl (lb_ 0) ?_
  refine a0_ 3 rfl (fa_ 1) ?_
  refine a0_ 4 rfl (lb_ 0) ?_
  refine AD0.later rfl ?_
  refine AD.one (i := 5) kr_ ?_
  refine AStep.store (k := 3) (cs' := [_, _, _, _, _, _, _, _, _, _, _, _]) rfl wp_ rfl rfl ot rfl rfl ot rfl rfl Tryd.sizeOf32 rfl rfl rfl (by intro b hb; simp [bks, St.put] at hb ⊢; try first | exact hb | simp [hb] | (rcases hb with hb | hb <;> simp [hb]) | (rcases hb with hb | hb | hb <;> simp [hb])) ?_
  refine AD.one (i := 6) kr_ ?_
  refine AStep.store (k := 2) (cs' := [_]) rfl wp_ rfl rfl ot rfl rfl ot rfl rfl Tryd.sizeOf3 rfl rfl rfl (by intro b hb; simp [bks, St.put] at hb ⊢; try first | exact hb | simp [hb] | (rcases hb with hb | hb <;> simp [hb]) | (rcases hb with hb | hb | hb <;> simp [hb])) ?_
  refine AD.one (i := 7) kr_ ?_
  refine AStep.store (k := 1) (cs' := [_]) rfl wp_ rfl rfl ot rfl rfl ot rfl rfl Tryd.sizeOf33 rfl rfl rfl (by intro b hb; simp [bks, St.put] at hb ⊢; try first | exact hb | simp [hb] | (rcases hb with hb | hb <;> simp [hb]) | (rcases hb with hb | hb | hb <;> simp [hb])) ?_
  refine aw_ [] [⟨b4, 67, 2, [_, _]⟩, ⟨k4, 33, 1, [_]⟩, ⟨k3, 3, 1, [_]⟩, ⟨k2, 32, 12, [_, _, _, _, _, _, _, _, _, _, _, _]⟩] ?_
  refine AD.done kr_ ?_
  exact ⟨rfl, _, rfl⟩
 exact absurd hc0 (by decide)

theorem places70_Pbc : ∀ w, ((#[{ name := "l", type := 26, offset := 0, embedded := false, tag := "", pkgPath := "padlock/parse", byteOffset := 0 }, { name := "at", type := 3, offset := 1, embedded := false, tag := "", pkgPath := "padlock/parse", byteOffset := 24 }, { name := "ops", type := 30, offset := 2, embedded := false, tag := "", pkgPath := "padlock/parse", byteOffset := 32 }] : Array Field).mapM fun f => do pure (f.offset, ← sizeOf f.type) : Sem (Array (Nat × Nat))).run Tryd.prog w = .ok #[(0, 1), (1, 1), (2, 1)] w := fun w => by simp [Tryd.sizeOf26, Tryd.sizeOf3, Tryd.sizeOf30]

set_option maxHeartbeats 4000000 in
set_option maxRecDepth 100000 in
theorem parse_vc (hm : (0, marksC) ∈ G) (hw : (2, wordsC) ∈ G) (hk : (5, cmpC) ∈ G) (hty : (1, typesC) ∈ G) (l : List Tk) (hs : ∀ t ∈ l, t.s.size ≤ maxLen ∧ t.n ≤ 9223372036854775807) : VP Tryd.prog G 13 [.list 3 (l.flatMap cT) l.length] (dvP (parseF l)) := by
 refine VC.closing Tryd.func13 rfl Tryd.ntmps13 le_ fun X w0 => ?_
 refine KD.seqC (Q1 := fun e y => e = .normal ∧ ∃ b2 b3 b4, y = (⟨44, [(0, .list 3 (l.flatMap cT) l.length), (2, .v (.pointer (some ⟨b2, 0, none⟩))), (3, .v (.pointer (some ⟨b3, 0, none⟩))), (4, .v (.pointer (some ⟨b4, 0, none⟩)))], [⟨b4, 33, 1, [.v (.int .i64 0)]⟩, ⟨b3, 3, 1, [.v (.int .i64 0)]⟩, ⟨b2, 32, 12, [.v (.int .i64 0), .v (.string ⟨#[]⟩), .v (.slice none 0 0), .v (.slice none 0 0), .v (.slice none 0 0), .v (.bool false), .v (.slice none 0 0), .v (.string ⟨#[]⟩), .v (.bool false), .v (.int .i64 0), .v (.string ⟨#[]⟩), .v (.slice none 0 0)]⟩]⟩ : St)) (fun _ _ h => h) ?_ ?_ (fun e a w y he _ h => absurd h.1 he)
 ·skip
  refine CD.region ?_
  refine OD.alloc (ds := [_, _, _, _, _, _, _, _, _, _, _, _]) wp_ rfl rfl Tryd.zeroValue32 rfl (fun b2 => ?_)
  refine OD.alloc (ds := [_]) wp_ rfl rfl Tryd.zeroValue3 rfl (fun b3 => ?_)
  refine OD.alloc (ds := [_]) wp_ rfl rfl Tryd.zeroValue33 rfl (fun b4 => ?_)
  refine on_ [(0, _), (2, _), (3, _), (4, _)] [⟨b4, 33, 1, [_]⟩, ⟨b3, 3, 1, [_]⟩, ⟨b2, 32, 12, [_, _, _, _, _, _, _, _, _, _, _, _]⟩] ?_
  exact ⟨rfl, _, _, _, rfl⟩
 rintro _ ⟨-, b2, b3, b4, rfl⟩
 refine KD.seqC (Q1 := fun e y => (e = .normal ∧ l.length ≤ 100 ∧ y = (⟨44, [(0, .list 3 (l.flatMap cT) l.length), (2, .v (.pointer (some ⟨b2, 0, none⟩))), (3, .v (.pointer (some ⟨b3, 0, none⟩))), (4, .v (.pointer (some ⟨b4, 0, none⟩)))], [⟨b4, 33, 1, [.v (.int .i64 0)]⟩, ⟨b3, 3, 1, [.v (.int .i64 0)]⟩, ⟨b2, 32, 12, [.v (.int .i64 0), .v (.string ⟨#[]⟩), .v (.slice none 0 0), .v (.slice none 0 0), .v (.slice none 0 0), .v (.bool false), .v (.slice none 0 0), .v (.string ⟨#[]⟩), .v (.bool false), .v (.int .i64 0), .v (.string ⟨#[]⟩), .v (.slice none 0 0)]⟩]⟩ : St)) ∨ (e = .ret ∧ ∃ r S', List.Sublist S' y.S ∧ Ret Tryd.prog Tryd.f13 y r ∧ (r = dvP (parseF l) ∧ S' = []))) (fun _ _ h => h) ?_ ?_ (fun e a w y he hs h => by (rcases h with h | ⟨rfl, h⟩; exact absurd h.1 he; exact leave_ret hs h))
 ·skip
  refine sr_ ?_
  refine om_ ?_
  refine os_ ln_ ?_
  refine os_ bn_ ?_
  refine nm_ [0, 2, 3, 4, 11] ?_
  refine CD.cond ot (fun hc0 => ?_) (fun hc0 => ?_)
  ·have hc0' := hc0
   (try simp only [V.cnd, ne_eq] at hc0')
   have hbig : l.length > 100 := by simp at hc0; omega
   refine sr_ ?_
   refine os_ (still_bld (pl := []) (ds := [_, _, _, _, _, _, _, _, _, _, _, _]) rfl Tryd.zeroValue32 Tryd.runUnderlying32 places32_Pbc trivial rfl rfl) ?_
   refine ot_ 2 [_, _, _, _, _, _, _, _, _, _, _, _] Tryd.sizeOf32 ?_
   refine ot_ 1 [_] Tryd.sizeOf3 ?_
   refine ot_ 0 [_] Tryd.sizeOf33 ?_
   refine on_ [(0, _), (2, _), (3, _), (4, _)] [⟨b4, 33, 1, [_]⟩, ⟨b3, 3, 1, [_]⟩, ⟨b2, 32, 12, [_, _, _, _, _, _, _, _, _, _, _, _]⟩] ?_
   refine CD.ret ?_
   exact Or.inr ⟨rfl, dvP (stZ, 0, 10), [], List.nil_sublist _, (ret_three Tryd.results13 (res_cells (k := 2) (ds := [_, _, _, _, _, _, _, _, _, _, _, _]) le_ lk rfl rfl Tryd.isAgg32 Tryd.sizeOf32 rfl rfl) (res_cell (k := 1) le_ lk rfl rfl Tryd.isAgg3 rfl) (res_cell (k := 0) le_ lk rfl rfl Tryd.isAgg33 rfl)).gv (gv_tup ⟨gv_agg (by repeat (first | exact trivial | exact ⟨gv_rfl, trivial⟩ | exact ⟨gv_nil, trivial⟩ | refine ⟨gv_rfl, ?_⟩ | refine ⟨gv_nil, ?_⟩)), gv_rfl, gv_rfl, trivial⟩), (by rw [parse_big hbig]), rfl⟩
  have hc0' := hc0
  (try simp only [V.cnd, ne_eq] at hc0')
  have hl : l.length ≤ 100 := by simp at hc0; omega
  refine CD.wk (Wk.as_ (n := 44) (l' := [(0, _), (2, _), (3, _), (4, _)]) (S' := [⟨b4, 33, 1, [_]⟩, ⟨b3, 3, 1, [_]⟩, ⟨b2, 32, 12, [_, _, _, _, _, _, _, _, _, _, _, _]⟩]) rfl rfl sl_) ?_
  refine CD.skip ?_
  exact Or.inl ⟨rfl, hl, rfl⟩
 intro y hy
 obtain ⟨hl, rfl⟩ : l.length ≤ 100 ∧ y = (⟨44, [(0, .list 3 (l.flatMap cT) l.length), (2, .v (.pointer (some ⟨b2, 0, none⟩))), (3, .v (.pointer (some ⟨b3, 0, none⟩))), (4, .v (.pointer (some ⟨b4, 0, none⟩)))], [⟨b4, 33, 1, [.v (.int .i64 0)]⟩, ⟨b3, 3, 1, [.v (.int .i64 0)]⟩, ⟨b2, 32, 12, [.v (.int .i64 0), .v (.string ⟨#[]⟩), .v (.slice none 0 0), .v (.slice none 0 0), .v (.slice none 0 0), .v (.bool false), .v (.slice none 0 0), .v (.string ⟨#[]⟩), .v (.bool false), .v (.int .i64 0), .v (.string ⟨#[]⟩), .v (.slice none 0 0)]⟩]⟩ : St) := by (rcases hy with ⟨-, h⟩ | ⟨h, -⟩; exact h; cases h)
 refine KD.seqC (Q1 := fun e y => (e = .normal ∧ badTk l 0 = none ∧ y = (⟨44, [(0, .list 3 (l.flatMap cT) l.length), (2, .v (.pointer (some ⟨b2, 0, none⟩))), (3, .v (.pointer (some ⟨b3, 0, none⟩))), (4, .v (.pointer (some ⟨b4, 0, none⟩)))], [⟨b4, 33, 1, [.v (.int .i64 0)]⟩, ⟨b3, 3, 1, [.v (.int .i64 0)]⟩, ⟨b2, 32, 12, [.v (.int .i64 0), .v (.string ⟨#[]⟩), .v (.slice none 0 0), .v (.slice none 0 0), .v (.slice none 0 0), .v (.bool false), .v (.slice none 0 0), .v (.string ⟨#[]⟩), .v (.bool false), .v (.int .i64 0), .v (.string ⟨#[]⟩), .v (.slice none 0 0)]⟩]⟩ : St)) ∨ (e = .ret ∧ ∃ r S', List.Sublist S' y.S ∧ Ret Tryd.prog Tryd.f13 y r ∧ (r = dvP (parseF l) ∧ S' = []))) (fun _ _ h => h) ?_ ?_ (fun e a w y he hs h => by (rcases h with h | ⟨rfl, h⟩; exact absurd h.1 he; exact leave_ret hs h))
 ·skip
  refine sr_ ?_
  refine om_ ?_
  refine os_ ln_ ?_
  refine om_ ?_
  refine nm_ [0, 2, 3, 4, 13, 14, 15] ?_
  refine CD.block ?_
  refine lp_ (fun (i : Nat) y__ => (i ≤ l.length) ∧ (badTk l 0 = badTk (l.drop i) i) ∧ y__ = (⟨44, [(0, .list 3 (l.flatMap cT) l.length), (2, .v (.pointer (some ⟨b2, 0, none⟩))), (3, .v (.pointer (some ⟨b3, 0, none⟩))), (4, .v (.pointer (some ⟨b4, 0, none⟩))), (13, .list 3 (l.flatMap cT) l.length), (14, .v (.int .i64 l.length)), (15, .v (.int .i64 (i : Nat)))], [⟨b4, 33, 1, [.v (.int .i64 0)]⟩, ⟨b3, 3, 1, [.v (.int .i64 0)]⟩, ⟨b2, 32, 12, [.v (.int .i64 0), .v (.string ⟨#[]⟩), .v (.slice none 0 0), .v (.slice none 0 0), .v (.slice none 0 0), .v (.bool false), .v (.slice none 0 0), .v (.string ⟨#[]⟩), .v (.bool false), .v (.int .i64 0), .v (.string ⟨#[]⟩), .v (.slice none 0 0)]⟩]⟩ : St)) (fun (i : Nat) => l.length - i) 0 ⟨(Nat.zero_le _), (by rw [List.drop_zero]), rfl⟩ (Wk.asS rfl sv_ sq_) ?_
  rintro i _ ⟨hi, hq, rfl⟩
  refine sr_ ?_
  refine os_ bn_ ?_
  refine nm_ [0, 2, 3, 4, 13, 14, 15, 16] ?_
  refine CD.seq ?_
  refine CD.cond ot (fun hc1 => ?_) (fun hc1 => ?_)
  ·have hc1' := hc1
   (try simp only [V.cnd, ne_eq] at hc1')
   have hlt : i < l.length := by simp at hc1; omega
   refine CD.skip ?_
   refine CD.seq ?_
   refine CD.block ?_
   refine sr_ ?_
   refine om_ ?_
   refine os_ (ix_ 3 (h := by first | exact .l (j := i) rfl hlt | exact .r (j := i) rfl hlt)) ?_
   refine os_ (la_ [_, _, _]) ?_
   refine OD.alloc (ds := [_, _, _]) wp_ rfl rfl Tryd.zeroValue24 rfl (fun b6 => ?_)
   refine om_ ?_
   refine ot_ 0 [_, _, _] Tryd.sizeOf24 ?_
   refine on_ [(0, _), (2, _), (3, _), (4, _), (5, _), (6, _), (13, _), (14, _), (15, _)] [⟨b6, 24, 3, [_, _, _]⟩, ⟨b4, 33, 1, [_]⟩, ⟨b3, 3, 1, [_]⟩, ⟨b2, 32, 12, [_, _, _, _, _, _, _, _, _, _, _, _]⟩] ?_
   refine sr_ ?_
   refine os_ (lab_ 0 [_, _, _]) ?_
   refine oc_ Tryd.call23 (Nm.check_vp hm l[i] (hs _ (List.getElem_mem hlt)).1) ?_
   refine om_ ?_
   refine on_ [(0, _), (2, _), (3, _), (4, _), (5, _), (7, _), (13, _), (14, _), (15, _)] [⟨b6, 24, 3, [_, _, _]⟩, ⟨b4, 33, 1, [_]⟩, ⟨b3, 3, 1, [_]⟩, ⟨b2, 32, 12, [_, _, _, _, _, _, _, _, _, _, _, _]⟩] ?_
   refine sr_ ?_
   refine om_ ?_
   refine os_ bn_ ?_
   refine nm_ [0, 2, 3, 4, 5, 7, 13, 14, 15, 23] ?_
   refine CD.cond ot (fun hc2 => ?_) (fun hc2 => ?_)
   ·have hc2' := hc2
    (try simp only [V.cnd, ne_eq] at hc2')
    have hnz : checkT l[i] ≠ 0 := by simpa using hc2
    refine sr_ ?_
    refine os_ (still_bld (pl := []) (ds := [_, _, _, _, _, _, _, _, _, _, _, _]) rfl Tryd.zeroValue32 Tryd.runUnderlying32 places32_Pbc trivial rfl rfl) ?_
    refine om_ ?_
    refine om_ ?_
    refine ot_ 3 [_, _, _, _, _, _, _, _, _, _, _, _] Tryd.sizeOf32 ?_
    refine ot_ 2 [_] Tryd.sizeOf3 ?_
    refine ot_ 1 [_] Tryd.sizeOf33 ?_
    refine on_ [(0, _), (2, _), (3, _), (4, _)] [⟨b6, 24, 3, [_, _, _]⟩, ⟨b4, 33, 1, [_]⟩, ⟨b3, 3, 1, [_]⟩, ⟨b2, 32, 12, [_, _, _, _, _, _, _, _, _, _, _, _]⟩] ?_
    refine CD.ret ?_
    exact Or.inr ⟨rfl, dvP (stZ, i, checkT l[i]), [], List.nil_sublist _, (ret_three Tryd.results13 (res_cells (k := 3) (ds := [_, _, _, _, _, _, _, _, _, _, _, _]) le_ lk rfl rfl Tryd.isAgg32 Tryd.sizeOf32 rfl rfl) (res_cell (k := 2) le_ lk rfl rfl Tryd.isAgg3 rfl) (res_cell (k := 1) le_ lk rfl rfl Tryd.isAgg33 rfl)).gv (gv_tup ⟨gv_agg (by repeat (first | exact trivial | exact ⟨gv_rfl, trivial⟩ | exact ⟨gv_nil, trivial⟩ | refine ⟨gv_rfl, ?_⟩ | refine ⟨gv_nil, ?_⟩)), gv_rfl, gv_rfl, trivial⟩), (by rw [parse_bad hl (bad_at hlt hq hnz)]), rfl⟩
   have hc2' := hc2
   (try simp only [V.cnd, ne_eq] at hc2')
   have hz : checkT l[i] = 0 := by simpa using hc2
   refine CD.skip ?_
   refine CD.region ?_
   refine os_ bn_ ?_
   refine om_ ?_
   refine nm_ [0, 2, 3, 4, 13, 14, 15] ?_
   refine ⟨(i + 1), _, ?_, ?_, (by omega), (bad_on hlt hq hz), rfl⟩
   ·first | omega | (simp only []; omega)
   exact Wk.asS (n := 44) rfl sv_ sq_
  have hc1' := hc1
  (try simp only [V.cnd, ne_eq] at hc1')
  have hie : l.length ≤ i := by simp at hc1; omega
  have hbad : badTk l 0 = none := by rw [hq, List.drop_of_length_le hie]; rfl
  refine CD.wk (Wk.as_ (n := 44) (l' := [(0, _), (2, _), (3, _), (4, _)]) (S' := [⟨b4, 33, 1, [_]⟩, ⟨b3, 3, 1, [_]⟩, ⟨b2, 32, 12, [_, _, _, _, _, _, _, _, _, _, _, _]⟩]) rfl rfl sl_) ?_
  refine CD.exit ?_
  exact Or.inl ⟨rfl, hbad, rfl⟩
 intro y hy
 obtain ⟨hbad, rfl⟩ : badTk l 0 = none ∧ y = (⟨44, [(0, .list 3 (l.flatMap cT) l.length), (2, .v (.pointer (some ⟨b2, 0, none⟩))), (3, .v (.pointer (some ⟨b3, 0, none⟩))), (4, .v (.pointer (some ⟨b4, 0, none⟩)))], [⟨b4, 33, 1, [.v (.int .i64 0)]⟩, ⟨b3, 3, 1, [.v (.int .i64 0)]⟩, ⟨b2, 32, 12, [.v (.int .i64 0), .v (.string ⟨#[]⟩), .v (.slice none 0 0), .v (.slice none 0 0), .v (.slice none 0 0), .v (.bool false), .v (.slice none 0 0), .v (.string ⟨#[]⟩), .v (.bool false), .v (.int .i64 0), .v (.string ⟨#[]⟩), .v (.slice none 0 0)]⟩]⟩ : St) := by (rcases hy with ⟨-, h⟩ | ⟨h, -⟩; exact h; cases h)
 have ht : ∀ t ∈ l, t.s.size ≤ maxLen ∧ (t.k = 2 → 0 ≤ t.n ∧ t.n ≤ 9223372036854775807) := fun t h => ⟨(hs t h).1, fun hk => ⟨num_pos (bad_none hbad t h) hk, (hs t h).2⟩⟩
 refine KD.defer (vs := [(.pointer (some ⟨b2, 0, none⟩)), (.pointer (some ⟨b3, 0, none⟩)), (.pointer (some ⟨b4, 0, none⟩))]) rfl rfl (show Still _ _ _ _ _ (.clo (.func 24) [.v (.pointer (some ⟨b2, 0, none⟩)), .v (.pointer (some ⟨b3, 0, none⟩)), .v (.pointer (some ⟨b4, 0, none⟩))]) from still_fn rfl ⟨ot, ot, ot, trivial⟩) rfl rfl rfl rfl ?_
 refine KD.of (Q := fun e y => (e = .ret ∧ ∃ B s, parseF l = (s, 0, 0) ∧ y = (⟨44, [(2, .v (.pointer (some ⟨b2, 0, none⟩))), (3, .v (.pointer (some ⟨b3, 0, none⟩))), (4, .v (.pointer (some ⟨b4, 0, none⟩)))], [B, ⟨b4, 33, 1, [.v (.int .i64 0)]⟩, ⟨b3, 3, 1, [.v (.int .i64 0)]⟩, ⟨b2, 32, 12, (cSt s)⟩]⟩ : St)) ∨ ∃ ch, e = .panic ch ∧ ∃ q e, ch = wrC q e ∧ parseF l = (stZ, q, e) ∧ ∃ (env : List (Nat × D)) (c4 c3 : D) (cs : List D), y = (⟨44, env, [⟨b4, 33, 1, [c4]⟩, ⟨b3, 3, 1, [c3]⟩, ⟨b2, 32, 12, cs⟩]⟩ : St) ∧ cs.length = 12 ∧ V.look 2 env = .v (.pointer (some ⟨b2, 0, none⟩)) ∧ V.look 3 env = .v (.pointer (some ⟨b3, 0, none⟩)) ∧ V.look 4 env = .v (.pointer (some ⟨b4, 0, none⟩))) ?_ ?_
 ·skip
  refine sr_ ?_
  refine om_ ?_
  refine os_ (still_bld (pl := [(0, _)]) (ds := [_, _, _]) rfl Tryd.zeroValue70 Tryd.runUnderlying70 places70_Pbc ⟨rfl, ot, trivial⟩ rfl rfl) ?_
  refine OD.box (ds := [_, _, _]) wp_ rfl rfl ot rfl rfl (fun b31 => ?_)
  refine om_ ?_
  refine on_ [(0, _), (2, _), (3, _), (4, _), (8, _)] [⟨b31, 70, 3, [_, _, _]⟩, ⟨b4, 33, 1, [_]⟩, ⟨b3, 3, 1, [_]⟩, ⟨b2, 32, 12, [_, _, _, _, _, _, _, _, _, _, _, _]⟩] ?_
  refine sr_ ?_
  refine om_ ?_
  refine OD.callX wp_ rfl rfl rfl Tryd.call25 (statement_vx (br := b31) hl hm hw hk hty ht 0 (Nat.zero_le _) [] _ rfl none 0 0) ⟨ot, trivial⟩ (List.Perm.refl _) (fun ch hch => by obtain ⟨q, e, h1, rfl⟩ := hch; exact Or.inr ⟨_, rfl, q, e, rfl, parse_no hl hbad h1, _, _, _, _, rfl, rfl, lk, lk, lk⟩) ?_
  rintro _ _ ⟨s, p, os, ad, n, cap, hst, ⟨rfl, hok⟩, hp, rfl⟩
  unfold cSt
  refine OD.perm (S' := ⟨b31, 70, 3, [.list 3 (l.flatMap cT) l.length, .v (.int .i64 ((p : Nat) : Int)), .v (.slice ad n cap)]⟩ :: [⟨b4, 33, 1, [_]⟩, ⟨b3, 3, 1, [_]⟩, ⟨b2, 32, 12, [_, _, _, _, _, _, _, _, _, _, _, _]⟩]) (List.Perm.refl _) ?_
  refine ot_ 3 [_, _, _, _, _, _, _, _, _, _, _, _] Tryd.sizeOf32 ?_
  refine on_ [(0, _), (2, _), (3, _), (4, _), (8, _)] [⟨b31, 70, 3, [_, _, _]⟩, ⟨b4, 33, 1, [_]⟩, ⟨b3, 3, 1, [_]⟩, ⟨b2, 32, 12, [_, _, _, _, _, _, _, _, _, _, _, _]⟩] ?_
  refine CD.seq ?_
  refine sr_ ?_
  refine om_ ?_
  refine os_ nc_ ?_
  refine os_ (fa_ 1) ?_
  refine os_ (lb_ 0) ?_
  refine om_ ?_
  refine os_ ln_ ?_
  refine os_ bn_ ?_
  refine nm_ [2, 3, 4, 8, 40] ?_
  refine CD.cond ot (fun hc3 => ?_) (fun hc3 => ?_)
  ·have hc3' := hc3
   (try simp only [V.cnd, ne_eq] at hc3')
   have hmo : p < l.length := by simp at hc3; omega
   refine CD.region ?_
   refine om_ ?_
   exact OD.callX wp_ rfl rfl rfl Tryd.call26 (give_vx l hl p 6 ad n cap b31) ⟨ot, opd_const, trivial⟩ (List.Perm.refl _) (fun ch hch => by subst hch; exact Or.inr ⟨_, rfl, p, _, rfl, parse_more hl hbad hst hmo, _, _, _, _, rfl, rfl, lk, lk, lk⟩) (fun r S' h => h.elim)
  have hc3' := hc3
  (try simp only [V.cnd, ne_eq] at hc3')
  have hmo : ¬ p < l.length := by simp at hc3; omega
  refine CD.skip ?_
  refine sr_ ?_
  refine os_ (lab_ 3 [_, _, _, _, _, _, _, _, _, _, _, _]) ?_
  refine ot_ 3 [_, _, _, _, _, _, _, _, _, _, _, _] Tryd.sizeOf32 ?_
  refine ot_ 2 [_] Tryd.sizeOf3 ?_
  refine ot_ 1 [_] Tryd.sizeOf33 ?_
  refine on_ [(2, _), (3, _), (4, _)] [⟨b31, 70, 3, [_, _, _]⟩, ⟨b4, 33, 1, [_]⟩, ⟨b3, 3, 1, [_]⟩, ⟨b2, 32, 12, [_, _, _, _, _, _, _, _, _, _, _, _]⟩] ?_
  refine CD.ret ?_
  exact Or.inl ⟨rfl, _, s, parse_ok hl hbad hst hmo, rfl⟩
 intro e a w h
 rcases h with ⟨y, hy, ⟨rfl, B, s, hpf, rfl⟩ | ⟨ch, rfl, q, e, rfl, hpf, env, c4, c3, cs, rfl, hcs, h2, h3, h4⟩⟩ | ⟨_, h⟩
 ·have hw := leaves_one (fn := Tryd.f13) (post := fun r S' => r = dvP (parseF l) ∧ S' = []) (S0 := []) (u := .returning) (u' := .returning) (caps := [(.pointer (some ⟨b2, 0, none⟩)), (.pointer (some ⟨b3, 0, none⟩)), (.pointer (some ⟨b4, 0, none⟩))].map D.v) (cv := [(.pointer (some ⟨b2, 0, none⟩)), (.pointer (some ⟨b3, 0, none⟩)), (.pointer (some ⟨b4, 0, none⟩))]) (Sf := []) (Rs := [B, ⟨b4, 33, 1, [.v (.int .i64 0)]⟩, ⟨b3, 3, 1, [.v (.int .i64 0)]⟩, ⟨b2, 32, 12, (cSt s)⟩]) (pc := fun S' => S' = []) hy rfl rfl rfl hy.defers (repL_flat _) Tryd.call24 (List.Perm.refl _) (by intro h; cases h) rfl (cl_ret b2 b3 b4 [])
   (fun S' h => by subst h; exact ⟨_, [], List.nil_sublist _, ret_three Tryd.results13 (res_cells (k := 3) (ds := [_, _, _, _, _, _, _, _, _, _, _, _]) le_ lk rfl rfl Tryd.isAgg32 Tryd.sizeOf32 rfl rfl) (res_cell (k := 2) le_ lk rfl rfl Tryd.isAgg3 rfl) (res_cell (k := 1) le_ lk rfl rfl Tryd.isAgg33 rfl), (by rw [hpf]; rfl), rfl⟩)
  exact hw
 ·have hw := leaves_one (fn := Tryd.f13) (post := fun r S' => r = dvP (parseF l) ∧ S' = []) (S0 := []) (u := .panicking (wrC q e)) (u' := .panicking [{ v := .iface 67 (.agg #[.int .i64 (q : Nat), .int .i64 e]), recovered := true }]) (caps := [(.pointer (some ⟨b2, 0, none⟩)), (.pointer (some ⟨b3, 0, none⟩)), (.pointer (some ⟨b4, 0, none⟩))].map D.v) (cv := [(.pointer (some ⟨b2, 0, none⟩)), (.pointer (some ⟨b3, 0, none⟩)), (.pointer (some ⟨b4, 0, none⟩))]) (Sf := [⟨b4, 33, 1, [c4]⟩, ⟨b3, 3, 1, [c3]⟩, ⟨b2, 32, 12, cs⟩]) (Rs := []) (pc := fun S' => ∃ B, S' = [B, ⟨b4, 33, 1, [.v (.int .i64 e)]⟩, ⟨b3, 3, 1, [.v (.int .i64 ((q : Nat) : Int))]⟩, ⟨b2, 32, 12, [.v (.int .i64 0), .v (.string ⟨#[]⟩), .v (.slice none 0 0), .v (.slice none 0 0), .v (.slice none 0 0), .v (.bool false), .v (.slice none 0 0), .v (.string ⟨#[]⟩), .v (.bool false), .v (.int .i64 0), .v (.string ⟨#[]⟩), .v (.slice none 0 0)]⟩]) hy rfl rfl rfl hy.defers (repL_flat _) Tryd.call24 (List.Perm.refl _) (by intro h; cases h) rfl (cl_pan0 b2 b3 b4 q e c4 c3 cs hcs)
   (fun S' h => by obtain ⟨B, rfl⟩ := h; exact ⟨dvP (stZ, q, e), [], List.nil_sublist _, (ret_three Tryd.results13 (res_cells (k := 3) (ds := [_, _, _, _, _, _, _, _, _, _, _, _]) le_ h2 rfl rfl Tryd.isAgg32 Tryd.sizeOf32 rfl rfl) (res_cell (k := 2) le_ h3 rfl rfl Tryd.isAgg3 rfl) (res_cell (k := 1) le_ h4 rfl rfl Tryd.isAgg33 rfl)).gv (gv_tup ⟨gv_agg (by repeat (first | exact trivial | exact ⟨gv_rfl, trivial⟩ | exact ⟨gv_nil, trivial⟩ | refine ⟨gv_rfl, ?_⟩ | refine ⟨gv_nil, ?_⟩)), gv_rfl, gv_rfl, trivial⟩), (by rw [hpf]), rfl⟩)
  exact hw
 exact h.elim


end Go.Proofs.YtjgekbmahhhokaaDoor.Pa

namespace Go.Proofs.YtjgekbmahhhokaaDoor.Pa
open Go.RowKit V Pk Go.Proofs.YtjgekbmahhhokaaDoor.Vl Go.Proofs.YtjgekbmahhhokaaDoor.Nm
set_option linter.unusedVariables false
set_option linter.unusedSimpArgs false

abbrev GT (t : Tk) : Prop := checkT t = 0 ∧ t.s.size ≤ maxLen ∧ t.n ≤ 9223372036854775807
def GTs (l : List Tk) : Prop := ∀ t ∈ l, GT t
theorem gts_nil : GTs [] := fun _ h => by cases h
theorem gts_cons {a : Tk} {l : List Tk} (h : GT a) (h2 : GTs l) : GTs (a :: l) := fun t ht => by
 rcases List.mem_cons.1 ht with rfl | ht
 ·exact h
 exact h2 t ht
theorem gts_app {a b : List Tk} (h : GTs a) (h2 : GTs b) : GTs (a ++ b) := fun t ht => by
 rcases List.mem_append.1 ht with ht | ht
 ·exact h t ht
 exact h2 t ht
theorem gt_word {s : ByteArray} (h : nameF s = 0) : GT (wordT s) := by
 obtain ⟨h1, h2⟩ := name_ok h
 refine ⟨?_, Nat.le_trans h2 (by decide), by show (0 : Int) ≤ _; decide⟩
 rw [wordT, check_word, if_pos h1]
theorem gt_num {n : Int} (h : 0 ≤ n) (h2 : n ≤ 9223372036854775807) : GT ⟨2, ⟨#[]⟩, n⟩ := by
 refine ⟨?_, Nat.zero_le _, h2⟩
 unfold checkT; dsimp only
 rw [if_neg (by decide), if_pos rfl, if_neg (by omega), if_pos (show (⟨#[]⟩ : ByteArray).size = 0 from rfl)]
theorem gts_val {v : Vl} (h : litF v = 0) (h1 : -9223372036854775808 ≤ v.n) (h2 : v.n ≤ 9223372036854775807) : GTs (showV v) := by
 have ho := lit_ok h h1 h2
 unfold showV
 split
 ·exact gts_cons (by decide +kernel) gts_nil
 split
 ·split
  ·exact gts_cons (by decide +kernel) gts_nil
  exact gts_cons (by decide +kernel) gts_nil
 split
 ·refine gts_cons ⟨?_, ?_, by show (0 : Int) ≤ _; decide⟩ gts_nil
  ·unfold checkT; dsimp only; rw [if_neg (by decide), if_neg (by decide), if_pos rfl, if_pos rfl]
  show v.s.size ≤ maxLen
  have h20 : v.s.size ≤ 20 := by
   unfold litF checkV at h
   split at h
   ·cases h
   repeat' split at h
   all_goals first | (exfalso; omega) | omega
  exact Nat.le_trans h20 (show 20 ≤ maxLen by decide)
 split
 ·exact gts_cons (by decide +kernel) (gts_cons (gt_num (by omega) (by have := ho.2.1; omega)) gts_nil)
 exact gts_cons (gt_num (by omega) h2) gts_nil
def InR (l : List OpL) : Prop := ∀ o ∈ l, -9223372036854775808 ≤ o.v.n ∧ o.v.n ≤ 9223372036854775807
theorem inR_l {a b : List OpL} (h : InR (a ++ b)) : InR a := fun o ho => h o (List.mem_append_left _ ho)
theorem inR_r {a b : List OpL} (h : InR (a ++ b)) : InR b := fun o ho => h o (List.mem_append_right _ ho)
theorem gt_bet {k : Int} (h : k = 3 ∨ k = 4 ∨ 6 ≤ k ∧ k ≤ 10) : GT (betT k) := by
 have h' : k = 3 ∨ k = 4 ∨ k = 6 ∨ k = 7 ∨ k = 8 ∨ k = 9 ∨ k = 10 := by omega
 rcases h' with rfl | rfl | rfl | rfl | rfl | rfl | rfl <;> decide +kernel
theorem gt_open : GT (markT ⟨#[40]⟩) := by decide +kernel
theorem gt_close : GT (markT ⟨#[41]⟩) := by decide +kernel
theorem gt_comma : GT (markT ⟨#[44]⟩) := by decide +kernel
theorem gts_tree : ∀ e : Ex, e.good → InR e.opl → GTs e.tkl
 | .lit v, h, hr => by
  have := hr ⟨1, v, ⟨#[]⟩⟩ List.mem_cons_self
  exact gts_val h this.1 this.2
 | .col s, h, _ => gts_cons (gt_word h) gts_nil
 | .not e, h, hr => by
  have ih := gts_tree e h (inR_l hr)
  show GTs ([[markT _, wordT _], e.tkl, [markT _]].flatten)
  simp only [List.flatten_cons, List.flatten_nil, List.append_nil]
  exact gts_app (gts_cons gt_open (gts_cons (by decide +kernel) gts_nil)) (gts_app ih (gts_cons gt_close gts_nil))
 | .isn e, h, hr => by
  have ih := gts_tree e h (inR_l hr)
  show GTs ([[markT _], e.tkl, [wordT _, wordT _], [markT _]].flatten)
  simp only [List.flatten_cons, List.flatten_nil, List.append_nil]
  exact gts_app (gts_cons gt_open gts_nil) (gts_app ih (gts_app (gts_cons (by decide +kernel) (gts_cons (by decide +kernel) gts_nil)) (gts_cons gt_close gts_nil)))
 | .bin k a b, h, hr => by
  have ia := gts_tree a h.2.1 (inR_l (inR_l hr))
  have ib := gts_tree b h.2.2 (inR_r (inR_l hr))
  show GTs ([[markT _], a.tkl, [betT k], b.tkl, [markT _]].flatten)
  simp only [List.flatten_cons, List.flatten_nil, List.append_nil]
  exact gts_app (gts_cons gt_open gts_nil) (gts_app ia (gts_app (gts_cons (gt_bet h.1) gts_nil) (gts_app ib (gts_cons gt_close gts_nil))))
theorem gts_ops {l : List OpL} (h : exprL 0 l = 0) (hr : InR l) : GTs (showO l) := by
 obtain ⟨e, h1, h2, h3⟩ := tree_of h
 rw [h3]; exact gts_tree e h1 (h2 ▸ hr)
theorem gts_where {l : List OpL} (h : l.length = 0 ∨ exprL 0 l = 0) (hr : InR l) : GTs (showW l) := by
 unfold showW
 split
 ·exact gts_nil
 rename_i h0
 exact gts_app (gts_cons (by decide +kernel) gts_nil) (gts_ops (h.resolve_left h0) hr)
theorem gts_sep : ∀ (l : List (List Tk)), (∀ x ∈ l, GTs x) → GTs (sepT l)
 | [], _ => gts_nil
 | [t], h => h t List.mem_cons_self
 | t :: u :: r, h => gts_app (h t List.mem_cons_self) (gts_cons gt_comma (gts_sep (u :: r) fun x hx => h x (List.mem_cons_of_mem _ hx)))
theorem gts_list {l : List (List Tk)} (h : ∀ x ∈ l, GTs x) : GTs (listL l) := by
 rw [list_sep]; exact gts_cons gt_open (gts_app (gts_sep l h) (gts_cons gt_close gts_nil))
theorem gts_show {s : StL} (hf : FinS s) (h1 : 1 ≤ s.kind) (h9 : s.kind ≤ 9) (hl : s.limit ≤ 9223372036854775807) (hc : checkS s = 0) : GTs (showS s) := by
 obtain ⟨he, hb, ht⟩ := err_0 hc
 have hs := sh_of hf h1 h9 hc
 have hw : InR s.wher := fun o ho => (hf.w o ho).2
 have hto : InR s.to := fun o ho => (hf.x o ho).2
 unfold showS
 split
 ·rename_i hk
  have hn := ht (by omega)
  unfold errS at he; rw [if_pos hk] at he
  refine gts_app (gts_cons (by decide +kernel) (gts_cons (by decide +kernel) (gts_cons (gt_word hn) gts_nil))) (gts_list fun x hx => ?_)
  obtain ⟨c, hcm, rfl⟩ := List.mem_map.1 hx
  obtain ⟨c1, c2, c3⟩ := (cols_good he).2 c hcm
  refine gts_cons (gt_word c1) (gts_cons ?_ gts_nil)
  have hk3 : c.k = 1 ∨ c.k = 2 ∨ c.k = 3 := by omega
  rcases hk3 with e | e | e <;> rw [e] <;> decide +kernel
 split
 ·exact gts_cons (by decide +kernel) (gts_cons (by decide +kernel) (gts_cons (gt_word (ht (by omega))) gts_nil))
 split
 ·rename_i hk1 hk2 hk
  unfold errS at he; rw [if_neg (by omega), if_pos hk] at he
  unfold rowF at he
  split at he
  ·cases he
  refine gts_app (gts_cons (by decide +kernel) (gts_cons (by decide +kernel) (gts_cons (gt_word (ht (by omega))) (gts_cons (by decide +kernel) gts_nil)))) (gts_list fun x hx => ?_)
  obtain ⟨v, hv, rfl⟩ := List.mem_map.1 hx
  exact gts_val (first_0 he v hv) (hf.r v hv).1 (hf.r v hv).2
 split
 ·rename_i hk1 hk2 hk3 hk
  have hcf : pickF s = 0 := by unfold errS at he; rw [if_neg (by omega), if_neg (by omega), if_pos hk] at he; exact he
  unfold pickF at hcf
  split at hcf
  ·cases hcf
  split at hcf
  ·cases hcf
  split at hcf
  ·cases hcf
  split at hcf
  ·exact absurd hcf (by assumption)
  split at hcf
  ·exact absurd hcf (by assumption)
  rename_i n6 lim cn nn ww
  have hn0 : ∀ x ∈ s.names, nameF x = 0 := first_0 (by omega)
  have hord : ¬ eqS s.order ⟨#[]⟩ = true → nameF s.order = 0 := fun h => by rw [if_neg h] at hcf; exact hcf
  unfold showP
  refine gts_app (gts_app (gts_app (gts_app (gts_app (gts_cons (by decide +kernel) gts_nil) ?_) (gts_cons (by decide +kernel) (gts_cons (gt_word (ht (by omega))) gts_nil))) (gts_where (hs.w (.inl hk)) hw)) ?_) ?_
  ·unfold headT
   split
   ·exact gts_cons (by decide +kernel) (gts_cons (by decide +kernel) (gts_cons (by decide +kernel) (gts_cons (by decide +kernel) gts_nil)))
   split
   ·exact gts_cons (by decide +kernel) gts_nil
   rw [preN_sep _ _ (Nat.le_refl _), List.take_length]
   refine gts_sep _ fun x hx => ?_
   obtain ⟨n, hn, rfl⟩ := List.mem_map.1 hx
   exact gts_cons (gt_word (hn0 n hn)) gts_nil
  ·unfold ordT
   split
   ·exact gts_nil
   rename_i ho
   refine gts_app (gts_cons (by decide +kernel) (gts_cons (by decide +kernel) (gts_cons (gt_word (hord ho)) gts_nil))) ?_
   split
   ·exact gts_cons (by decide +kernel) gts_nil
   exact gts_nil
  unfold limT
  split
  ·exact gts_cons (by decide +kernel) (gts_cons (gt_num (by omega) hl) gts_nil)
  exact gts_nil
 split
 ·rename_i hk1 hk2 hk3 hk4 hk
  have hns : nameF s.set = 0 := by
   unfold errS at he; rw [if_neg (by omega), if_neg (by omega), if_neg (by omega), if_pos hk] at he
   split at he
   ·assumption
   exact he
  simp only [List.flatten_cons, List.flatten_nil, List.append_nil]
  exact gts_app (gts_cons (by decide +kernel) (gts_cons (gt_word (ht (by omega))) (gts_cons (by decide +kernel) (gts_cons (gt_word hns) gts_nil)))) (gts_app (gts_cons (by decide +kernel) gts_nil) (gts_app (gts_ops (hs.t hk) hto) (gts_where (hs.w (.inr (.inl hk))) hw)))
 split
 ·rename_i hk
  exact gts_app (gts_cons (by decide +kernel) (gts_cons (by decide +kernel) (gts_cons (gt_word (ht (by omega))) gts_nil))) (gts_where (hs.w (.inr (.inr hk))) hw)
 have hk : s.kind = 7 ∨ s.kind = 8 ∨ s.kind = 9 := by omega
 rcases hk with hk | hk | hk <;> rw [hk] <;> exact gts_cons (by decide +kernel) gts_nil
theorem bad_gts : ∀ {l : List Tk} {i : Nat}, GTs l → badTk l i = none
 | [], _, _ => rfl
 | a :: r, i, h => by
  unfold badTk
  rw [if_pos (h a List.mem_cons_self).1]
  exact bad_gts fun t ht => h t (List.mem_cons_of_mem _ ht)
theorem gts_hs {l : List Tk} (h : GTs l) : ∀ t ∈ l, t.s.size ≤ maxLen ∧ t.n ≤ 9223372036854775807 := fun t ht => (h t ht).2
theorem parse_after {s : StL} (hf : FinS s) (h1 : 1 ≤ s.kind) (h9 : s.kind ≤ 9) (hl : s.limit ≤ 9223372036854775807) (hc : checkS s = 0) (hn : (showS s).length < 100) : parseF (showS s ++ [markT ⟨#[41]⟩]) = (stZ, (showS s).length, 6) := by
 obtain ⟨q, os, e1, e2⟩ := st_of (l := showS s ++ [markT ⟨#[41]⟩]) hf h1 h9 hc (.inr rfl) (by simp)
 have hq := congrArg List.length e2
 simp at hq
 have hq' : q = (showS s).length := by omega
 rw [parse_more (by simp; omega) (bad_gts (gts_app (gts_show hf h1 h9 hl hc) (gts_cons gt_close gts_nil))) e1 (by simp; omega), if_neg (by simp; omega), hq']
theorem stP_open (r : List Tk) : stP (markT ⟨#[40]⟩ :: r) 0 [] = .no 0 6 := by
 have hd : (markT ⟨#[40]⟩ :: r).drop 0 = markT ⟨#[40]⟩ :: r := rfl
 unfold stP
 rw [if_neg (nq_k hd rfl), if_neg (nq_k hd rfl), if_neg (nq_k hd rfl), if_neg (nq_k hd rfl), if_neg (nq_k hd rfl), if_neg (nq_k hd rfl), if_neg (nq_k hd rfl), if_neg (nq_k hd rfl), if_neg (nq_k hd rfl)]
 simp [gv]
theorem parse_open {l : List Tk} (h : GTs l) (hn : l.length < 100) : parseF (markT ⟨#[40]⟩ :: l) = (stZ, 0, 6) :=
 parse_no (by simp; omega) (bad_gts (gts_cons gt_open h)) (stP_open l)
theorem show_pos {s : StL} : 0 < (showS s).length := by
 unfold showS showP
 repeat' split
 all_goals simp

end Go.Proofs.YtjgekbmahhhokaaDoor.Pa

namespace Go.Proofs.YtjgekbmahhhokaaDoor.Pa
open Go.RowKit V Pk Go.Proofs.YtjgekbmahhhokaaDoor.Vl Go.Proofs.YtjgekbmahhhokaaDoor.Nm
set_option linter.unusedVariables false
set_option linter.unusedSimpArgs false

abbrev TypesTab (w : World) : Prop := Tab.TabAt w 1 typesC
abbrev CmpTab (w : World) : Prop := Tab.TabAt w 5 cmpC
def typesB : List (List UInt8) := [[], [66, 79, 79, 76], [73, 78, 84], [84, 69, 88, 84]]
def cmpB : List (List UInt8 × Int × Bool × Bool) := [([61], 6, false, false), ([60, 62], 6, false, true), ([60], 7, false, false), ([62], 7, true, false), ([62, 61], 7, false, true), ([60, 61], 7, true, true)]
def TGP : List (Nat × List Value) := [(0, marksC), (2, wordsC), (1, typesC), (5, cmpC)]
theorem tp1 : (0, marksC) ∈ TGP := List.mem_cons_self
theorem tp2 : (2, wordsC) ∈ TGP := List.mem_cons_of_mem _ List.mem_cons_self
theorem tp3 : (1, typesC) ∈ TGP := List.mem_cons_of_mem _ (List.mem_cons_of_mem _ List.mem_cons_self)
theorem tp4 : (5, cmpC) ∈ TGP := List.mem_cons_of_mem _ (List.mem_cons_of_mem _ (List.mem_cons_of_mem _ List.mem_cons_self))
theorem tgpx {w : World} (h1 : MarksTab w) (h2 : WordsTab w) (h3 : TypesTab w) (h4 : CmpTab w) : ∀ g ∈ TGP, g.2 ≠ [] ∧ TabX w g.1 g.2 := fun g hg => by
 simp only [TGP, List.mem_cons, List.not_mem_nil, or_false] at hg
 rcases hg with rfl | rfl | rfl | rfl
 ·exact ⟨by decide, .of h1 rfl⟩
 ·exact ⟨by decide, .of h2 rfl⟩
 ·exact ⟨by decide, .of h3 rfl⟩
 exact ⟨by decide, .of h4 rfl⟩

end Go.Proofs.YtjgekbmahhhokaaDoor.Pa

namespace Go.Proofs.YtjgekbmahhhokaaDoor.Pa
open Go.RowKit V Pk Go.Proofs.YtjgekbmahhhokaaDoor.Vl Go.Proofs.YtjgekbmahhhokaaDoor.Nm
set_option linter.unusedVariables false
set_option linter.unusedSimpArgs false

section
variable {H : Type} {enc : TypeId × Value → H} {P : Program} {w : World} {base : Nat} {sp : Nat → Bool} {held : Bool}
theorem rd_struct8 {fuel : Nat} {t : TypeId} {f0 f1 f2 f3 f4 f5 f6 f7 : Field} {α0 α1 α2 α3 α4 α5 α6 α7 : Type} {g0 : α0 → List D} {k0 : α0 → Prop} {g1 : α1 → List D} {k1 : α1 → Prop} {g2 : α2 → List D} {k2 : α2 → Prop} {g3 : α3 → List D} {k3 : α3 → Prop} {g4 : α4 → List D} {k4 : α4 → Prop} {g5 : α5 → List D} {k5 : α5 → Prop} {g6 : α6 → List D} {k6 : α6 → Prop} {g7 : α7 → List D} {k7 : α7 → Prop} {n0 n1 n2 n3 n4 n5 n6 n7 : Nat}
  (ht : P.underlying t = some (.struct #[f0, f1, f2, f3, f4, f5, f6, f7])) (hc : P.cellsOf t = n0 + n1 + n2 + n3 + n4 + n5 + n6 + n7) (o0 : f0.offset = 0) (c0 : P.cellsOf f0.type = n0) (o1 : f1.offset = n0) (c1 : P.cellsOf f1.type = n1) (o2 : f2.offset = n0 + n1) (c2 : P.cellsOf f2.type = n2) (o3 : f3.offset = n0 + n1 + n2) (c3 : P.cellsOf f3.type = n3) (o4 : f4.offset = n0 + n1 + n2 + n3) (c4 : P.cellsOf f4.type = n4) (o5 : f5.offset = n0 + n1 + n2 + n3 + n4) (c5 : P.cellsOf f5.type = n5) (o6 : f6.offset = n0 + n1 + n2 + n3 + n4 + n5) (c6 : P.cellsOf f6.type = n6) (o7 : f7.offset = n0 + n1 + n2 + n3 + n4 + n5 + n6) (c7 : P.cellsOf f7.type = n7)
  (r0 : ∀ n, n + 1 = fuel → RdsF n enc P w base sp held f0.type g0 k0) (r1 : ∀ n, n + 1 = fuel → RdsF n enc P w base sp held f1.type g1 k1) (r2 : ∀ n, n + 1 = fuel → RdsF n enc P w base sp held f2.type g2 k2) (r3 : ∀ n, n + 1 = fuel → RdsF n enc P w base sp held f3.type g3 k3) (r4 : ∀ n, n + 1 = fuel → RdsF n enc P w base sp held f4.type g4 k4) (r5 : ∀ n, n + 1 = fuel → RdsF n enc P w base sp held f5.type g5 k5) (r6 : ∀ n, n + 1 = fuel → RdsF n enc P w base sp held f6.type g6 k6) (r7 : ∀ n, n + 1 = fuel → RdsF n enc P w base sp held f7.type g7 k7) :
  RdsF fuel enc P w base sp held t (fun a : α0 × α1 × α2 × α3 × α4 × α5 × α6 × α7 => (g0 (a.1) ++ (g1 (a.2.1) ++ (g2 (a.2.2.1) ++ (g3 (a.2.2.2.1) ++ (g4 (a.2.2.2.2.1) ++ (g5 (a.2.2.2.2.2.1) ++ (g6 (a.2.2.2.2.2.2.1) ++ g7 (a.2.2.2.2.2.2.2))))))))) (fun a => k0 (a.1) ∧ k1 (a.2.1) ∧ k2 (a.2.2.1) ∧ k3 (a.2.2.2.1) ∧ k4 (a.2.2.2.2.1) ∧ k5 (a.2.2.2.2.2.1) ∧ k6 (a.2.2.2.2.2.2.1) ∧ k7 (a.2.2.2.2.2.2.2)) := fun cs x h => by
 obtain ⟨xs, n, hn, _, hl, hxl, hf⟩ := DataW.trod_struct ht h
 have e0 := hf 0 f0 rfl
 have e1 := hf 1 f1 rfl
 have e2 := hf 2 f2 rfl
 have e3 := hf 3 f3 rfl
 have e4 := hf 4 f4 rfl
 have e5 := hf 5 f5 rfl
 have e6 := hf 6 f6 rfl
 have e7 := hf 7 f7 rfl
 rw [o0, c0, List.drop_zero] at e0
 rw [o1, c1] at e1
 rw [o2, c2] at e2
 rw [o3, c3] at e3
 rw [o4, c4] at e4
 rw [o5, c5] at e5
 rw [o6, c6] at e6
 rw [o7, c7] at e7
 have hx8 : xs.length = 8 := hxl
 rw [List.getElem?_eq_getElem (by omega)] at e0 e1 e2 e3 e4 e5 e6 e7
 obtain ⟨a0, p0, q0⟩ := r0 n hn.symm _ _ e0
 obtain ⟨a1, p1, q1⟩ := r1 n hn.symm _ _ e1
 obtain ⟨a2, p2, q2⟩ := r2 n hn.symm _ _ e2
 obtain ⟨a3, p3, q3⟩ := r3 n hn.symm _ _ e3
 obtain ⟨a4, p4, q4⟩ := r4 n hn.symm _ _ e4
 obtain ⟨a5, p5, q5⟩ := r5 n hn.symm _ _ e5
 obtain ⟨a6, p6, q6⟩ := r6 n hn.symm _ _ e6
 obtain ⟨a7, p7, q7⟩ := r7 n hn.symm _ _ e7
 refine ⟨(a0, a1, a2, a3, a4, a5, a6, a7), ?_, q0, q1, q2, q3, q4, q5, q6, q7⟩
 have hcs : cs = (cs.take n0 ++ ((cs.drop (n0)).take n1 ++ ((cs.drop (n0 + n1)).take n2 ++ ((cs.drop (n0 + n1 + n2)).take n3 ++ ((cs.drop (n0 + n1 + n2 + n3)).take n4 ++ ((cs.drop (n0 + n1 + n2 + n3 + n4)).take n5 ++ ((cs.drop (n0 + n1 + n2 + n3 + n4 + n5)).take n6 ++ ((cs.drop (n0 + n1 + n2 + n3 + n4 + n5 + n6)).take n7)))))))) := by
  rw [List.take_of_length_le (l := List.drop (n0 + n1 + n2 + n3 + n4 + n5 + n6) cs) (by rw [List.length_drop]; omega)]
  have d2 : cs.drop (n0 + n1) = (cs.drop (n0)).drop n1 := by rw [List.drop_drop]
  have d3 : cs.drop (n0 + n1 + n2) = (cs.drop (n0 + n1)).drop n2 := by rw [List.drop_drop]
  have d4 : cs.drop (n0 + n1 + n2 + n3) = (cs.drop (n0 + n1 + n2)).drop n3 := by rw [List.drop_drop]
  have d5 : cs.drop (n0 + n1 + n2 + n3 + n4) = (cs.drop (n0 + n1 + n2 + n3)).drop n4 := by rw [List.drop_drop]
  have d6 : cs.drop (n0 + n1 + n2 + n3 + n4 + n5) = (cs.drop (n0 + n1 + n2 + n3 + n4)).drop n5 := by rw [List.drop_drop]
  have d7 : cs.drop (n0 + n1 + n2 + n3 + n4 + n5 + n6) = (cs.drop (n0 + n1 + n2 + n3 + n4 + n5)).drop n6 := by rw [List.drop_drop]
  rw [d7, List.take_append_drop, d6, List.take_append_drop, d5, List.take_append_drop, d4, List.take_append_drop, d3, List.take_append_drop, d2, List.take_append_drop, List.take_append_drop]
 rw [hcs]
 exact (p0.append (p1.append (p2.append (p3.append (p4.append (p5.append (p6.append p7)))))))
end

structure Ph where
 k : Int
 t : Int
 a : Int
 b : Int
 row : List Vl
 to : Tw
 wh : Tw
 bare : Bool
def Ph.cs (p : Ph) : List D := [.v (.int .i64 p.k)] ++ ([.v (.int .i64 p.t)] ++ ([.v (.int .i64 p.a)] ++ ([.v (.int .i64 p.b)] ++ ([.list 3 (p.row.flatMap cV) p.row.length] ++ (p.to.cs ++ (p.wh.cs ++ [.v (.bool p.bare)]))))))
structure Ph.Ok (p : Ph) : Prop where
 k : -9223372036854775808 ≤ p.k ∧ p.k ≤ 9223372036854775807
 t : -9223372036854775808 ≤ p.t ∧ p.t ≤ 9223372036854775807
 a : -9223372036854775808 ≤ p.a ∧ p.a ≤ 9223372036854775807
 b : -9223372036854775808 ≤ p.b ∧ p.b ≤ 9223372036854775807
 row : ∀ v ∈ p.row, v.s.size ≤ maxLen
 to : p.to.Ok
 wh : p.wh.Ok
theorem rd_rawV {H : Type} {enc : TypeId × Value → H} {w : World} {base : Nat} {sp : Nat → Bool} {held : Bool} : Rds enc Tryd.prog w base sp held 57 cV (fun v : Vl => v.s.size ≤ maxLen) :=
 (rd_struct3 (n0 := 1) (n1 := 1) (n2 := 1) Tryd.underlying57 kr_ rfl rfl rfl kr_ kr_ kr_ (rd_int Tryd.underlying3) (rd_int Tryd.underlying3) (rd_string Tryd.underlying9)).map (fun a => (⟨a.1, a.2.1, a.2.2⟩ : Vl)) (fun _ => rfl) (fun _ h => h.2.2)
set_option maxRecDepth 100000 in
theorem rd_phraseF {H : Type} {enc : TypeId × Value → H} {w : World} {base : Nat} {sp : Nat → Bool} {held : Bool} (n : Nat) : RdsF n enc Tryd.prog w base sp held 47 Ph.cs Ph.Ok := fun cs x h => by
 obtain ⟨⟨a0, a1, a2, a3, a4, a5, a6, a7⟩, h1, q0, q1, q2, q3, q4, q5, q6, _⟩ := rd_struct8 (fuel := n) (n0 := 1) (n1 := 1) (n2 := 1) (n3 := 1) (n4 := 1) (n5 := 4) (n6 := 4) (n7 := 1) Tryd.underlying47 kr_ rfl kr_ rfl kr_ rfl kr_ rfl kr_ rfl kr_ rfl kr_ rfl kr_ rfl kr_
  (fun q _ => (rd_int Tryd.underlying3).at q) (fun q _ => (rd_int Tryd.underlying3).at q) (fun q _ => (rd_int Tryd.underlying3).at q) (fun q _ => (rd_int Tryd.underlying3).at q) (fun q _ => rd_sliceF (sz := 3) Tryd.underlying42 kr_ (by decide) (fun z _ => rd_rawV.at z) cV_len) (fun q _ => rd_twigF q) (fun q _ => rd_twigF q) (fun q _ => (rd_bool Tryd.underlying4).at q) cs x h
 exact ⟨⟨a0, a1, a2, a3, a4, a5, a6, a7⟩, h1, ⟨q0, q1, q2, q3, q4.1, q5, q6⟩⟩
set_option maxRecDepth 100000 in
theorem rd_phrase {H : Type} {enc : TypeId × Value → H} {w : World} {base b' : Nat} {sp : Nat → Bool} {held : Bool} {v : Value} {d : DataW H} {p : List MemPlace} (hval : Value.okWide Tryd.prog w .any b' 47 v) (h : DataW.Trod enc Tryd.prog w base sp held 47 v d p) :
  ∃ t : Ph, Rep w (fun _ => False) (.agg t.cs) v ∧ t.Ok ∧ True := rd_arg Tryd.underlying47 rd_phraseF hval h

end Go.Proofs.YtjgekbmahhhokaaDoor.Pa

namespace Go.Proofs.YtjgekbmahhhokaaDoor.Pa
open Go.RowKit V Pk Go.Proofs.YtjgekbmahhhokaaDoor.Vl Go.Proofs.YtjgekbmahhhokaaDoor.Nm
set_option linter.unusedVariables false
set_option linter.unusedSimpArgs false

variable {G : List (Nat × List Value)}
theorem show_err (s : StL) : (ShowF s).2 = CheckF s := by
 unfold ShowF; split
 ·rfl
 have : CheckF s = 0 := by omega
 rw [this]
theorem good_err {s : StL} (g1 : 1 ≤ s.kind) (g6 : s.kind ≤ 6) (gc : checkS s = 0) : (CheckF s = 10 ∧ 100 < (showS s).length) ∨ (CheckF s = 0 ∧ (showS s).length ≤ 100) := by
 unfold CheckF
 rw [if_neg (by omega), if_neg (by omega)]
 split
 ·exact .inl ⟨rfl, by omega⟩
 exact .inr ⟨rfl, by omega⟩
theorem show_ok {s : StL} (h : CheckF s = 0) : (ShowF s).1 = showS s := by unfold ShowF; rw [if_neg (by omega)]

end Go.Proofs.YtjgekbmahhhokaaDoor.Pa

namespace Go.Proofs.YtjgekbmahhhokaaDoor.Pa
open Go.RowKit V Pk Go.Proofs.YtjgekbmahhhokaaDoor.Vl Go.Proofs.YtjgekbmahhhokaaDoor.Nm
set_option linter.unusedVariables false
set_option linter.unusedSimpArgs false

variable {G : List (Nat × List Value)}

theorem more_facts (hm : (0, marksC) ∈ G) (hw : (2, wordsC) ∈ G) (hk_ : (5, cmpC) ∈ G) (hty : (1, typesC) ∈ G) {s : StL} (hf : FinS s) (g1 : 1 ≤ s.kind) (g6 : s.kind ≤ 6) (gl : s.limit ≤ 9223372036854775807) (gc : checkS s = 0) : ∃ ls e, VP Tryd.prog G 16 [.agg (cSt s)] (.tup [.list 3 (ls.flatMap cT) ls.length, .v (.int .i64 e)]) ∧ ls.length ≤ 100 ∧ (e = 10 ∨ e = 0 ∧ 0 < ls.length ∧ (ls.length ≠ 100 → VP Tryd.prog G 13 [.list 3 (((([] ++ ls) ++ [markT ⟨#[41]⟩])).flatMap cT) ((([] ++ ls) ++ [markT ⟨#[41]⟩])).length] (.tup [.agg (cSt stZ), .v (.int .i64 ((ls.length : Nat) : Int)), .v (.int .i64 6)]) ∧ VP Tryd.prog G 13 [.list 3 ((([markT ⟨#[40]⟩] ++ ls)).flatMap cT) (([markT ⟨#[40]⟩] ++ ls)).length] (.tup [.agg (cSt stZ), .v (.int .i64 ((0 : Nat) : Int)), .v (.int .i64 6)]))) := by
 have hsv := Show_vp (G := G) hm hw hty s hf
 rw [show_err] at hsv
 refine ⟨_, _, hsv, ?_, ?_⟩
 ·rcases good_err g1 g6 gc with ⟨h0, _⟩ | ⟨h0, h1⟩
  ·unfold ShowF; rw [if_pos (by omega)]; exact Nat.zero_le _
  rw [show_ok h0]; exact h1
 rcases good_err g1 g6 gc with ⟨h0, _⟩ | ⟨h0, h1⟩
 ·exact .inl h0
 refine .inr ⟨h0, by rw [show_ok h0]; exact show_pos, fun hn => ?_⟩
 rw [show_ok h0] at hn ⊢
 have gs := gts_show hf g1 (by omega) gl gc
 have h2 := parse_vc (G := G) hm hw hk_ hty (([] ++ showS s) ++ [markT ⟨#[41]⟩]) (gts_hs (gts_app (gts_app gts_nil gs) (gts_cons gt_close gts_nil)))
 have h3 := parse_vc (G := G) hm hw hk_ hty ([markT ⟨#[40]⟩] ++ showS s) (gts_hs (gts_cons gt_open gs))
 rw [List.nil_append, parse_after hf g1 (by omega) gl gc (by omega)] at h2
 rw [show [markT ⟨#[40]⟩] ++ showS s = markT ⟨#[40]⟩ :: showS s from rfl, parse_open gs (by omega)] at h3
 rw [List.nil_append]
 exact ⟨h2, h3⟩

theorem info24_Ph2 : (Tryd.prog.info? 24).map (fun i => (i.zero, i.size, i.bytes)) = some (some (.agg #[.int .i64 0, .string ⟨#[]⟩, .int .i64 0]), 3, 32) := by kernel_rfl

theorem places24_Ph2 : ∀ w, ((#[{ name := "Kind", type := 3, offset := 0, embedded := false, tag := "", pkgPath := "", byteOffset := 0 }, { name := "Text", type := 9, offset := 1, embedded := false, tag := "", pkgPath := "", byteOffset := 8 }, { name := "Int", type := 3, offset := 2, embedded := false, tag := "", pkgPath := "", byteOffset := 24 }] : Array Field).mapM fun f => do pure (f.offset, ← sizeOf f.type) : Sem (Array (Nat × Nat))).run Tryd.prog w = .ok #[(0, 1), (1, 1), (2, 1)] w := fun w => by simp [Tryd.sizeOf3, Tryd.sizeOf9]

set_option maxHeartbeats 4000000 in
set_option maxRecDepth 100000 in
theorem more_vp (hm : (0, marksC) ∈ G) (hw : (2, wordsC) ∈ G) (hk_ : (5, cmpC) ∈ G) (hty : (1, typesC) ∈ G) (k t a b : Int) (row : List Vl) (x1 x2 : Int) (x3 : ByteArray) (ts1 : List Tw) (y1 y2 : Int) (y3 : ByteArray) (ts2 : List Tw) (bare : Bool) (hk1 : -9223372036854775808 ≤ k) (hk2 : k ≤ 9223372036854775807) (ht1 : -9223372036854775808 ≤ t) (ht2 : t ≤ 9223372036854775807) (ha1 : -9223372036854775808 ≤ a) (ha2 : a ≤ 9223372036854775807) (hb1 : -9223372036854775808 ≤ b) (hb2 : b ≤ 9223372036854775807) (hrow : ∀ v ∈ row, v.s.size ≤ maxLen) (hto : (Tw.mk x1 x2 x3 ts1).Ok) (hwh : (Tw.mk y1 y2 y3 ts2).Ok) : VP Tryd.prog G 8 [.agg [.v (.int .i64 k), .v (.int .i64 t), .v (.int .i64 a), .v (.int .i64 b), .list 3 (row.flatMap cV) row.length, .v (.int .i64 x1), .v (.int .i64 x2), .v (.string x3), .list 4 (Tw.css ts1) ts1.length, .v (.int .i64 y1), .v (.int .i64 y2), .v (.string y3), .list 4 (Tw.css ts2) ts2.length, .v (.bool bare)]] (.v (.bool true)) := by
 refine VC.body Tryd.func8 rfl Tryd.ntmps8 le_ fun X0 w0 S00 => ?_
 refine sr_ ?_
 refine OD.box (ds := [_, _, _, _, _, _, _, _, _, _, _, _, _, _]) wp_ rfl rfl ot rfl rfl (fun b1 => ?_)
 refine om_ ?_
 refine on_ [(1, _)] [⟨b1, 47, 14, [_, _, _, _, _, _, _, _, _, _, _, _, _, _]⟩] ?_
 refine sr_ ?_
 refine os_ (lab_ 0 [_, _, _, _, _, _, _, _, _, _, _, _, _, _]) ?_
 refine OD.call wp_ rfl rfl rfl Tryd.call15 (statement_vc k t a b row x1 x2 x3 ts1 y1 y2 y3 ts2 bare hk1 hk2 ht1 ht2 ha1 ha2 hb1 hb2 hrow hto hwh) ⟨ot, trivial⟩ (perm_none _) ?_; rintro _ _ ⟨s, rfl, rfl, hf, g1, g6, gl, gc⟩
 obtain ⟨ls, e, hsv, hl1, hcase⟩ := more_facts (G := G) hm hw hk_ hty hf g1 g6 gl gc
 clear hf g1 g6 gl gc
 unfold cSt at hsv hcase ⊢
 refine oc_ Tryd.call16 (hsv) ?_
 refine om_ ?_
 refine os_ ex_ ?_
 refine os_ ex_ ?_
 refine om_ ?_
 refine om_ ?_
 refine on_ [(3, _), (4, _)] [⟨b1, 47, 14, [_, _, _, _, _, _, _, _, _, _, _, _, _, _]⟩] ?_
 refine CD.seq ?_
 refine sr_ ?_
 refine om_ ?_
 refine os_ bn_ ?_
 refine om_ ?_
 refine OD.split (t := 19) lk (fun hg19 => ?_) (fun hg19 => ?_)
 ·have hg19' := hg19; (try simp only [V.cnd, ne_eq] at hg19')
  refine sk_ ?_
  refine sk_ ?_
  refine sk_ ?_
  refine os_ pkT_ ?_
  refine nm_ [3, 4, 23] ?_
  refine CD.condT ot (by first | rfl | assumption) ?_
  refine sr_ ?_
  refine om_ ?_
  refine nm_ [2] ?_
  refine CD.ret ?_
  refine r1_ ?_
  first | exact ⟨rfl, rfl⟩ | (refine ⟨vb ?_, rfl⟩; simp [*])
 have hg19' := hg19; (try simp only [V.cnd, ne_eq] at hg19')
 refine om_ ?_
 refine os_ ln_ ?_
 refine os_ bn_ ?_
 refine os_ pkF_ ?_
 refine nm_ [3, 4, 23] ?_
 refine CD.cond ot (fun hc0 => ?_) (fun hc0 => ?_)
 ·have hc0' := hc0
  (try simp only [V.cnd, ne_eq] at hc0')
  refine sr_ ?_
  refine om_ ?_
  refine nm_ [2] ?_
  refine CD.ret ?_
  refine r1_ ?_
  first | exact ⟨rfl, rfl⟩ | (refine ⟨vb ?_, rfl⟩; simp [*])
 have hc0' := hc0
 (try simp only [V.cnd, ne_eq] at hc0')
 have he : e = 0 := by (have h9 := hg19; simp at h9; omega)
 have hn : ls.length ≠ 100 := by (have h9 := hc0; simp at h9; omega)
 obtain ⟨-, hlp, hAB⟩ := hcase.resolve_left (by omega)
 obtain ⟨hA, hB⟩ := hAB hn
 subst he
 refine CD.skip ?_
 refine sr_ ?_
 refine om_ ?_
 refine OD.appendG (ls := []) (new := ls) (Sq := []) cT_len cT_one wp_ rfl rfl Tryd.underlying26 info24_Ph2 rfl (by decide) opd_const ownL_nil (perm_r11 (A := [_])) ot hlp (by have hmx : maxLen = 9223372036854775807 := rfl; simp only [List.length_append, List.length_cons, List.length_nil]; omega) (by have hmx : maxLen = 9223372036854775807 := rfl; simp only [List.length_append, List.length_cons, List.length_nil]; omega) (fun b26 cp26 h126 h226 => ?_)
 refine OD.perm (perm_q11 (S1 := [⟨b26, 24, cp26 * 3, List.flatMap cT ([] ++ ls)⟩]) (A := [_])) ?_
 refine os_ (still_bld (pl := [(0, _), (1, _)]) (ds := [_, _, _]) rfl Tryd.zeroValue24 Tryd.runUnderlying24 places24_Ph2 ⟨rfl, opd_const, rfl, opd_const, trivial⟩ rfl rfl) ?_
 refine ob_ (numD 0 [_]) [.int .i64 0, .string ⟨#[]⟩, .int .i64 0] [_, _, _] Tryd.zeroValue24 Tryd.runUnderlying26 Tryd.sizeOf24 (fun b28 => ?_)
 refine og_ 0 28 3 1 ?_
 refine OD.appendG (ls := ([] ++ ls)) (new := [markT ⟨#[41]⟩]) (Sq := [⟨b26, 24, cp26 * 3, List.flatMap cT ([] ++ ls)⟩]) cT_len cT_one wp_ rfl rfl Tryd.underlying26 info24_Ph2 rfl (by decide) ot (ownL_row h126 h226) (perm_r11 (A := [_])) ot (by simp) (by have hmx : maxLen = 9223372036854775807 := rfl; simp only [List.length_append, List.length_cons, List.length_nil]; omega) (by have hmx : maxLen = 9223372036854775807 := rfl; simp only [List.length_append, List.length_cons, List.length_nil]; omega) (fun b29 cp29 h129 h229 => ?_)
 refine OD.perm (perm_q11 (S1 := [⟨b29, 24, cp29 * 3, List.flatMap cT (([] ++ ls) ++ [markT ⟨#[41]⟩])⟩]) (A := [_])) ?_
 refine OD.giveL (t := 29) (Sq := [⟨b29, 24, cp29 * 3, List.flatMap cT (([] ++ ls) ++ [markT ⟨#[41]⟩])⟩]) lk (ownL_row h129 h229) (fm_len cT_len _) (perm_r11 (A := [_])) ?_
 refine oc_ Tryd.call13 (hA) ?_
 refine om_ ?_
 refine os_ ex_ ?_
 refine os_ ex_ ?_
 refine os_ ex_ ?_
 refine OD.alloc (ds := [_, _, _, _, _, _, _, _, _, _, _, _]) wp_ rfl rfl Tryd.zeroValue32 rfl (fun b5 => ?_)
 refine ot_ 0 [_, _, _, _, _, _, _, _, _, _, _, _] Tryd.sizeOf32 ?_
 refine om_ ?_
 refine om_ ?_
 refine on_ [(3, _), (4, _), (6, _), (7, _)] [⟨b5, 32, 12, [_, _, _, _, _, _, _, _, _, _, _, _]⟩, ⟨b1, 47, 14, [_, _, _, _, _, _, _, _, _, _, _, _, _, _]⟩] ?_
 refine sr_ ?_
 refine os_ (still_bld (pl := [(0, _), (1, _)]) (ds := [_, _, _]) rfl Tryd.zeroValue24 Tryd.runUnderlying24 places24_Ph2 ⟨rfl, opd_const, rfl, opd_const, trivial⟩ rfl rfl) ?_
 refine ob_ (numD 0 [_]) [.int .i64 0, .string ⟨#[]⟩, .int .i64 0] [_, _, _] Tryd.zeroValue24 Tryd.runUnderlying26 Tryd.sizeOf24 (fun b36 => ?_)
 refine OD.perm (perm_q11 (S1 := [⟨b36, 24, 1 * 3, List.flatMap cT ([markT ⟨#[40]⟩])⟩]) (A := [_, _])) ?_
 refine om_ ?_
 refine OD.appendG (ls := ([markT ⟨#[40]⟩])) (new := ls) (Sq := [⟨b36, 24, 1 * 3, List.flatMap cT ([markT ⟨#[40]⟩])⟩]) cT_len cT_one wp_ rfl rfl Tryd.underlying26 info24_Ph2 rfl (by decide) ot (ownL_row (g := cT) (sz := 3) (e := 24) (ls := [markT ⟨#[40]⟩]) (Nat.le_refl _) (show 1 ≤ maxLen by decide)) (perm_r11 (A := [_, _])) ot hlp (by have hmx : maxLen = 9223372036854775807 := rfl; simp only [List.length_append, List.length_cons, List.length_nil]; omega) (by have hmx : maxLen = 9223372036854775807 := rfl; simp only [List.length_append, List.length_cons, List.length_nil]; omega) (fun b38 cp38 h138 h238 => ?_)
 refine OD.perm (perm_q11 (S1 := [⟨b38, 24, cp38 * 3, List.flatMap cT (([markT ⟨#[40]⟩]) ++ ls)⟩]) (A := [_, _])) ?_
 refine OD.giveL (t := 38) (Sq := [⟨b38, 24, cp38 * 3, List.flatMap cT (([markT ⟨#[40]⟩]) ++ ls)⟩]) lk (ownL_row h138 h238) (fm_len cT_len _) (perm_r11 (A := [_, _])) ?_
 refine oc_ Tryd.call13 (hB) ?_
 refine om_ ?_
 refine os_ ex_ ?_
 refine os_ ex_ ?_
 refine os_ ex_ ?_
 refine OD.alloc (ds := [_, _, _, _, _, _, _, _, _, _, _, _]) wp_ rfl rfl Tryd.zeroValue32 rfl (fun b8 => ?_)
 refine ot_ 0 [_, _, _, _, _, _, _, _, _, _, _, _] Tryd.sizeOf32 ?_
 refine om_ ?_
 refine om_ ?_
 refine on_ [(3, _), (4, _), (6, _), (7, _), (9, _), (10, _)] [⟨b8, 32, 12, [_, _, _, _, _, _, _, _, _, _, _, _]⟩, ⟨b5, 32, 12, [_, _, _, _, _, _, _, _, _, _, _, _]⟩, ⟨b1, 47, 14, [_, _, _, _, _, _, _, _, _, _, _, _, _, _]⟩] ?_
 refine sr_ ?_
 refine om_ ?_
 refine os_ bn_ ?_
 refine om_ ?_
 refine OD.split (t := 45) lk (fun hg45 => ?_) (fun hg45 => ?_)
 ·have hg45' := hg45; (try simp only [V.cnd, ne_eq] at hg45')
  refine om_ ?_
  refine os_ bn_ ?_
  refine os_ pkT_ ?_
  refine om_ ?_
  refine OD.split (t := 49) lk (fun hg49 => ?_) (fun hg49 => ?_)
  ·have hg49' := hg49; (try simp only [V.cnd, ne_eq] at hg49')
   refine om_ ?_
   refine om_ ?_
   refine os_ ln_ ?_
   refine os_ bn_ ?_
   refine os_ pkT_ ?_
   refine om_ ?_
   refine OD.split (t := 55) lk (fun hg55 => ?_) (fun hg55 => ?_)
   ·have hg55' := hg55; (try simp only [V.cnd, ne_eq] at hg55')
    refine om_ ?_
    refine os_ bn_ ?_
    refine os_ pkT_ ?_
    refine om_ ?_
    refine OD.split (t := 59) lk (fun hg59 => ?_) (fun hg59 => ?_)
    ·have hg59' := hg59; (try simp only [V.cnd, ne_eq] at hg59')
     refine om_ ?_
     refine os_ bn_ ?_
     refine os_ pkT_ ?_
     refine om_ ?_
     refine nm_ [2] ?_
     refine CD.ret ?_
     refine r1_ ?_
     first | exact ⟨rfl, rfl⟩ | (refine ⟨vb ?_, rfl⟩; simp [*])
    exact absurd hg59 (by simp)
   exact absurd hg55 (by simp)
  exact absurd hg49 (by simp)
 exact absurd hg45 (by simp)

theorem walkParseMore (p : Ph) (v : Value) (ok : p.Ok) (w : World) (h1 : MarksTab w) (h2 : WordsTab w) (h3 : TypesTab w) (h4 : CmpTab w) (hv : Rep w (fun _ => False) (.agg p.cs) v) : Calls Tryd.prog 8 #[v] w fun e w' => e = .returned (.bool true) ∧ Below w.heap.size w w' := by
 obtain ⟨k, t, a, b, row, ⟨x1, x2, x3, ts1⟩, ⟨y1, y2, y3, ts2⟩, bare⟩ := p
 simp only [Ph.cs, Tw.cs, List.cons_append, List.nil_append] at hv
 exact (more_vp (G := TGP) tp1 tp2 tp4 tp3 k t a b row x1 x2 x3 ts1 y1 y2 y3 ts2 bare ok.k.1 ok.k.2 ok.t.1 ok.t.2 ok.a.1 ok.a.2 ok.b.1 ok.b.2 ok.row ok.to ok.wh).runL (tgpx h1 h2 h3 h4) (vs := [v]) (RepL.cons hv (RepL.vs w _ []))

end Go.Proofs.YtjgekbmahhhokaaDoor.Pa
