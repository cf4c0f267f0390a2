/-
  What the proof of BoundsHold leans on, part 3 of 5: walks of the program's functions at the level of values, and plain facts of what they compute.
-/
import Derived.Test.YtfooincnmobemaaGreatDoorPBoundsHold2
namespace Go.Proofs.YtfooincnmobemaaGreatDoor.Pc
open Go.RowKit V Pk Vl Go.Proofs.YtfooincnmobemaaGreatDoor.Nm
set_option linter.unusedVariables false
set_option linter.unusedSimpArgs false

variable {G : List (Nat × List Value)}
theorem name_t : nameF ⟨#[116]⟩ = 0 := small_name (l := [116]) (by decide) (by decide) (fun c hc => by simp only [List.mem_singleton] at hc; subst hc; decide)
theorem colsA_good : ∀ (l pre : List ColL), colsA pre l = 0 → ∀ c ∈ l, 1 ≤ c.k ∧ c.k ≤ 3
 | [], _, _, c, hc => by cases hc
 | a :: l, pre, h, c, hc => by
  have h : (if colF pre a ≠ 0 then colF pre a else colsA (pre ++ [a]) l) = 0 := h
  by_cases h0 : colF pre a = 0
  ·rw [if_neg (by simp [h0])] at h
   rcases List.mem_cons.1 hc with rfl | hc
   ·unfold colF at h0
    by_cases h1 : nameF c.n = 0
    ·rw [if_neg (by simp [h1])] at h0
     by_cases h2 : c.k < 1 ∨ c.k > 3
     ·rw [if_pos h2] at h0; cases h0
     ·omega
    ·rw [if_pos h1] at h0; exact absurd h0 h1
   ·exact colsA_good l _ h c hc
  ·rw [if_pos h0] at h; exact absurd h h0
theorem cols_good {l : List ColL} (h : colsF l = 0) : (1 ≤ l.length ∧ l.length ≤ 6) ∧ ∀ c ∈ l, 1 ≤ c.k ∧ c.k ≤ 3 := by
 unfold colsF at h
 split at h
 ·cases h
 ·exact ⟨by omega, colsA_good l [] h⟩

theorem places77_Pc4 : ∀ w, ((#[{ name := "Kind", type := 3, offset := 0, embedded := false, tag := "", pkgPath := "", byteOffset := 0 }, { name := "Table", type := 9, offset := 1, embedded := false, tag := "", pkgPath := "", byteOffset := 8 }, { name := "Cols", type := 30, offset := 2, embedded := false, tag := "", pkgPath := "", byteOffset := 24 }, { name := "Row", type := 23, offset := 3, embedded := false, tag := "", pkgPath := "", byteOffset := 48 }, { name := "Names", type := 75, offset := 4, embedded := false, tag := "", pkgPath := "", byteOffset := 72 }, { name := "Count", type := 4, offset := 5, embedded := false, tag := "", pkgPath := "", byteOffset := 96 }, { name := "Where", type := 36, offset := 6, embedded := false, tag := "", pkgPath := "", byteOffset := 104 }, { name := "Order", type := 9, offset := 7, embedded := false, tag := "", pkgPath := "", byteOffset := 128 }, { name := "Down", type := 4, offset := 8, embedded := false, tag := "", pkgPath := "", byteOffset := 144 }, { name := "Limit", type := 3, offset := 9, embedded := false, tag := "", pkgPath := "", byteOffset := 152 }, { name := "Set", type := 9, offset := 10, embedded := false, tag := "", pkgPath := "", byteOffset := 160 }, { name := "To", type := 36, offset := 11, embedded := false, tag := "", pkgPath := "", byteOffset := 176 }] : Array Field).mapM fun f => do pure (f.offset, ← sizeOf f.type) : Sem (Array (Nat × Nat))).run Tryz.prog w = .ok #[(0, 1), (1, 1), (2, 1), (3, 1), (4, 1), (5, 1), (6, 1), (7, 1), (8, 1), (9, 1), (10, 1), (11, 1)] w := fun w => by simp [Tryz.sizeOf23, Tryz.sizeOf3, Tryz.sizeOf30, Tryz.sizeOf36, Tryz.sizeOf4, Tryz.sizeOf75, Tryz.sizeOf9]

set_option maxHeartbeats 4000000 in
set_option maxRecDepth 100000 in
theorem check_vp (hm : (3, marksC) ∈ G) (hw : (0, wordsC) ∈ G) (l : List ColL) (hl : l.length ≤ maxLen) (hok : ∀ c ∈ l, c.n.size ≤ maxLen) : VP Tryz.prog G 57 [.agg (stD l)] (.v (.int .i64 (colsF l))) := by
 refine VC.body Tryz.func57 rfl Tryz.ntmps57 (Nat.le_of_ble_eq_true rfl) fun X0 w0 S00 => ?_
 have hmx : maxLen = 9223372036854775807 := rfl
 have hba := bare_vp (G := G) l
 unfold stD at hba
 unfold stD
 have hnv := name_vp hm hw ⟨#[116]⟩ (Nat.le_trans (show (⟨#[116]⟩ : ByteArray).size ≤ 1 from Nat.le_refl _) (by omega))
 rw [name_t] at hnv
 refine sr_ ?_
 refine OD.box (ds := [_, _, _, _, _, _, _, _, _, _, _, _]) (wants_plain rfl) rfl rfl ot rfl rfl (fun b1 => ?_)
 refine os_ mv_ ?_
 refine OD.wk (Wk.as_ (n := 102) (l' := [(1, _)]) (S' := [⟨b1, 77, 12, [_, _, _, _, _, _, _, _, _, _, _, _]⟩]) rfl rfl ⟨lk, trivial⟩) ?_
 refine OD.nil ?_
 refine sr_ ?_
 refine os_ (fa_ 0) ?_
 refine os_ (lb_ 0) ?_
 refine OD.still (wants_plain rfl) rfl (still_bld (pl := [(0, _), (9, _)]) (ds := [_, _, _, _, _, _, _, _, _, _, _, _]) rfl Tryz.zeroValue77 Tryz.runUnderlying77 places77_Pc4 ⟨rfl, ot, rfl, opd_const, trivial⟩ rfl rfl) ?_
 refine OD.alloc (ds := [_, _, _, _, _, _, _, _, _, _, _, _]) (wants_plain rfl) rfl rfl Tryz.zeroValue77 rfl (fun b3 => ?_)
 refine OD.store (k := 0) (cs' := [_, _, _, _, _, _, _, _, _, _, _, _]) (wants_plain rfl) rfl rfl ot rfl rfl ot rfl rfl Tryz.sizeOf77 rfl rfl rfl ?_
 refine OD.wk (Wk.as_ (n := 102) (l' := [(1, _), (3, _)]) (S' := [⟨b3, 77, 12, [_, _, _, _, _, _, _, _, _, _, _, _]⟩, ⟨b1, 77, 12, [_, _, _, _, _, _, _, _, _, _, _, _]⟩]) rfl rfl ⟨lk, lk, trivial⟩) ?_
 refine OD.nil ?_
 refine CD.seq ?_
 refine sr_ ?_
 refine os_ (fa_ 0) ?_
 refine os_ (lb_ 1) ?_
 refine os_ bn_ ?_
 refine nm_ [1, 3, 11] ?_
 refine CD.cond ot (fun hc0 => ?_) (fun hc0 => ?_)
 ·have hc0' := hc0
  (try simp only [V.cnd, ne_eq] at hc0')
  refine sr_ ?_
  refine os_ (fa_ 1) ?_
  refine os_ (lb_ 1) ?_
  refine os_ (fa_ 1) ?_
  refine OD.store (k := 0) (cs' := [_, _, _, _, _, _, _, _, _, _, _, _]) (wants_plain rfl) rfl rfl ot rfl rfl ot rfl rfl Tryz.sizeOf9 rfl rfl rfl ?_
  refine OD.wk (Wk.as_ (n := 102) (l' := [(1, _), (3, _)]) (S' := [⟨b3, 77, 12, [_, _, _, _, _, _, _, _, _, _, _, _]⟩, ⟨b1, 77, 12, [_, _, _, _, _, _, _, _, _, _, _, _]⟩]) rfl rfl ⟨lk, lk, trivial⟩) ?_
  refine OD.nil ?_
  refine sr_ ?_
  refine os_ (fa_ 1) ?_
  refine os_ (lb_ 1) ?_
  refine OD.callP (wants_plain rfl) rfl rfl rfl Tryz.call54 (hnv) ⟨ot, trivial⟩ ?_
  refine os_ mv_ ?_
  refine OD.wk (Wk.as_ (n := 102) (l' := [(1, _), (3, _), (4, _)]) (S' := [⟨b3, 77, 12, [_, _, _, _, _, _, _, _, _, _, _, _]⟩, ⟨b1, 77, 12, [_, _, _, _, _, _, _, _, _, _, _, _]⟩]) rfl rfl ⟨lk, lk, lk, trivial⟩) ?_
  refine OD.nil ?_
  refine sr_ ?_
  refine os_ mv_ ?_
  refine os_ bn_ ?_
  refine nm_ [1, 3, 4, 19] ?_
  refine CD.cond ot (fun hc1 => ?_) (fun hc1 => ?_)
  ·exact absurd hc1 (by simp at hc1)
  ·have hc1' := hc1
   (try simp only [V.cnd, ne_eq] at hc1')
   refine CD.skip ?_
   refine sr_ ?_
   refine os_ mv_ ?_
   refine nm_ [1, 3, 5] ?_
   refine CD.seq ?_
   refine sr_ ?_
   refine os_ (fa_ 0) ?_
   refine os_ (lb_ 1) ?_
   refine nm_ [1, 3, 5, 22] ?_
   refine CD.block ?_
   refine sr_ ?_
   refine os_ bn_ ?_
   refine os_ mv_ ?_
   refine nm_ [1, 3, 5, 22, 23] ?_
   refine CD.cond ot (fun hc2 => ?_) (fun hc2 => ?_)
   ·have hc2' := hc2
    (try simp only [V.cnd, ne_eq] at hc2')
    refine sr_ ?_
    refine os_ (fa_ 2) ?_
    refine os_ (lb_ 1) ?_
    refine os_ (fa_ 2) ?_
    refine OD.store (k := 0) (cs' := [_, _, _, _, _, _, _, _, _, _, _, _]) (wants_plain rfl) rfl rfl ot rfl rfl ot rfl rfl Tryz.sizeOf30 rfl rfl rfl ?_
    refine OD.wk (Wk.as_ (n := 102) (l' := [(1, _), (3, _)]) (S' := [⟨b3, 77, 12, [_, _, _, _, _, _, _, _, _, _, _, _]⟩, ⟨b1, 77, 12, [_, _, _, _, _, _, _, _, _, _, _, _]⟩]) rfl rfl ⟨lk, lk, trivial⟩) ?_
    refine OD.nil ?_
    refine CD.region ?_
    refine os_ (fa_ 2) ?_
    refine os_ (lb_ 1) ?_
    refine OD.callP (wants_plain rfl) rfl rfl rfl Tryz.call71 (cols_vp hm hw l hl hok) ⟨ot, trivial⟩ ?_
    refine os_ mv_ ?_
    refine OD.wk (Wk.as_ (n := 102) (l' := [(1, _), (3, _), (5, _)]) (S' := [⟨b3, 77, 12, [_, _, _, _, _, _, _, _, _, _, _, _]⟩, ⟨b1, 77, 12, [_, _, _, _, _, _, _, _, _, _, _, _]⟩]) rfl rfl ⟨lk, lk, lk, trivial⟩) ?_
    refine OD.nil ?_
    refine CD.seq ?_
    refine sr_ ?_
    refine os_ mv_ ?_
    refine os_ bn_ ?_
    refine os_ mv_ ?_
    refine OD.split (t := 95) lk (fun hg95 => ?_) (fun hg95 => ?_)
    ·have hg95' := hg95; (try simp only [V.cnd, ne_eq] at hg95')
     refine os_ (lab_ 1 [_, _, _, _, _, _, _, _, _, _, _, _]) ?_
     refine os_ (lab_ 0 [_, _, _, _, _, _, _, _, _, _, _, _]) ?_
     refine OD.callP (wants_T rfl rfl rfl lk (by first | rfl | assumption)) rfl rfl rfl Tryz.call75 (hba) ⟨ot, ot, trivial⟩ ?_
     refine os_ un_ ?_
     refine os_ pkT_ ?_
     refine OD.wk (Wk.as_ (n := 102) (l' := [(5, _), (100, _)]) (S' := [⟨b3, 77, 12, [_, _, _, _, _, _, _, _, _, _, _, _]⟩, ⟨b1, 77, 12, [_, _, _, _, _, _, _, _, _, _, _, _]⟩]) rfl rfl ⟨lk, lk, trivial⟩) ?_
     refine OD.nil ?_
     refine CD.cond ot (fun hc9 => ?_) (fun hc9 => ?_)
     ·exact absurd hc9 (by first | (simp at hc9; done) | simp_all)
     ·have hc9' := hc9
      (try simp only [V.cnd, ne_eq] at hc9')
      refine CD.skip ?_
      refine sr_ ?_
      refine os_ mv_ ?_
      refine os_ mv_ ?_
      refine nm_ [2] ?_
      refine CD.ret ?_
      refine r1_ ?_
      exact ⟨rfl, rfl⟩
    ·have hg95' := hg95; (try simp only [V.cnd, ne_eq] at hg95')
     refine sk_ ?_
     refine sk_ ?_
     refine sk_ ?_
     refine sk_ ?_
     refine os_ pkF_ ?_
     refine nm_ [5, 100] ?_
     refine CD.condF ot (by first | rfl | assumption) ?_
     refine CD.skip ?_
     refine sr_ ?_
     refine os_ mv_ ?_
     refine os_ mv_ ?_
     refine nm_ [2] ?_
     refine CD.ret ?_
     refine r1_ ?_
     exact ⟨rfl, rfl⟩
   ·exact absurd hc2 (by simp at hc2)
 ·exact absurd hc0 (by simp at hc0)

set_option maxHeartbeats 4000000 in
set_option maxRecDepth 100000 in
theorem Check_vp (hm : (3, marksC) ∈ G) (hw : (0, wordsC) ∈ G) (ht : (1, typesC) ∈ G) (l : List ColL) (hl : l.length ≤ maxLen) (hok : ∀ c ∈ l, c.n.size ≤ maxLen) : VP Tryz.prog G 35 [.agg (stD l)] (.v (.int .i64 (colsF l))) := by
 refine VC.body Tryz.func35 rfl Tryz.ntmps35 (Nat.le_of_ble_eq_true rfl) fun X0 w0 S00 => ?_
 have hmx : maxLen = 9223372036854775807 := rfl
 have hcv := check_vp hm hw l hl hok
 unfold stD at hcv
 unfold stD
 refine sr_ ?_
 refine OD.box (ds := [_, _, _, _, _, _, _, _, _, _, _, _]) (wants_plain rfl) rfl rfl ot rfl rfl (fun b1 => ?_)
 refine os_ mv_ ?_
 refine OD.wk (Wk.as_ (n := 21) (l' := [(1, _)]) (S' := [⟨b1, 77, 12, [_, _, _, _, _, _, _, _, _, _, _, _]⟩]) rfl rfl ⟨lk, trivial⟩) ?_
 refine OD.nil ?_
 refine CD.seq ?_
 refine sr_ ?_
 refine os_ (fa_ 0) ?_
 refine os_ (lb_ 0) ?_
 refine os_ bn_ ?_
 refine os_ mv_ ?_
 refine OD.split (t := 7) lk (fun hg7 => ?_) (fun hg7 => ?_)
 ·exact absurd hg7 (by simp at hg7)
 ·have hg7' := hg7; (try simp only [V.cnd, ne_eq] at hg7')
  refine os_ (fa_ 0) ?_
  refine os_ (lb_ 0) ?_
  refine os_ bn_ ?_
  refine os_ pkF_ ?_
  refine nm_ [1, 11] ?_
  refine CD.cond ot (fun hc0 => ?_) (fun hc0 => ?_)
  ·exact absurd hc0 (by simp at hc0)
  ·have hc0' := hc0
   (try simp only [V.cnd, ne_eq] at hc0')
   refine CD.skip ?_
   refine CD.seq ?_
   refine sr_ ?_
   refine os_ (lab_ 0 [_, _, _, _, _, _, _, _, _, _, _, _]) ?_
   refine OD.callP (wants_plain rfl) rfl rfl rfl Tryz.call57 (hcv) ⟨ot, trivial⟩ ?_
   refine os_ mv_ ?_
   refine OD.wk (Wk.as_ (n := 21) (l' := [(1, _), (3, _)]) (S' := [⟨b1, 77, 12, [_, _, _, _, _, _, _, _, _, _, _, _]⟩]) rfl rfl ⟨lk, lk, trivial⟩) ?_
   refine OD.nil ?_
   refine sr_ ?_
   refine os_ mv_ ?_
   refine os_ bn_ ?_
   refine nm_ [1, 3, 15] ?_
   refine CD.cond ot (fun hc1 => ?_) (fun hc1 => ?_)
   ·have hc1' := hc1
    (try simp only [V.cnd, ne_eq] at hc1')
    refine sr_ ?_
    refine os_ mv_ ?_
    refine os_ mv_ ?_
    refine nm_ [2] ?_
    refine CD.ret ?_
    refine r1_ ?_
    first | exact ⟨rfl, rfl⟩ | (rw [h0]; exact ⟨rfl, rfl⟩)
   ·have hc1' := hc1
    (try simp only [V.cnd, ne_eq] at hc1')
    have h0 : colsF l = 0 := by simpa using hc1
    obtain ⟨h6, hk⟩ := cols_good h0
    have hsv := show_vp ht l h6.2 hk
    unfold stD at hsv
    have hsl := (show_len h6.2).1
    refine CD.skip ?_
    refine CD.seq ?_
    refine sr_ ?_
    refine os_ (lab_ 0 [_, _, _, _, _, _, _, _, _, _, _, _]) ?_
    refine OD.callP (wants_plain rfl) rfl rfl rfl Tryz.call58 (hsv) ⟨ot, trivial⟩ ?_
    refine os_ ln_ ?_
    refine os_ bn_ ?_
    refine OD.wk (Wk.as_ (n := 21) (l' := [(20, _)]) (S' := [⟨b1, 77, 12, [_, _, _, _, _, _, _, _, _, _, _, _]⟩]) rfl rfl ⟨lk, trivial⟩) ?_
    refine OD.nil ?_
    refine CD.cond ot (fun hc2 => ?_) (fun hc2 => ?_)
    ·exact absurd hc2 (by simp at hc2; omega)
    ·have hc2' := hc2
     (try simp only [V.cnd, ne_eq] at hc2')
     refine CD.skip ?_
     refine sr_ ?_
     refine os_ mv_ ?_
     refine nm_ [2] ?_
     refine CD.ret ?_
     refine r1_ ?_
     first | exact ⟨rfl, rfl⟩ | (rw [h0]; exact ⟨rfl, rfl⟩)

set_option maxHeartbeats 4000000 in
set_option maxRecDepth 100000 in
theorem Cols_vp (hm : (3, marksC) ∈ G) (hw : (0, wordsC) ∈ G) (ht : (1, typesC) ∈ G) (l : List ColL) (hl : l.length ≤ maxLen) (hok : ∀ c ∈ l, c.n.size ≤ maxLen) : VP Tryz.prog G 20 [.list 2 (l.flatMap cC) l.length] (.v (.int .i64 (colsF l))) := by
 refine VC.body Tryz.func20 rfl Tryz.ntmps20 (Nat.le_of_ble_eq_true rfl) fun X0 w0 S00 => ?_
 have hmx : maxLen = 9223372036854775807 := rfl
 have hcv := Check_vp hm hw ht l hl hok
 unfold stD at hcv
 refine sr_ ?_
 refine os_ mv_ ?_
 refine nm_ [0] ?_
 refine sr_ ?_
 refine os_ mv_ ?_
 refine OD.still (wants_plain rfl) rfl (still_bld (pl := [(0, _), (1, _), (2, _), (9, _)]) (ds := [_, _, _, _, _, _, _, _, _, _, _, _]) rfl Tryz.zeroValue77 Tryz.runUnderlying77 places77_Pc4 ⟨rfl, opd_const, rfl, opd_const, rfl, ot, rfl, opd_const, trivial⟩ rfl rfl) ?_
 refine OD.callP (wants_plain rfl) rfl rfl rfl Tryz.call35 (hcv) ⟨ot, trivial⟩ ?_
 refine os_ mv_ ?_
 refine OD.wk (Wk.as_ (n := 6) (l' := [(2, _)]) (S' := []) rfl rfl ⟨lk, trivial⟩) ?_
 refine OD.nil ?_
 refine CD.ret ?_
 refine ⟨.inr rfl, _, [], List.nil_sublist _, ret_one Tryz.results20 (res_tmp (Nat.le_of_ble_eq_true rfl) lk), ?_⟩
 exact ⟨rfl, rfl⟩

/-- A value in its column. -/
def fitV (i : Nat) (c : ColL) (v : Vl) : Int := if checkV v ≠ 0 then checkV v else if v.k ≠ c.k ∧ (i = 0 ∨ v.k ≠ 0) then 4 else 0
def rowA : Nat → List ColL → List Vl → Int
 | i, c :: cs, v :: vs => if fitV i c v ≠ 0 then fitV i c v else rowA (i + 1) cs vs
 | _, _, _ => 0
/-- What expr.Row answers. -/
def rowF (cs : List ColL) (vs : List Vl) : Int := if colsF cs ≠ 0 then colsF cs else if vs.length ≠ cs.length then 1 else rowA 0 cs vs
theorem rowA_step {cs : List ColL} {vs : List Vl} {i : Nat} (h1 : i < cs.length) (h2 : i < vs.length) (h : fitV i cs[i] vs[i] = 0) : rowA i (cs.drop i) (vs.drop i) = rowA (i + 1) (cs.drop (i + 1)) (vs.drop (i + 1)) := by
 rw [List.drop_eq_getElem_cons h1, List.drop_eq_getElem_cons h2]
 exact if_neg (by simp [h])
theorem rowA_hit {cs : List ColL} {vs : List Vl} {i : Nat} (h1 : i < cs.length) (h2 : i < vs.length) (h : fitV i cs[i] vs[i] ≠ 0) : rowA i (cs.drop i) (vs.drop i) = fitV i cs[i] vs[i] := by
 rw [List.drop_eq_getElem_cons h1, List.drop_eq_getElem_cons h2]
 exact if_pos h
theorem rowA_end {cs : List ColL} {vs : List Vl} {i : Nat} (h : ¬ i < vs.length) : rowA i (cs.drop i) (vs.drop i) = 0 := by
 rw [List.drop_of_length_le (l := vs) (by omega)]
 cases cs.drop i <;> rfl

set_option maxHeartbeats 4000000 in
set_option maxRecDepth 100000 in
theorem Row_vp (hm : (3, marksC) ∈ G) (hw : (0, wordsC) ∈ G) (ht : (1, typesC) ∈ G) (l : List ColL) (hl : l.length ≤ maxLen) (hok : ∀ c ∈ l, c.n.size ≤ maxLen) (vs : List Vl) (hvl : vs.length ≤ maxLen) : VP Tryz.prog G 16 [.list 2 (l.flatMap cC) l.length, .list 3 (vs.flatMap cV) vs.length] (.v (.int .i64 (rowF l vs))) := by
 refine VC.body Tryz.func16 rfl Tryz.ntmps16 (Nat.le_of_ble_eq_true rfl) fun X0 w0 S00 => ?_
 have hmx : maxLen = 9223372036854775807 := rfl
 refine sr_ ?_
 refine os_ mv_ ?_
 refine nm_ [0, 1] ?_
 refine CD.seq ?_
 refine sr_ ?_
 refine os_ mv_ ?_
 refine OD.callP (wants_plain rfl) rfl rfl rfl Tryz.call20 (Cols_vp hm hw ht l hl hok) ⟨ot, trivial⟩ ?_
 refine os_ mv_ ?_
 refine OD.wk (Wk.as_ (n := 49) (l' := [(0, _), (1, _), (5, _)]) (S' := []) rfl rfl ⟨lk, lk, lk, trivial⟩) ?_
 refine OD.nil ?_
 refine sr_ ?_
 refine os_ mv_ ?_
 refine os_ bn_ ?_
 refine nm_ [0, 1, 5, 12] ?_
 refine CD.cond ot (fun hc0 => ?_) (fun hc0 => ?_)
 ·have hc0' := hc0
  (try simp only [V.cnd, ne_eq] at hc0')
  have hne : colsF l ≠ 0 := by simpa using hc0
  have hres : rowF l vs = colsF l := if_pos hne
  refine sr_ ?_
  refine os_ mv_ ?_
  refine os_ mv_ ?_
  refine nm_ [4] ?_
  refine CD.ret ?_
  refine r1_ ?_
  rw [hres]; exact ⟨rfl, rfl⟩
 ·have hc0' := hc0
  (try simp only [V.cnd, ne_eq] at hc0')
  have h0 : ¬ colsF l ≠ 0 := by simpa using hc0
  refine CD.skip ?_
  refine CD.seq ?_
  refine sr_ ?_
  refine os_ mv_ ?_
  refine os_ ln_ ?_
  refine os_ mv_ ?_
  refine os_ ln_ ?_
  refine os_ bn_ ?_
  refine nm_ [0, 1, 18] ?_
  refine CD.cond ot (fun hc1 => ?_) (fun hc1 => ?_)
  ·have hc1' := hc1
   (try simp only [V.cnd, ne_eq] at hc1')
   have hres : rowF l vs = 1 := by unfold rowF; rw [if_neg h0, if_pos (by omega)]
   refine sr_ ?_
   refine os_ mv_ ?_
   refine nm_ [4] ?_
   refine CD.ret ?_
   refine r1_ ?_
   rw [hres]; exact ⟨rfl, rfl⟩
  ·have hc1' := hc1
   (try simp only [V.cnd, ne_eq] at hc1')
   have hll : vs.length = l.length := by omega
   have hinv0 : rowF l vs = rowA 0 (l.drop 0) (vs.drop 0) := by unfold rowF; rw [if_neg h0, if_neg (by simp [hll])]; rfl
   refine CD.skip ?_
   refine CD.seq ?_
   refine sr_ ?_
   refine os_ mv_ ?_
   refine os_ ln_ ?_
   refine os_ mv_ ?_
   refine nm_ [0, 19, 20, 21] ?_
   refine CD.block ?_
   refine CD.wk (Wk.asS (n := 49) (l' := [(0, .list 2 (l.flatMap cC) l.length), (19, .list 3 (vs.flatMap cV) vs.length), (20, .v (.int .i64 (vs.length : Nat))), (21, .v (.int .i64 ((0) : Nat)))]) (S' := []) rfl (by repeat (first | exact List.Sublist.refl _ | apply List.Sublist.cons)) ⟨(by (repeat (first | exact look_hit | (apply look_at; focus (first | rfl | (simp; done) | (congr 2; omega))) | (apply look_miss; focus rfl))); done), (by (repeat (first | exact look_hit | (apply look_at; focus (first | rfl | (simp; done) | (congr 2; omega))) | (apply look_miss; focus rfl))); done), (by (repeat (first | exact look_hit | (apply look_at; focus (first | rfl | (simp; done) | (congr 2; omega))) | (apply look_miss; focus rfl))); done), (by (repeat (first | exact look_hit | (apply look_at; focus (first | rfl | (simp; done) | (congr 2; omega))) | (apply look_miss; focus rfl))); done), trivial⟩) (CD.loop (fun (i : Nat) y__ => (i ≤ vs.length) ∧ (rowF l vs = rowA i (l.drop i) (vs.drop i)) ∧ y__ = (⟨49, [(0, .list 2 (l.flatMap cC) l.length), (19, .list 3 (vs.flatMap cV) vs.length), (20, .v (.int .i64 (vs.length : Nat))), (21, .v (.int .i64 (i : Nat)))], []⟩ : St)) (fun (i : Nat) => vs.length - i) 0 ⟨(Nat.zero_le _), hinv0, rfl⟩ ?_)
   rintro i _ ⟨hi, hinv, rfl⟩
   refine sr_ ?_
   refine os_ bn_ ?_
   refine nm_ [0, 19, 20, 21, 22] ?_
   refine CD.seq ?_
   refine CD.cond ot (fun hc2 => ?_) (fun hc2 => ?_)
   ·have hc2' := hc2
    (try simp only [V.cnd, ne_eq] at hc2')
    have hlt : i < vs.length := by omega
    have hltc : i < l.length := by omega
    refine CD.skip ?_
    refine CD.seq ?_
    refine CD.block ?_
    refine sr_ ?_
    refine os_ mv_ ?_
    refine os_ (ix_ 3) ?_
    refine os_ (la_ [_, _, _]) ?_
    refine OD.alloc (ds := [_, _, _]) (wants_plain rfl) rfl rfl Tryz.zeroValue26 rfl (fun b7 => ?_)
    refine os_ mv_ ?_
    refine OD.store (k := 0) (cs' := [_, _, _]) (wants_plain rfl) rfl rfl ot rfl rfl ot rfl rfl Tryz.sizeOf26 rfl rfl rfl ?_
    refine OD.wk (Wk.as_ (n := 49) (l' := [(0, _), (6, _), (7, _), (19, _), (20, _), (21, _)]) (S' := [⟨b7, 26, 3, [_, _, _]⟩]) rfl rfl ⟨lk, lk, lk, lk, lk, lk, trivial⟩) ?_
    refine OD.nil ?_
    refine CD.seq ?_
    refine sr_ ?_
    refine os_ (lab_ 0 [_, _, _]) ?_
    refine OD.callP (wants_plain rfl) rfl rfl rfl Tryz.call23 (Vl.check_vp vs[i]) ⟨ot, trivial⟩ ?_
    refine os_ mv_ ?_
    refine OD.wk (Wk.as_ (n := 49) (l' := [(0, _), (6, _), (7, _), (8, _), (19, _), (20, _), (21, _)]) (S' := [⟨b7, 26, 3, [_, _, _]⟩]) rfl rfl ⟨lk, lk, lk, lk, lk, lk, lk, trivial⟩) ?_
    refine OD.nil ?_
    refine sr_ ?_
    refine os_ mv_ ?_
    refine os_ bn_ ?_
    refine nm_ [0, 6, 7, 8, 19, 20, 21, 29] ?_
    refine CD.cond ot (fun hc3 => ?_) (fun hc3 => ?_)
    ·have hc3' := hc3
     (try simp only [V.cnd, ne_eq] at hc3')
     have hne : checkV vs[i] ≠ 0 := by simpa using hc3
     have hf : fitV i l[i] vs[i] = checkV vs[i] := if_pos hne
     have hres : rowF l vs = checkV vs[i] := by rw [hinv, rowA_hit hltc hlt (by rw [hf]; exact hne), hf]
     refine sr_ ?_
     refine os_ mv_ ?_
     refine os_ mv_ ?_
     refine nm_ [4] ?_
     refine CD.ret ?_
     refine r1_ ?_
     rw [hres]; exact ⟨rfl, rfl⟩
    ·have hc3' := hc3
     (try simp only [V.cnd, ne_eq] at hc3')
     have hz : ¬ checkV vs[i] ≠ 0 := by simpa using hc3
     refine CD.skip ?_
     refine CD.seq ?_
     refine CD.draw (bks _) (by kernel_rfl) (fun _ h => h) ?_
     refine AD0.take (i := 0) rfl (by kernel_rfl) (by kernel_rfl) (by kernel_rfl) (by repeat (first | exact NP.body | apply NP.then | apply NP.cut | apply NP.inBlock | apply NP.round)) (wants_plain rfl) rfl (still_r1 (mk := fun y => Op.fieldAddr 26 y 0) rfl ot (by first | exact fa_ptr (off := 0) Tryz.runUnderlying26 rfl Tryz.sizeOf3 rfl | exact fa_iptr (off := 0) Tryz.runUnderlying26 rfl Tryz.sizeOf3 rfl)) (by exact trivial) ?_
     refine AD0.take (i := 1) rfl (by kernel_rfl) (by kernel_rfl) (by kernel_rfl) (by repeat (first | exact NP.body | apply NP.then | apply NP.cut | apply NP.inBlock | apply NP.round)) (wants_plain rfl) rfl (still_r1 (mk := Op.load 3) rfl ot (by first | exact ld_blk (k := 0) rfl rfl Tryz.isAgg3 rfl | exact ld_fm cC_len Tryz.isAgg3 (by first | assumption | omega) rfl | exact ld_fm0 cC_len Tryz.isAgg3 (by first | assumption | omega) rfl | exact ld_fm cV_len Tryz.isAgg3 (by first | assumption | omega) rfl | exact ld_fm0 cV_len Tryz.isAgg3 (by first | assumption | omega) rfl | exact ld_row (k := 0) cC_len rfl rfl rfl Tryz.isAgg3 (by first | assumption | omega) rfl | exact ld_row0 (k := 0) cC_len rfl rfl rfl Tryz.isAgg3 (by first | assumption | omega) rfl | exact ld_row (k := 0) cV_len rfl rfl rfl Tryz.isAgg3 (by first | assumption | omega) rfl | exact ld_row0 (k := 0) cV_len rfl rfl rfl Tryz.isAgg3 (by first | assumption | omega) rfl | exact ld_i Tryz.isAgg3 rfl)) (by first | exact trivial | exact safe_blk (k0 := 0) rfl rfl) ?_
     refine AD0.take (i := 2) rfl (by kernel_rfl) (by kernel_rfl) (by kernel_rfl) (by repeat (first | exact NP.body | apply NP.then | apply NP.cut | apply NP.inBlock | apply NP.round)) (wants_plain rfl) rfl (still_mv rfl ot) (by exact trivial) ?_
     refine AD0.take (i := 3) rfl (by kernel_rfl) (by kernel_rfl) (by kernel_rfl) (by repeat (first | exact NP.body | apply NP.then | apply NP.cut | apply NP.inBlock | apply NP.round)) (wants_plain rfl) rfl (still_mv rfl ot) (by exact trivial) ?_
     refine AD0.take (i := 4) rfl (by kernel_rfl) (by kernel_rfl) (by kernel_rfl) (by repeat (first | exact NP.body | apply NP.then | apply NP.cut | apply NP.inBlock | apply NP.round)) (wants_plain rfl) rfl (still_r2 (mk := Op.indexAddr 30) rfl ot ot (by first | exact ix_list Tryz.runUnderlying30 Tryz.sizeOf33 rfl (by first | assumption | omega) | exact ix_list (j := Int.toNat _) Tryz.runUnderlying30 Tryz.sizeOf33 (Int.toNat_of_nonneg (by omega)).symm (by omega) | exact ix_row Tryz.runUnderlying30 Tryz.sizeOf33 rfl (by first | assumption | omega) | exact ix_row (j := Int.toNat _) Tryz.runUnderlying30 Tryz.sizeOf33 (Int.toNat_of_nonneg (by omega)).symm (by omega))) (by exact trivial) ?_
     refine AD0.take (i := 5) rfl (by kernel_rfl) (by kernel_rfl) (by kernel_rfl) (by repeat (first | exact NP.body | apply NP.then | apply NP.cut | apply NP.inBlock | apply NP.round)) (wants_plain rfl) rfl (still_r1 (mk := fun y => Op.fieldAddr 33 y 1) rfl ot (by first | exact fa_ptr (off := 1) Tryz.runUnderlying33 rfl Tryz.sizeOf3 rfl | exact fa_iptr (off := 1) Tryz.runUnderlying33 rfl Tryz.sizeOf3 rfl)) (by exact trivial) ?_
     refine AD0.take (i := 6) rfl (by kernel_rfl) (by kernel_rfl) (by kernel_rfl) (by repeat (first | exact NP.body | apply NP.then | apply NP.cut | apply NP.inBlock | apply NP.round)) (wants_plain rfl) rfl (still_r1 (mk := Op.load 3) rfl ot (by first | exact ld_blk (k := 0) rfl rfl Tryz.isAgg3 rfl | exact ld_fm cC_len Tryz.isAgg3 (by first | assumption | omega) rfl | exact ld_fm0 cC_len Tryz.isAgg3 (by first | assumption | omega) rfl | exact ld_fm cV_len Tryz.isAgg3 (by first | assumption | omega) rfl | exact ld_fm0 cV_len Tryz.isAgg3 (by first | assumption | omega) rfl | exact ld_row (k := 0) cC_len rfl rfl rfl Tryz.isAgg3 (by first | assumption | omega) rfl | exact ld_row0 (k := 0) cC_len rfl rfl rfl Tryz.isAgg3 (by first | assumption | omega) rfl | exact ld_row (k := 0) cV_len rfl rfl rfl Tryz.isAgg3 (by first | assumption | omega) rfl | exact ld_row0 (k := 0) cV_len rfl rfl rfl Tryz.isAgg3 (by first | assumption | omega) rfl | exact ld_i Tryz.isAgg3 rfl)) (by first | exact trivial | exact safe_blk (k0 := 0) rfl rfl) ?_
     refine AD0.take (i := 7) rfl (by kernel_rfl) (by kernel_rfl) (by kernel_rfl) (by repeat (first | exact NP.body | apply NP.then | apply NP.cut | apply NP.inBlock | apply NP.round)) (wants_plain rfl) rfl (still_bin rfl ot ot bin_neq) (by exact trivial) ?_
     refine AD0.take (i := 8) rfl (by kernel_rfl) (by kernel_rfl) (by kernel_rfl) (by repeat (first | exact NP.body | apply NP.then | apply NP.cut | apply NP.inBlock | apply NP.round)) (wants_plain rfl) rfl (still_mv rfl ot) (by exact trivial) ?_
     refine AD0.split (t := 39) lk (fun hg39 => ?_) (fun hg39 => ?_)
     ·have hg39' := hg39; (try simp only [V.cnd, ne_eq] at hg39')
      refine AD0.take (i := 9) rfl (by kernel_rfl) (by kernel_rfl) (by kernel_rfl) (by repeat (first | exact NP.body | apply NP.then | apply NP.cut | apply NP.inBlock | apply NP.round)) (wants_T rfl rfl rfl lk (by first | rfl | assumption)) rfl (still_mv rfl ot) (by exact trivial) ?_
      refine AD0.take (i := 10) rfl (by kernel_rfl) (by kernel_rfl) (by kernel_rfl) (by repeat (first | exact NP.body | apply NP.then | apply NP.cut | apply NP.inBlock | apply NP.round)) (wants_T rfl rfl rfl lk (by first | rfl | assumption)) rfl (still_bin rfl ot opd_const bin_eql) (by exact trivial) ?_
      refine AD0.take (i := 11) rfl (by kernel_rfl) (by kernel_rfl) (by kernel_rfl) (by repeat (first | exact NP.body | apply NP.then | apply NP.cut | apply NP.inBlock | apply NP.round)) (wants_T rfl rfl rfl lk (by first | rfl | assumption)) rfl (still_mv rfl ot) (by exact trivial) ?_
      refine AD0.split (t := 42) lk (fun hg42 => ?_) (fun hg42 => ?_)
      ·have hg42' := hg42; (try simp only [V.cnd, ne_eq] at hg42')
       refine AD0.takeSkip (i := 12) rfl (by kernel_rfl) (by kernel_rfl) (by kernel_rfl) (by repeat (first | exact NP.body | apply NP.then | apply NP.cut | apply NP.inBlock | apply NP.round)) (wants_F rfl rfl rfl lk (by first | rfl | assumption)) rfl ?_
       refine AD0.takeSkip (i := 13) rfl (by kernel_rfl) (by kernel_rfl) (by kernel_rfl) (by repeat (first | exact NP.body | apply NP.then | apply NP.cut | apply NP.inBlock | apply NP.round)) (wants_F rfl rfl rfl lk (by first | rfl | assumption)) rfl ?_
       refine AD0.takeSkip (i := 14) rfl (by kernel_rfl) (by kernel_rfl) (by kernel_rfl) (by repeat (first | exact NP.body | apply NP.then | apply NP.cut | apply NP.inBlock | apply NP.round)) (wants_F rfl rfl rfl lk (by first | rfl | assumption)) rfl ?_
       refine AD0.take (i := 15) rfl (by kernel_rfl) (by kernel_rfl) (by kernel_rfl) (by repeat (first | exact NP.body | apply NP.then | apply NP.cut | apply NP.inBlock | apply NP.round)) (wants_T rfl rfl rfl lk (by first | rfl | assumption)) rfl (still_pickT rfl ot (by first | rfl | assumption) opd_const) (by exact trivial) ?_
       refine AD0.take (i := 16) rfl (by kernel_rfl) (by kernel_rfl) (by kernel_rfl) (by repeat (first | exact NP.body | apply NP.then | apply NP.cut | apply NP.inBlock | apply NP.round)) (wants_plain rfl) rfl (still_pickT rfl ot (by first | rfl | assumption) ot) (by exact trivial) ?_
       refine AD0.later rfl ?_
       refine AD.wk (y := ⟨49, [(0, _), (19, _), (20, _), (21, _), (47, _)], [⟨b7, 26, 3, [_, _, _]⟩]⟩) (Wk.as_ rfl rfl ⟨lk, lk, lk, lk, lk, trivial⟩) rfl ?_
       refine AD.done (by kernel_rfl) ?_
       refine CD.condT ot (by first | rfl | assumption) ?_
       have hbad : vs[i].k ≠ l[i].k ∧ (i = 0 ∨ vs[i].k ≠ 0) := by first | (simp at *; omega) | (constructor <;> simp_all <;> omega)
       have hf : fitV i l[i] vs[i] = 4 := by unfold fitV; rw [if_neg hz, if_pos hbad]
       have hres : rowF l vs = 4 := by rw [hinv, rowA_hit hltc hlt (by rw [hf]; decide), hf]
       refine sr_ ?_
       refine os_ mv_ ?_
       refine nm_ [4] ?_
       refine CD.ret ?_
       refine r1_ ?_
       rw [hres]; exact ⟨rfl, rfl⟩
      ·have hg42' := hg42; (try simp only [V.cnd, ne_eq] at hg42')
       refine AD0.take (i := 12) rfl (by kernel_rfl) (by kernel_rfl) (by kernel_rfl) (by repeat (first | exact NP.body | apply NP.then | apply NP.cut | apply NP.inBlock | apply NP.round)) (wants_T rfl rfl rfl lk (by first | rfl | assumption)) rfl (still_r1 (mk := fun y => Op.fieldAddr 26 y 0) rfl ot (by first | exact fa_ptr (off := 0) Tryz.runUnderlying26 rfl Tryz.sizeOf3 rfl | exact fa_iptr (off := 0) Tryz.runUnderlying26 rfl Tryz.sizeOf3 rfl)) (by exact trivial) ?_
       refine AD0.take (i := 13) rfl (by kernel_rfl) (by kernel_rfl) (by kernel_rfl) (by repeat (first | exact NP.body | apply NP.then | apply NP.cut | apply NP.inBlock | apply NP.round)) (wants_T rfl rfl rfl lk (by first | rfl | assumption)) rfl (still_r1 (mk := Op.load 3) rfl ot (by first | exact ld_blk (k := 0) rfl rfl Tryz.isAgg3 rfl | exact ld_fm cC_len Tryz.isAgg3 (by first | assumption | omega) rfl | exact ld_fm0 cC_len Tryz.isAgg3 (by first | assumption | omega) rfl | exact ld_fm cV_len Tryz.isAgg3 (by first | assumption | omega) rfl | exact ld_fm0 cV_len Tryz.isAgg3 (by first | assumption | omega) rfl | exact ld_row (k := 0) cC_len rfl rfl rfl Tryz.isAgg3 (by first | assumption | omega) rfl | exact ld_row0 (k := 0) cC_len rfl rfl rfl Tryz.isAgg3 (by first | assumption | omega) rfl | exact ld_row (k := 0) cV_len rfl rfl rfl Tryz.isAgg3 (by first | assumption | omega) rfl | exact ld_row0 (k := 0) cV_len rfl rfl rfl Tryz.isAgg3 (by first | assumption | omega) rfl | exact ld_i Tryz.isAgg3 rfl)) (by first | exact trivial | exact safe_blk (k0 := 0) rfl rfl) ?_
       refine AD0.take (i := 14) rfl (by kernel_rfl) (by kernel_rfl) (by kernel_rfl) (by repeat (first | exact NP.body | apply NP.then | apply NP.cut | apply NP.inBlock | apply NP.round)) (wants_T rfl rfl rfl lk (by first | rfl | assumption)) rfl (still_bin rfl ot opd_const bin_neq) (by exact trivial) ?_
       refine AD0.take (i := 15) rfl (by kernel_rfl) (by kernel_rfl) (by kernel_rfl) (by repeat (first | exact NP.body | apply NP.then | apply NP.cut | apply NP.inBlock | apply NP.round)) (wants_T rfl rfl rfl lk (by first | rfl | assumption)) rfl (still_pickF rfl ot (by first | rfl | assumption) ot) (by exact trivial) ?_
       refine AD0.take (i := 16) rfl (by kernel_rfl) (by kernel_rfl) (by kernel_rfl) (by repeat (first | exact NP.body | apply NP.then | apply NP.cut | apply NP.inBlock | apply NP.round)) (wants_plain rfl) rfl (still_pickT rfl ot (by first | rfl | assumption) ot) (by exact trivial) ?_
       refine AD0.later rfl ?_
       refine AD.wk (y := ⟨49, [(0, _), (19, _), (20, _), (21, _), (47, _)], [⟨b7, 26, 3, [_, _, _]⟩]⟩) (Wk.as_ rfl rfl ⟨lk, lk, lk, lk, lk, trivial⟩) rfl ?_
       refine AD.done (by kernel_rfl) ?_
       refine CD.cond ot (fun hc4 => ?_) (fun hc4 => ?_)
       ·have hc4' := hc4
        (try simp only [V.cnd, ne_eq] at hc4')
        have hbad : vs[i].k ≠ l[i].k ∧ (i = 0 ∨ vs[i].k ≠ 0) := by first | (simp at *; omega) | (constructor <;> simp_all <;> omega)
        have hf : fitV i l[i] vs[i] = 4 := by unfold fitV; rw [if_neg hz, if_pos hbad]
        have hres : rowF l vs = 4 := by rw [hinv, rowA_hit hltc hlt (by rw [hf]; decide), hf]
        refine sr_ ?_
        refine os_ mv_ ?_
        refine nm_ [4] ?_
        refine CD.ret ?_
        refine r1_ ?_
        rw [hres]; exact ⟨rfl, rfl⟩
       ·have hc4' := hc4
        (try simp only [V.cnd, ne_eq] at hc4')
        have hgood : ¬ (vs[i].k ≠ l[i].k ∧ (i = 0 ∨ vs[i].k ≠ 0)) := by first | (simp_all; done) | omega | (simp at *; omega)
        have hf : fitV i l[i] vs[i] = 0 := by unfold fitV; rw [if_neg hz, if_neg hgood]
        have hnext := hinv.trans (rowA_step hltc hlt hf)
        refine CD.skip ?_
        refine CD.region ?_
        refine os_ bn_ ?_
        refine os_ mv_ ?_
        refine nm_ [0, 19, 20, 21] ?_
        refine ⟨(i + 1), ⟨49, [(0, .list 2 (l.flatMap cC) l.length), (19, .list 3 (vs.flatMap cV) vs.length), (20, .v (.int .i64 (vs.length : Nat))), (21, .v (.int .i64 (((i + 1)) : Nat)))], []⟩, ?_, Wk.asS (n := 49) rfl (by repeat (first | exact List.Sublist.refl _ | apply List.Sublist.cons)) ⟨(by (repeat (first | exact look_hit | (apply look_at; focus (first | rfl | (simp; done) | (congr 2; omega))) | (apply look_miss; focus rfl))); done), (by (repeat (first | exact look_hit | (apply look_at; focus (first | rfl | (simp; done) | (congr 2; omega))) | (apply look_miss; focus rfl))); done), (by (repeat (first | exact look_hit | (apply look_at; focus (first | rfl | (simp; done) | (congr 2; omega))) | (apply look_miss; focus rfl))); done), (by (repeat (first | exact look_hit | (apply look_at; focus (first | rfl | (simp; done) | (congr 2; omega))) | (apply look_miss; focus rfl))); done), trivial⟩, (by omega), hnext, rfl⟩
        first | omega | (simp only []; omega)
     ·have hg39' := hg39; (try simp only [V.cnd, ne_eq] at hg39')
      refine AD0.takeSkip (i := 9) rfl (by kernel_rfl) (by kernel_rfl) (by kernel_rfl) (by repeat (first | exact NP.body | apply NP.then | apply NP.cut | apply NP.inBlock | apply NP.round)) (wants_F rfl rfl rfl lk (by first | rfl | assumption)) rfl ?_
      refine AD0.takeSkip (i := 10) rfl (by kernel_rfl) (by kernel_rfl) (by kernel_rfl) (by repeat (first | exact NP.body | apply NP.then | apply NP.cut | apply NP.inBlock | apply NP.round)) (wants_F rfl rfl rfl lk (by first | rfl | assumption)) rfl ?_
      refine AD0.takeSkip (i := 11) rfl (by kernel_rfl) (by kernel_rfl) (by kernel_rfl) (by repeat (first | exact NP.body | apply NP.then | apply NP.cut | apply NP.inBlock | apply NP.round)) (wants_F rfl rfl rfl lk (by first | rfl | assumption)) rfl ?_
      refine AD0.takeSkip (i := 12) rfl (by kernel_rfl) (by kernel_rfl) (by kernel_rfl) (by repeat (first | exact NP.body | apply NP.then | apply NP.cut | apply NP.inBlock | apply NP.round)) (wants_J (b := false) rfl rfl rfl lk) rfl ?_
      refine AD0.takeSkip (i := 13) rfl (by kernel_rfl) (by kernel_rfl) (by kernel_rfl) (by repeat (first | exact NP.body | apply NP.then | apply NP.cut | apply NP.inBlock | apply NP.round)) (wants_J (b := false) rfl rfl rfl lk) rfl ?_
      refine AD0.takeSkip (i := 14) rfl (by kernel_rfl) (by kernel_rfl) (by kernel_rfl) (by repeat (first | exact NP.body | apply NP.then | apply NP.cut | apply NP.inBlock | apply NP.round)) (wants_J (b := false) rfl rfl rfl lk) rfl ?_
      refine AD0.takeSkip (i := 15) rfl (by kernel_rfl) (by kernel_rfl) (by kernel_rfl) (by repeat (first | exact NP.body | apply NP.then | apply NP.cut | apply NP.inBlock | apply NP.round)) (wants_F rfl rfl rfl lk (by first | rfl | assumption)) rfl ?_
      refine AD0.take (i := 16) rfl (by kernel_rfl) (by kernel_rfl) (by kernel_rfl) (by repeat (first | exact NP.body | apply NP.then | apply NP.cut | apply NP.inBlock | apply NP.round)) (wants_plain rfl) rfl (still_pickF rfl ot (by first | rfl | assumption) opd_const) (by exact trivial) ?_
      refine AD0.later rfl ?_
      refine AD.wk (y := ⟨49, [(0, _), (19, _), (20, _), (21, _), (47, _)], [⟨b7, 26, 3, [_, _, _]⟩]⟩) (Wk.as_ rfl rfl ⟨lk, lk, lk, lk, lk, trivial⟩) rfl ?_
      refine AD.done (by kernel_rfl) ?_
      refine CD.condF ot (by first | rfl | assumption) ?_
      have hgood : ¬ (vs[i].k ≠ l[i].k ∧ (i = 0 ∨ vs[i].k ≠ 0)) := by first | (simp_all; done) | omega | (simp at *; omega)
      have hf : fitV i l[i] vs[i] = 0 := by unfold fitV; rw [if_neg hz, if_neg hgood]
      have hnext := hinv.trans (rowA_step hltc hlt hf)
      refine CD.skip ?_
      refine CD.region ?_
      refine os_ bn_ ?_
      refine os_ mv_ ?_
      refine nm_ [0, 19, 20, 21] ?_
      refine ⟨(i + 1), ⟨49, [(0, .list 2 (l.flatMap cC) l.length), (19, .list 3 (vs.flatMap cV) vs.length), (20, .v (.int .i64 (vs.length : Nat))), (21, .v (.int .i64 (((i + 1)) : Nat)))], []⟩, ?_, Wk.asS (n := 49) rfl (by repeat (first | exact List.Sublist.refl _ | apply List.Sublist.cons)) ⟨(by (repeat (first | exact look_hit | (apply look_at; focus (first | rfl | (simp; done) | (congr 2; omega))) | (apply look_miss; focus rfl))); done), (by (repeat (first | exact look_hit | (apply look_at; focus (first | rfl | (simp; done) | (congr 2; omega))) | (apply look_miss; focus rfl))); done), (by (repeat (first | exact look_hit | (apply look_at; focus (first | rfl | (simp; done) | (congr 2; omega))) | (apply look_miss; focus rfl))); done), (by (repeat (first | exact look_hit | (apply look_at; focus (first | rfl | (simp; done) | (congr 2; omega))) | (apply look_miss; focus rfl))); done), trivial⟩, (by omega), hnext, rfl⟩
      first | omega | (simp only []; omega)
   ·have hc2' := hc2
    (try simp only [V.cnd, ne_eq] at hc2')
    have hres : rowF l vs = 0 := by rw [hinv]; exact rowA_end (by omega)
    refine CD.exit ?_
    refine sr_ ?_
    refine os_ mv_ ?_
    refine nm_ [4] ?_
    refine CD.ret ?_
    refine r1_ ?_
    rw [hres]; exact ⟨rfl, rfl⟩

end Go.Proofs.YtfooincnmobemaaGreatDoor.Pc

namespace Go.Proofs.YtfooincnmobemaaGreatDoor.Nm
open Go.RowKit V Pk Vl
set_option linter.unusedVariables false
set_option linter.unusedSimpArgs false

theorem eqs26 (x y : Vl) : ∀ w, (Op.equalIn 10000 26 (.agg [.int .i64 x.k, .int .i64 x.n, .string x.s].toArray) (.agg [.int .i64 y.k, .int .i64 y.n, .string y.s].toArray)).run Tryz.prog w = .ok (x.k == y.k && (x.n == y.n && x.s.toList == y.s.toList)) w := fun w => by
 have hS : Tryz.prog.underlying 26 = some (.struct (Tryz.prog.fieldsOf 26)) := by kernel_rfl
 have hp : Tryz.prog.stoodInHeld 26 = false := by kernel_rfl
 rw [show (10000 : Nat) = 9999 + 1 from rfl, run_equalIn_agg w 9999 26 _ _ hS hp]
 have u := Tryz.underlying26
 have u3 := Tryz.underlying3
 have u9 := Tryz.underlying9
 have a3 := Tryz.isAgg3
 have a9 := Tryz.isAgg9
 have z3 := Tryz.sizeOf3
 have z9 := Tryz.sizeOf9
 simp only [Program.fieldsOf, u]
 go_simp
 by_cases h1 : x.k = y.k <;> by_cases h2 : x.n = y.n <;> by_cases h3 : x.s.toList = y.s.toList <;> simp [h1, h2, h3]

def litF (v : Vl) : Int := if v.k = 2 ∧ v.n = -9223372036854775808 then 3 else checkV v
structure OpL where
 k : Int
 v : Vl
 nm : ByteArray
def cO (o : OpL) : List D := [.v (.int .i64 o.k), .v (.int .i64 o.v.k), .v (.int .i64 o.v.n), .v (.string o.v.s), .v (.string o.nm)]
theorem cO_len (o : OpL) : (cO o).length = 5 := rfl
theorem cO_one (o : OpL) : (cO o).all V.one = true := rfl
def popsF (k : Int) : Int := if k = 1 ∨ k = 2 then 0 else if k = 5 ∨ k = 11 then 1 else 2
theorem pops_bd (k : Int) : 0 ≤ popsF k ∧ popsF k ≤ 2 := by unfold popsF; split <;> (try split) <;> omega
def zeroV (v : Vl) : Bool := v.k == 0 && (v.n == 0 && v.s.toList == (⟨#[]⟩ : ByteArray).toList)
/-- What is wrong with an op, on a stack that is so high. -/
def opErr (h : Int) (o : OpL) : Int :=
  if o.k < 1 ∨ o.k > 11 then 2
  else if litF o.v ≠ 0 then litF o.v
  else if ((o.k != 1 && !(zeroV o.v)) || (o.k != 2 && !(o.nm.toList == (⟨#[]⟩ : ByteArray).toList))) = true then 6
  else if o.k = 2 ∧ nameF o.nm ≠ 0 then nameF o.nm
  else if h < popsF o.k then 7 else 0
def exprL : Int → List OpL → Int
 | h, [] => if h = 1 then 0 else 7
 | h, o :: r => if opErr h o = 0 then exprL (h + (1 - popsF o.k)) r else opErr h o
def exprF (l : List OpL) : Int := if l.length > 40 then 10 else exprL 0 l
theorem exprL_ok {l : List OpL} {i : Nat} {h : Int} (hi : i < l.length) (he : opErr h l[i] = 0) : exprL h (l.drop i) = exprL (h + (1 - popsF l[i].k)) (l.drop (i + 1)) := by
 rw [List.drop_eq_getElem_cons hi, exprL, if_pos he]
theorem exprL_no {l : List OpL} {i : Nat} {h e : Int} (hi : i < l.length) (he : opErr h l[i] = e) (h0 : e ≠ 0) : exprL h (l.drop i) = e := by
 rw [List.drop_eq_getElem_cons hi, exprL, if_neg (by rw [he]; exact h0), he]
theorem exprL_end {l : List OpL} {i : Nat} {h : Int} (hi : l.length ≤ i) : exprL h (l.drop i) = if h = 1 then 0 else 7 := by
 rw [List.drop_of_length_le hi, exprL]
variable {G : List (Nat × List Value)}

set_option maxHeartbeats 4000000 in
set_option maxRecDepth 100000 in
theorem literal_vp (v : Vl) : VP Tryz.prog G 53 [.agg (cV v)] (.v (.int .i64 (litF v))) := by
 refine VC.body Tryz.func53 rfl Tryz.ntmps53 (Nat.le_of_ble_eq_true rfl) fun X0 w0 S00 => ?_
 unfold cV
 refine sr_ ?_
 refine OD.box (ds := [_, _, _]) (wants_plain rfl) rfl rfl ot rfl rfl (fun b1 => ?_)
 refine os_ mv_ ?_
 refine OD.wk (Wk.as_ (n := 13) (l' := [(1, _)]) (S' := [⟨b1, 26, 3, [_, _, _]⟩]) rfl rfl ⟨lk, trivial⟩) ?_
 refine OD.nil ?_
 refine CD.seq ?_
 refine sr_ ?_
 refine os_ (fa_ 0) ?_
 refine os_ (lb_ 0) ?_
 refine os_ bn_ ?_
 refine os_ mv_ ?_
 refine OD.split (t := 6) lk (fun hg6 => ?_) (fun hg6 => ?_)
 ·have hg6' := hg6; (try simp only [V.cnd, ne_eq] at hg6')
  refine os_ (fa_ 1) ?_
  refine os_ (lb_ 0) ?_
  refine os_ bn_ ?_
  refine os_ pkT_ ?_
  refine nm_ [1, 10] ?_
  refine CD.cond ot (fun hc0 => ?_) (fun hc0 => ?_)
  ·have hc0' := hc0
   (try simp only [V.cnd, ne_eq] at hc0')
   refine sr_ ?_
   refine os_ mv_ ?_
   refine nm_ [2] ?_
   refine CD.ret ?_
   refine r1_ ?_
   refine ⟨vi ?_, rfl⟩
   unfold litF
   simp_all
  ·have hc0' := hc0
   (try simp only [V.cnd, ne_eq] at hc0')
   refine CD.skip ?_
   refine sr_ ?_
   refine os_ (lab_ 0 [_, _, _]) ?_
   refine OD.callP (wants_plain rfl) rfl rfl rfl Tryz.call23 (Vl.check_vp v) ⟨ot, trivial⟩ ?_
   refine os_ mv_ ?_
   refine OD.wk (Wk.as_ (n := 13) (l' := [(2, _)]) (S' := [⟨b1, 26, 3, [_, _, _]⟩]) rfl rfl ⟨lk, trivial⟩) ?_
   refine OD.nil ?_
   refine CD.ret ?_
   refine ⟨.inr rfl, _, [], List.nil_sublist _, ret_one Tryz.results53 (res_tmp (Nat.le_of_ble_eq_true rfl) lk), ?_⟩
   refine ⟨vi ?_, rfl⟩
   unfold litF
   simp_all
 ·have hg6' := hg6; (try simp only [V.cnd, ne_eq] at hg6')
  refine sk_ ?_
  refine sk_ ?_
  refine sk_ ?_
  refine os_ pkF_ ?_
  refine nm_ [1, 10] ?_
  refine CD.condF ot (by first | rfl | assumption) ?_
  refine CD.skip ?_
  refine sr_ ?_
  refine os_ (lab_ 0 [_, _, _]) ?_
  refine OD.callP (wants_plain rfl) rfl rfl rfl Tryz.call23 (Vl.check_vp v) ⟨ot, trivial⟩ ?_
  refine os_ mv_ ?_
  refine OD.wk (Wk.as_ (n := 13) (l' := [(2, _)]) (S' := [⟨b1, 26, 3, [_, _, _]⟩]) rfl rfl ⟨lk, trivial⟩) ?_
  refine OD.nil ?_
  refine CD.ret ?_
  refine ⟨.inr rfl, _, [], List.nil_sublist _, ret_one Tryz.results53 (res_tmp (Nat.le_of_ble_eq_true rfl) lk), ?_⟩
  refine ⟨vi ?_, rfl⟩
  unfold litF
  simp_all

set_option maxHeartbeats 4000000 in
set_option maxRecDepth 100000 in
theorem pops_vp (k : Int) : VP Tryz.prog G 55 [.v (.int .i64 k)] (.v (.int .i64 (popsF k))) := by
 refine VC.body Tryz.func55 rfl Tryz.ntmps55 (Nat.le_of_ble_eq_true rfl) fun X0 w0 S00 => ?_
 refine sr_ ?_
 refine os_ mv_ ?_
 refine nm_ [0] ?_
 refine CD.seq ?_
 refine sr_ ?_
 refine os_ mv_ ?_
 refine nm_ [3] ?_
 refine CD.block ?_
 refine CD.seq ?_
 refine sr_ ?_
 refine os_ bn_ ?_
 refine os_ mv_ ?_
 refine nm_ [3, 4] ?_
 refine CD.cond ot (fun hc0 => ?_) (fun hc0 => ?_)
 ·have hc0' := hc0
  (try simp only [V.cnd, ne_eq] at hc0')
  refine CD.skip ?_
  refine CD.condT ot (by first | rfl | assumption) ?_
  refine sr_ ?_
  refine os_ mv_ ?_
  refine nm_ [2] ?_
  refine CD.ret ?_
  refine r1_ ?_
  refine ⟨vi ?_, rfl⟩
  unfold popsF
  simp_all
 ·have hc0' := hc0
  (try simp only [V.cnd, ne_eq] at hc0')
  refine CD.region ?_
  refine os_ bn_ ?_
  refine os_ mv_ ?_
  refine nm_ [3, 4] ?_
  refine CD.cond ot (fun hc1 => ?_) (fun hc1 => ?_)
  ·have hc1' := hc1
   (try simp only [V.cnd, ne_eq] at hc1')
   refine sr_ ?_
   refine os_ mv_ ?_
   refine nm_ [2] ?_
   refine CD.ret ?_
   refine r1_ ?_
   refine ⟨vi ?_, rfl⟩
   unfold popsF
   simp_all
  ·have hc1' := hc1
   (try simp only [V.cnd, ne_eq] at hc1')
   refine CD.seq ?_
   refine sr_ ?_
   refine os_ bn_ ?_
   refine os_ mv_ ?_
   refine nm_ [3, 7] ?_
   refine CD.cond ot (fun hc2 => ?_) (fun hc2 => ?_)
   ·have hc2' := hc2
    (try simp only [V.cnd, ne_eq] at hc2')
    refine CD.skip ?_
    refine CD.condT ot (by first | rfl | assumption) ?_
    refine sr_ ?_
    refine os_ mv_ ?_
    refine nm_ [2] ?_
    refine CD.ret ?_
    refine r1_ ?_
    refine ⟨vi ?_, rfl⟩
    unfold popsF
    simp_all
   ·have hc2' := hc2
    (try simp only [V.cnd, ne_eq] at hc2')
    refine CD.region ?_
    refine os_ bn_ ?_
    refine os_ mv_ ?_
    refine nm_ [7] ?_
    refine CD.cond ot (fun hc3 => ?_) (fun hc3 => ?_)
    ·have hc3' := hc3
     (try simp only [V.cnd, ne_eq] at hc3')
     refine sr_ ?_
     refine os_ mv_ ?_
     refine nm_ [2] ?_
     refine CD.ret ?_
     refine r1_ ?_
     refine ⟨vi ?_, rfl⟩
     unfold popsF
     simp_all
    ·have hc3' := hc3
     (try simp only [V.cnd, ne_eq] at hc3')
     refine CD.skip ?_
     refine sr_ ?_
     refine os_ mv_ ?_
     refine nm_ [2] ?_
     refine CD.ret ?_
     refine r1_ ?_
     refine ⟨vi ?_, rfl⟩
     unfold popsF
     simp_all

theorem places26_Nm3 : ∀ w, ((#[{ name := "Kind", type := 3, offset := 0, embedded := false, tag := "", pkgPath := "", byteOffset := 0 }, { name := "Int", type := 3, offset := 1, embedded := false, tag := "", pkgPath := "", byteOffset := 8 }, { name := "Text", type := 9, offset := 2, embedded := false, tag := "", pkgPath := "", byteOffset := 16 }] : Array Field).mapM fun f => do pure (f.offset, ← sizeOf f.type) : Sem (Array (Nat × Nat))).run Tryz.prog w = .ok #[(0, 1), (1, 1), (2, 1)] w := fun w => by simp [Tryz.sizeOf3, Tryz.sizeOf9]

set_option maxHeartbeats 4000000 in
set_option maxRecDepth 100000 in
theorem expr_vp (hm : (3, marksC) ∈ G) (hw : (0, wordsC) ∈ G) (l : List OpL) (hs : ∀ o ∈ l, o.nm.size ≤ maxLen) : VP Tryz.prog G 31 [.list 5 (l.flatMap cO) l.length] (.v (.int .i64 (exprF l))) := by
 refine VC.body Tryz.func31 rfl Tryz.ntmps31 (Nat.le_of_ble_eq_true rfl) fun X0 w0 S00 => ?_
 have hlx : l.length ≤ 40 ∨ 40 < l.length := by omega
 refine sr_ ?_
 refine os_ mv_ ?_
 refine nm_ [0] ?_
 refine CD.seq ?_
 refine sr_ ?_
 refine os_ mv_ ?_
 refine os_ ln_ ?_
 refine os_ bn_ ?_
 refine nm_ [0, 10] ?_
 refine CD.cond ot (fun hc0 => ?_) (fun hc0 => ?_)
 ·have hc0' := hc0
  (try simp only [V.cnd, ne_eq] at hc0')
  have hf : exprF l = 10 := if_pos (by omega)
  refine sr_ ?_
  refine os_ mv_ ?_
  refine nm_ [2] ?_
  refine CD.ret ?_
  refine r1_ ?_
  refine ⟨vi ?_, rfl⟩
  first | exact hf.symm | (rw [hf, hx, exprL_no hlt herr (by first | assumption | decide)]; done) | (rw [hf, hend, if_pos (by simpa using hc8)]; done) | (rw [hf, hend, if_neg (by simpa using hc8)]; done)
 ·have hc0' := hc0
  (try simp only [V.cnd, ne_eq] at hc0')
  have hf : exprF l = exprL 0 l := if_neg (by omega)
  have h40 : l.length ≤ 40 := by omega
  refine CD.skip ?_
  refine sr_ ?_
  refine os_ mv_ ?_
  refine nm_ [0, 3] ?_
  refine CD.seq ?_
  refine sr_ ?_
  refine os_ mv_ ?_
  refine os_ ln_ ?_
  refine os_ mv_ ?_
  refine nm_ [3, 11, 12, 13] ?_
  refine CD.block ?_
  refine CD.wk (Wk.asS (n := 73) (l' := [(3, .v (.int .i64 (0))), (11, .list 5 (l.flatMap cO) l.length), (12, .v (.int .i64 l.length)), (13, .v (.int .i64 ((0) : Nat)))]) (S' := []) rfl (by repeat (first | exact List.Sublist.refl _ | apply List.Sublist.cons)) ⟨(by (repeat (first | exact look_hit | (apply look_at; focus (first | rfl | (simp; done) | (congr 2; omega))) | (apply look_miss; focus rfl))); done), (by (repeat (first | exact look_hit | (apply look_at; focus (first | rfl | (simp; done) | (congr 2; omega))) | (apply look_miss; focus rfl))); done), (by (repeat (first | exact look_hit | (apply look_at; focus (first | rfl | (simp; done) | (congr 2; omega))) | (apply look_miss; focus rfl))); done), (by (repeat (first | exact look_hit | (apply look_at; focus (first | rfl | (simp; done) | (congr 2; omega))) | (apply look_miss; focus rfl))); done), trivial⟩) (CD.loop (fun (gh__ : Nat × Int) y__ => match gh__ with | (i, h) => (i ≤ l.length) ∧ (exprL 0 l = exprL h (l.drop i)) ∧ (0 ≤ h) ∧ (h ≤ i) ∧ y__ = (⟨73, [(3, .v (.int .i64 h)), (11, .list 5 (l.flatMap cO) l.length), (12, .v (.int .i64 l.length)), (13, .v (.int .i64 (i : Nat)))], []⟩ : St)) (fun (gh__ : Nat × Int) => match gh__ with | (i, h) => l.length - i) (0, 0) ⟨(Nat.zero_le _), rfl, (Int.le_refl _), (Int.le_refl _), rfl⟩ ?_)
  rintro ⟨i, h⟩ _ ⟨hi, hx, h0, hh, rfl⟩
  refine sr_ ?_
  refine os_ bn_ ?_
  refine nm_ [3, 11, 12, 13, 14] ?_
  refine CD.seq ?_
  refine CD.cond ot (fun hc1 => ?_) (fun hc1 => ?_)
  ·have hc1' := hc1
   (try simp only [V.cnd, ne_eq] at hc1')
   have hlt : i < l.length := by omega
   have hpb := pops_bd l[i].k
   refine CD.skip ?_
   refine CD.seq ?_
   refine CD.block ?_
   refine sr_ ?_
   refine os_ (ix_ 5) ?_
   refine os_ (la_ [_, _, _, _, _]) ?_
   refine OD.alloc (ds := [_, _, _, _, _]) (wants_plain rfl) rfl rfl Tryz.zeroValue35 rfl (fun b5 => ?_)
   refine OD.store (k := 0) (cs' := [_, _, _, _, _]) (wants_plain rfl) rfl rfl ot rfl rfl ot rfl rfl Tryz.sizeOf35 rfl rfl rfl ?_
   refine OD.wk (Wk.as_ (n := 73) (l' := [(3, _), (5, _), (11, _), (12, _), (13, _)]) (S' := [⟨b5, 35, 5, [_, _, _, _, _]⟩]) rfl rfl ⟨lk, lk, lk, lk, lk, trivial⟩) ?_
   refine OD.nil ?_
   refine CD.seq ?_
   refine sr_ ?_
   refine os_ (fa_ 0) ?_
   refine os_ (lb_ 0) ?_
   refine os_ bn_ ?_
   refine os_ mv_ ?_
   refine OD.split (t := 20) lk (fun hg20 => ?_) (fun hg20 => ?_)
   ·have hg20' := hg20; (try simp only [V.cnd, ne_eq] at hg20')
    refine sk_ ?_
    refine sk_ ?_
    refine sk_ ?_
    refine os_ pkT_ ?_
    refine nm_ [3, 5, 11, 12, 13, 24] ?_
    refine CD.condT ot (by first | rfl | assumption) ?_
    have herr : opErr h l[i] = 2 := by unfold opErr; rw [if_pos (by omega)]
    refine sr_ ?_
    refine os_ mv_ ?_
    refine nm_ [2] ?_
    refine CD.ret ?_
    refine r1_ ?_
    refine ⟨vi ?_, rfl⟩
    first | exact hf.symm | (rw [hf, hx, exprL_no hlt herr (by first | assumption | decide)]; done) | (rw [hf, hend, if_pos (by simpa using hc8)]; done) | (rw [hf, hend, if_neg (by simpa using hc8)]; done)
   ·have hg20' := hg20; (try simp only [V.cnd, ne_eq] at hg20')
    refine os_ (fa_ 0) ?_
    refine os_ (lb_ 0) ?_
    refine os_ bn_ ?_
    refine os_ pkF_ ?_
    refine nm_ [3, 5, 11, 12, 13, 24] ?_
    refine CD.cond ot (fun hc2 => ?_) (fun hc2 => ?_)
    ·have hc2' := hc2
     (try simp only [V.cnd, ne_eq] at hc2')
     have herr : opErr h l[i] = 2 := by unfold opErr; rw [if_pos (by omega)]
     refine sr_ ?_
     refine os_ mv_ ?_
     refine nm_ [2] ?_
     refine CD.ret ?_
     refine r1_ ?_
     refine ⟨vi ?_, rfl⟩
     first | exact hf.symm | (rw [hf, hx, exprL_no hlt herr (by first | assumption | decide)]; done) | (rw [hf, hend, if_pos (by simpa using hc8)]; done) | (rw [hf, hend, if_neg (by simpa using hc8)]; done)
    ·have hc2' := hc2
     (try simp only [V.cnd, ne_eq] at hc2')
     have hk1 : ¬ (l[i].k < 1 ∨ l[i].k > 11) := by omega
     refine CD.skip ?_
     refine CD.seq ?_
     refine sr_ ?_
     refine os_ (fa_ 1) ?_
     refine os_ (lab_ 0 [_, _, _]) ?_
     refine OD.callP (wants_plain rfl) rfl rfl rfl Tryz.call53 (literal_vp l[i].v) ⟨ot, trivial⟩ ?_
     refine os_ mv_ ?_
     refine OD.wk (Wk.as_ (n := 73) (l' := [(3, _), (5, _), (6, _), (11, _), (12, _), (13, _)]) (S' := [⟨b5, 35, 5, [_, _, _, _, _]⟩]) rfl rfl ⟨lk, lk, lk, lk, lk, lk, trivial⟩) ?_
     refine OD.nil ?_
     refine sr_ ?_
     refine os_ mv_ ?_
     refine os_ bn_ ?_
     refine nm_ [3, 5, 6, 11, 12, 13, 29] ?_
     refine CD.cond ot (fun hc3 => ?_) (fun hc3 => ?_)
     ·have hc3' := hc3
      (try simp only [V.cnd, ne_eq] at hc3')
      have hlit : litF l[i].v ≠ 0 := by simpa using hc3
      have herr : opErr h l[i] = litF l[i].v := by unfold opErr; rw [if_neg hk1, if_pos hlit]
      refine sr_ ?_
      refine os_ mv_ ?_
      refine os_ mv_ ?_
      refine nm_ [2] ?_
      refine CD.ret ?_
      refine r1_ ?_
      refine ⟨vi ?_, rfl⟩
      first | exact hf.symm | (rw [hf, hx, exprL_no hlt herr (by first | assumption | decide)]; done) | (rw [hf, hend, if_pos (by simpa using hc8)]; done) | (rw [hf, hend, if_neg (by simpa using hc8)]; done)
     ·have hc3' := hc3
      (try simp only [V.cnd, ne_eq] at hc3')
      have hlit : litF l[i].v = 0 := by simpa using hc3
      refine CD.skip ?_
      refine CD.seq ?_
      refine sr_ ?_
      refine os_ (fa_ 0) ?_
      refine os_ (lb_ 0) ?_
      refine os_ bn_ ?_
      refine os_ mv_ ?_
      refine OD.split (t := 34) lk (fun hg34 => ?_) (fun hg34 => ?_)
      ·have hg34' := hg34; (try simp only [V.cnd, ne_eq] at hg34')
       refine os_ (fa_ 1) ?_
       refine os_ (lab_ 0 [_, _, _]) ?_
       refine OD.still (wants_T rfl rfl rfl lk (by first | rfl | assumption)) rfl (still_bld (pl := []) (ds := [_, _, _]) rfl Tryz.zeroValue26 Tryz.runUnderlying26 places26_Nm3 trivial rfl rfl) ?_
       refine OD.still (wants_T rfl rfl rfl lk (by first | rfl | assumption)) rfl (still_neS (us := [_, _, _]) (us' := [_, _, _]) rfl ot ot Tryz.eqGuardType26 (eqs26 l[i].v ⟨0, 0, ⟨#[]⟩⟩)) ?_
       refine os_ pkT_ ?_
       refine os_ mv_ ?_
       refine OD.split (t := 40) lk (fun hg40 => ?_) (fun hg40 => ?_)
       ·have hg40' := hg40; (try simp only [V.cnd, ne_eq] at hg40')
        refine sk_ ?_
        refine sk_ ?_
        refine sk_ ?_
        refine sk_ ?_
        refine sj_ ?_
        refine sj_ ?_
        refine sj_ ?_
        refine sk_ ?_
        refine os_ pkT_ ?_
        refine OD.wk (Wk.as_ (n := 73) (l' := [(3, _), (5, _), (11, _), (12, _), (13, _), (49, _)]) (S' := [⟨b5, 35, 5, [_, _, _, _, _]⟩]) rfl rfl ⟨lk, lk, lk, lk, lk, lk, trivial⟩) ?_
        refine OD.nil ?_
        refine CD.condT ot (by first | rfl | assumption) ?_
        have herr : opErr h l[i] = 6 := by unfold opErr zeroV; rw [if_neg hk1, if_neg (by rw [hlit]; simp), if_pos (by simp_all)]
        refine sr_ ?_
        refine os_ mv_ ?_
        refine nm_ [2] ?_
        refine CD.ret ?_
        refine r1_ ?_
        refine ⟨vi ?_, rfl⟩
        first | exact hf.symm | (rw [hf, hx, exprL_no hlt herr (by first | assumption | decide)]; done) | (rw [hf, hend, if_pos (by simpa using hc8)]; done) | (rw [hf, hend, if_neg (by simpa using hc8)]; done)
       ·have hg40' := hg40; (try simp only [V.cnd, ne_eq] at hg40')
        refine os_ (fa_ 0) ?_
        refine os_ (lb_ 0) ?_
        refine os_ bn_ ?_
        refine os_ mv_ ?_
        refine OD.split (t := 44) lk (fun hg44 => ?_) (fun hg44 => ?_)
        ·have hg44' := hg44; (try simp only [V.cnd, ne_eq] at hg44')
         refine os_ (fa_ 4) ?_
         refine os_ (lb_ 0) ?_
         refine os_ bn_ ?_
         refine os_ pkT_ ?_
         refine os_ pkF_ ?_
         refine OD.wk (Wk.as_ (n := 73) (l' := [(3, _), (5, _), (11, _), (12, _), (13, _), (49, _)]) (S' := [⟨b5, 35, 5, [_, _, _, _, _]⟩]) rfl rfl ⟨lk, lk, lk, lk, lk, lk, trivial⟩) ?_
         refine OD.nil ?_
         refine CD.cond ot (fun hc4 => ?_) (fun hc4 => ?_)
         ·have hc4' := hc4
          (try simp only [V.cnd, ne_eq] at hc4')
          have herr : opErr h l[i] = 6 := by unfold opErr zeroV; rw [if_neg hk1, if_neg (by rw [hlit]; simp), if_pos (by simp_all)]
          refine sr_ ?_
          refine os_ mv_ ?_
          refine nm_ [2] ?_
          refine CD.ret ?_
          refine r1_ ?_
          refine ⟨vi ?_, rfl⟩
          first | exact hf.symm | (rw [hf, hx, exprL_no hlt herr (by first | assumption | decide)]; done) | (rw [hf, hend, if_pos (by simpa using hc8)]; done) | (rw [hf, hend, if_neg (by simpa using hc8)]; done)
         ·have hc4' := hc4
          (try simp only [V.cnd, ne_eq] at hc4')
          have hform : ¬ ((l[i].k != 1 && !(zeroV l[i].v)) || (l[i].k != 2 && !(l[i].nm.toList == (⟨#[]⟩ : ByteArray).toList))) = true := by unfold zeroV; simp_all
          refine CD.skip ?_
          refine CD.seq ?_
          refine sr_ ?_
          refine os_ (fa_ 0) ?_
          refine os_ (lb_ 0) ?_
          refine os_ bn_ ?_
          refine nm_ [3, 5, 11, 12, 13, 52] ?_
          refine CD.cond ot (fun hc5 => ?_) (fun hc5 => ?_)
          ·have hc5' := hc5
           (try simp only [V.cnd, ne_eq] at hc5')
           refine sr_ ?_
           refine os_ (fa_ 4) ?_
           refine os_ (lb_ 0) ?_
           refine OD.callP (wants_plain rfl) rfl rfl rfl Tryz.call54 (name_vp hm hw l[i].nm (hs _ (List.getElem_mem hlt))) ⟨ot, trivial⟩ ?_
           refine os_ mv_ ?_
           refine OD.wk (Wk.as_ (n := 73) (l' := [(3, _), (5, _), (7, _), (11, _), (12, _), (13, _)]) (S' := [⟨b5, 35, 5, [_, _, _, _, _]⟩]) rfl rfl ⟨lk, lk, lk, lk, lk, lk, trivial⟩) ?_
           refine OD.nil ?_
           refine sr_ ?_
           refine os_ mv_ ?_
           refine os_ bn_ ?_
           refine nm_ [3, 5, 7, 11, 12, 13, 57] ?_
           refine CD.cond ot (fun hc6 => ?_) (fun hc6 => ?_)
           ·have hc6' := hc6
            (try simp only [V.cnd, ne_eq] at hc6')
            have hnm : nameF l[i].nm ≠ 0 := by simpa using hc6
            have herr : opErr h l[i] = nameF l[i].nm := by unfold opErr; rw [if_neg hk1, if_neg (by rw [hlit]; simp), if_neg hform, if_pos ⟨by simpa using hc5, hnm⟩]
            refine sr_ ?_
            refine os_ mv_ ?_
            refine os_ mv_ ?_
            refine nm_ [2] ?_
            refine CD.ret ?_
            refine r1_ ?_
            refine ⟨vi ?_, rfl⟩
            first | exact hf.symm | (rw [hf, hx, exprL_no hlt herr (by first | assumption | decide)]; done) | (rw [hf, hend, if_pos (by simpa using hc8)]; done) | (rw [hf, hend, if_neg (by simpa using hc8)]; done)
           ·have hc6' := hc6
            (try simp only [V.cnd, ne_eq] at hc6')
            have hnn : ¬ (l[i].k = 2 ∧ nameF l[i].nm ≠ 0) := by simp at hc6; simp [hc6]
            refine CD.skip ?_
            refine CD.seq ?_
            refine sr_ ?_
            refine os_ mv_ ?_
            refine os_ (fa_ 0) ?_
            refine os_ (lb_ 0) ?_
            refine OD.callP (wants_plain rfl) rfl rfl rfl Tryz.call55 (pops_vp l[i].k) ⟨ot, trivial⟩ ?_
            refine os_ bn_ ?_
            refine OD.wk (Wk.as_ (n := 73) (l' := [(3, _), (5, _), (11, _), (12, _), (13, _), (63, _)]) (S' := [⟨b5, 35, 5, [_, _, _, _, _]⟩]) rfl rfl ⟨lk, lk, lk, lk, lk, lk, trivial⟩) ?_
            refine OD.nil ?_
            refine CD.cond ot (fun hc7 => ?_) (fun hc7 => ?_)
            ·have hc7' := hc7
             (try simp only [V.cnd, ne_eq] at hc7')
             have hsh : h < popsF l[i].k := by simpa using hc7
             have herr : opErr h l[i] = 7 := by unfold opErr; rw [if_neg hk1, if_neg (by rw [hlit]; simp), if_neg hform, if_neg hnn, if_pos hsh]
             refine sr_ ?_
             refine os_ mv_ ?_
             refine nm_ [2] ?_
             refine CD.ret ?_
             refine r1_ ?_
             refine ⟨vi ?_, rfl⟩
             first | exact hf.symm | (rw [hf, hx, exprL_no hlt herr (by first | assumption | decide)]; done) | (rw [hf, hend, if_pos (by simpa using hc8)]; done) | (rw [hf, hend, if_neg (by simpa using hc8)]; done)
            ·have hc7' := hc7
             (try simp only [V.cnd, ne_eq] at hc7')
             have hsh : ¬ h < popsF l[i].k := by simpa using hc7
             have hok : opErr h l[i] = 0 := by unfold opErr; rw [if_neg hk1, if_neg (by rw [hlit]; simp), if_neg hform, if_neg hnn, if_neg hsh]
             refine CD.skip ?_
             refine CD.region ?_
             refine os_ mv_ ?_
             refine os_ (fa_ 0) ?_
             refine os_ (lb_ 0) ?_
             refine OD.callP (wants_plain rfl) rfl rfl rfl Tryz.call55 (pops_vp l[i].k) ⟨ot, trivial⟩ ?_
             refine os_ bn_ ?_
             refine os_ bn_ ?_
             refine os_ mv_ ?_
             refine OD.wk (Wk.as_ (n := 73) (l' := [(3, _), (11, _), (12, _), (13, _)]) (S' := [⟨b5, 35, 5, [_, _, _, _, _]⟩]) rfl rfl ⟨lk, lk, lk, lk, trivial⟩) ?_
             refine OD.nil ?_
             refine CD.region ?_
             refine os_ bn_ ?_
             refine os_ mv_ ?_
             refine nm_ [3, 11, 12, 13] ?_
             refine ⟨((i + 1), (h + (1 - popsF l[i].k))), ⟨73, [(3, .v (.int .i64 ((h + (1 - popsF l[i].k))))), (11, .list 5 (l.flatMap cO) l.length), (12, .v (.int .i64 l.length)), (13, .v (.int .i64 (((i + 1)) : Nat)))], []⟩, ?_, Wk.asS (n := 73) rfl (by repeat (first | exact List.Sublist.refl _ | apply List.Sublist.cons)) ⟨(by (repeat (first | exact look_hit | (apply look_at; focus (first | rfl | (simp; done) | (congr 2; omega))) | (apply look_miss; focus rfl))); done), (by (repeat (first | exact look_hit | (apply look_at; focus (first | rfl | (simp; done) | (congr 2; omega))) | (apply look_miss; focus rfl))); done), (by (repeat (first | exact look_hit | (apply look_at; focus (first | rfl | (simp; done) | (congr 2; omega))) | (apply look_miss; focus rfl))); done), (by (repeat (first | exact look_hit | (apply look_at; focus (first | rfl | (simp; done) | (congr 2; omega))) | (apply look_miss; focus rfl))); done), trivial⟩, (by omega), (by rw [hx]; exact exprL_ok hlt hok), (by omega), (by have := pops_bd l[i].k; omega), rfl⟩
             first | omega | (simp only []; omega)
          ·have hc5' := hc5
           (try simp only [V.cnd, ne_eq] at hc5')
           have hnn : ¬ (l[i].k = 2 ∧ nameF l[i].nm ≠ 0) := by simp at hc5; simp [hc5]
           refine CD.skip ?_
           refine CD.seq ?_
           refine sr_ ?_
           refine os_ mv_ ?_
           refine os_ (fa_ 0) ?_
           refine os_ (lb_ 0) ?_
           refine OD.callP (wants_plain rfl) rfl rfl rfl Tryz.call55 (pops_vp l[i].k) ⟨ot, trivial⟩ ?_
           refine os_ bn_ ?_
           refine OD.wk (Wk.as_ (n := 73) (l' := [(3, _), (5, _), (11, _), (12, _), (13, _), (63, _)]) (S' := [⟨b5, 35, 5, [_, _, _, _, _]⟩]) rfl rfl ⟨lk, lk, lk, lk, lk, lk, trivial⟩) ?_
           refine OD.nil ?_
           refine CD.cond ot (fun hc7 => ?_) (fun hc7 => ?_)
           ·have hc7' := hc7
            (try simp only [V.cnd, ne_eq] at hc7')
            have hsh : h < popsF l[i].k := by simpa using hc7
            have herr : opErr h l[i] = 7 := by unfold opErr; rw [if_neg hk1, if_neg (by rw [hlit]; simp), if_neg hform, if_neg hnn, if_pos hsh]
            refine sr_ ?_
            refine os_ mv_ ?_
            refine nm_ [2] ?_
            refine CD.ret ?_
            refine r1_ ?_
            refine ⟨vi ?_, rfl⟩
            first | exact hf.symm | (rw [hf, hx, exprL_no hlt herr (by first | assumption | decide)]; done) | (rw [hf, hend, if_pos (by simpa using hc8)]; done) | (rw [hf, hend, if_neg (by simpa using hc8)]; done)
           ·have hc7' := hc7
            (try simp only [V.cnd, ne_eq] at hc7')
            have hsh : ¬ h < popsF l[i].k := by simpa using hc7
            have hok : opErr h l[i] = 0 := by unfold opErr; rw [if_neg hk1, if_neg (by rw [hlit]; simp), if_neg hform, if_neg hnn, if_neg hsh]
            refine CD.skip ?_
            refine CD.region ?_
            refine os_ mv_ ?_
            refine os_ (fa_ 0) ?_
            refine os_ (lb_ 0) ?_
            refine OD.callP (wants_plain rfl) rfl rfl rfl Tryz.call55 (pops_vp l[i].k) ⟨ot, trivial⟩ ?_
            refine os_ bn_ ?_
            refine os_ bn_ ?_
            refine os_ mv_ ?_
            refine OD.wk (Wk.as_ (n := 73) (l' := [(3, _), (11, _), (12, _), (13, _)]) (S' := [⟨b5, 35, 5, [_, _, _, _, _]⟩]) rfl rfl ⟨lk, lk, lk, lk, trivial⟩) ?_
            refine OD.nil ?_
            refine CD.region ?_
            refine os_ bn_ ?_
            refine os_ mv_ ?_
            refine nm_ [3, 11, 12, 13] ?_
            refine ⟨((i + 1), (h + (1 - popsF l[i].k))), ⟨73, [(3, .v (.int .i64 ((h + (1 - popsF l[i].k))))), (11, .list 5 (l.flatMap cO) l.length), (12, .v (.int .i64 l.length)), (13, .v (.int .i64 (((i + 1)) : Nat)))], []⟩, ?_, Wk.asS (n := 73) rfl (by repeat (first | exact List.Sublist.refl _ | apply List.Sublist.cons)) ⟨(by (repeat (first | exact look_hit | (apply look_at; focus (first | rfl | (simp; done) | (congr 2; omega))) | (apply look_miss; focus rfl))); done), (by (repeat (first | exact look_hit | (apply look_at; focus (first | rfl | (simp; done) | (congr 2; omega))) | (apply look_miss; focus rfl))); done), (by (repeat (first | exact look_hit | (apply look_at; focus (first | rfl | (simp; done) | (congr 2; omega))) | (apply look_miss; focus rfl))); done), (by (repeat (first | exact look_hit | (apply look_at; focus (first | rfl | (simp; done) | (congr 2; omega))) | (apply look_miss; focus rfl))); done), trivial⟩, (by omega), (by rw [hx]; exact exprL_ok hlt hok), (by omega), (by have := pops_bd l[i].k; omega), rfl⟩
            first | omega | (simp only []; omega)
        ·have hg44' := hg44; (try simp only [V.cnd, ne_eq] at hg44')
         refine sk_ ?_
         refine sk_ ?_
         refine sk_ ?_
         refine os_ pkF_ ?_
         refine os_ pkF_ ?_
         refine OD.wk (Wk.as_ (n := 73) (l' := [(3, _), (5, _), (11, _), (12, _), (13, _), (49, _)]) (S' := [⟨b5, 35, 5, [_, _, _, _, _]⟩]) rfl rfl ⟨lk, lk, lk, lk, lk, lk, trivial⟩) ?_
         refine OD.nil ?_
         refine CD.condF ot (by first | rfl | assumption) ?_
         have hform : ¬ ((l[i].k != 1 && !(zeroV l[i].v)) || (l[i].k != 2 && !(l[i].nm.toList == (⟨#[]⟩ : ByteArray).toList))) = true := by unfold zeroV; simp_all
         refine CD.skip ?_
         refine CD.seq ?_
         refine sr_ ?_
         refine os_ (fa_ 0) ?_
         refine os_ (lb_ 0) ?_
         refine os_ bn_ ?_
         refine nm_ [3, 5, 11, 12, 13, 52] ?_
         refine CD.cond ot (fun hc5 => ?_) (fun hc5 => ?_)
         ·have hc5' := hc5
          (try simp only [V.cnd, ne_eq] at hc5')
          refine sr_ ?_
          refine os_ (fa_ 4) ?_
          refine os_ (lb_ 0) ?_
          refine OD.callP (wants_plain rfl) rfl rfl rfl Tryz.call54 (name_vp hm hw l[i].nm (hs _ (List.getElem_mem hlt))) ⟨ot, trivial⟩ ?_
          refine os_ mv_ ?_
          refine OD.wk (Wk.as_ (n := 73) (l' := [(3, _), (5, _), (7, _), (11, _), (12, _), (13, _)]) (S' := [⟨b5, 35, 5, [_, _, _, _, _]⟩]) rfl rfl ⟨lk, lk, lk, lk, lk, lk, trivial⟩) ?_
          refine OD.nil ?_
          refine sr_ ?_
          refine os_ mv_ ?_
          refine os_ bn_ ?_
          refine nm_ [3, 5, 7, 11, 12, 13, 57] ?_
          refine CD.cond ot (fun hc6 => ?_) (fun hc6 => ?_)
          ·have hc6' := hc6
           (try simp only [V.cnd, ne_eq] at hc6')
           have hnm : nameF l[i].nm ≠ 0 := by simpa using hc6
           have herr : opErr h l[i] = nameF l[i].nm := by unfold opErr; rw [if_neg hk1, if_neg (by rw [hlit]; simp), if_neg hform, if_pos ⟨by simpa using hc5, hnm⟩]
           refine sr_ ?_
           refine os_ mv_ ?_
           refine os_ mv_ ?_
           refine nm_ [2] ?_
           refine CD.ret ?_
           refine r1_ ?_
           refine ⟨vi ?_, rfl⟩
           first | exact hf.symm | (rw [hf, hx, exprL_no hlt herr (by first | assumption | decide)]; done) | (rw [hf, hend, if_pos (by simpa using hc8)]; done) | (rw [hf, hend, if_neg (by simpa using hc8)]; done)
          ·have hc6' := hc6
           (try simp only [V.cnd, ne_eq] at hc6')
           have hnn : ¬ (l[i].k = 2 ∧ nameF l[i].nm ≠ 0) := by simp at hc6; simp [hc6]
           refine CD.skip ?_
           refine CD.seq ?_
           refine sr_ ?_
           refine os_ mv_ ?_
           refine os_ (fa_ 0) ?_
           refine os_ (lb_ 0) ?_
           refine OD.callP (wants_plain rfl) rfl rfl rfl Tryz.call55 (pops_vp l[i].k) ⟨ot, trivial⟩ ?_
           refine os_ bn_ ?_
           refine OD.wk (Wk.as_ (n := 73) (l' := [(3, _), (5, _), (11, _), (12, _), (13, _), (63, _)]) (S' := [⟨b5, 35, 5, [_, _, _, _, _]⟩]) rfl rfl ⟨lk, lk, lk, lk, lk, lk, trivial⟩) ?_
           refine OD.nil ?_
           refine CD.cond ot (fun hc7 => ?_) (fun hc7 => ?_)
           ·have hc7' := hc7
            (try simp only [V.cnd, ne_eq] at hc7')
            have hsh : h < popsF l[i].k := by simpa using hc7
            have herr : opErr h l[i] = 7 := by unfold opErr; rw [if_neg hk1, if_neg (by rw [hlit]; simp), if_neg hform, if_neg hnn, if_pos hsh]
            refine sr_ ?_
            refine os_ mv_ ?_
            refine nm_ [2] ?_
            refine CD.ret ?_
            refine r1_ ?_
            refine ⟨vi ?_, rfl⟩
            first | exact hf.symm | (rw [hf, hx, exprL_no hlt herr (by first | assumption | decide)]; done) | (rw [hf, hend, if_pos (by simpa using hc8)]; done) | (rw [hf, hend, if_neg (by simpa using hc8)]; done)
           ·have hc7' := hc7
            (try simp only [V.cnd, ne_eq] at hc7')
            have hsh : ¬ h < popsF l[i].k := by simpa using hc7
            have hok : opErr h l[i] = 0 := by unfold opErr; rw [if_neg hk1, if_neg (by rw [hlit]; simp), if_neg hform, if_neg hnn, if_neg hsh]
            refine CD.skip ?_
            refine CD.region ?_
            refine os_ mv_ ?_
            refine os_ (fa_ 0) ?_
            refine os_ (lb_ 0) ?_
            refine OD.callP (wants_plain rfl) rfl rfl rfl Tryz.call55 (pops_vp l[i].k) ⟨ot, trivial⟩ ?_
            refine os_ bn_ ?_
            refine os_ bn_ ?_
            refine os_ mv_ ?_
            refine OD.wk (Wk.as_ (n := 73) (l' := [(3, _), (11, _), (12, _), (13, _)]) (S' := [⟨b5, 35, 5, [_, _, _, _, _]⟩]) rfl rfl ⟨lk, lk, lk, lk, trivial⟩) ?_
            refine OD.nil ?_
            refine CD.region ?_
            refine os_ bn_ ?_
            refine os_ mv_ ?_
            refine nm_ [3, 11, 12, 13] ?_
            refine ⟨((i + 1), (h + (1 - popsF l[i].k))), ⟨73, [(3, .v (.int .i64 ((h + (1 - popsF l[i].k))))), (11, .list 5 (l.flatMap cO) l.length), (12, .v (.int .i64 l.length)), (13, .v (.int .i64 (((i + 1)) : Nat)))], []⟩, ?_, Wk.asS (n := 73) rfl (by repeat (first | exact List.Sublist.refl _ | apply List.Sublist.cons)) ⟨(by (repeat (first | exact look_hit | (apply look_at; focus (first | rfl | (simp; done) | (congr 2; omega))) | (apply look_miss; focus rfl))); done), (by (repeat (first | exact look_hit | (apply look_at; focus (first | rfl | (simp; done) | (congr 2; omega))) | (apply look_miss; focus rfl))); done), (by (repeat (first | exact look_hit | (apply look_at; focus (first | rfl | (simp; done) | (congr 2; omega))) | (apply look_miss; focus rfl))); done), (by (repeat (first | exact look_hit | (apply look_at; focus (first | rfl | (simp; done) | (congr 2; omega))) | (apply look_miss; focus rfl))); done), trivial⟩, (by omega), (by rw [hx]; exact exprL_ok hlt hok), (by omega), (by have := pops_bd l[i].k; omega), rfl⟩
            first | omega | (simp only []; omega)
         ·have hc5' := hc5
          (try simp only [V.cnd, ne_eq] at hc5')
          have hnn : ¬ (l[i].k = 2 ∧ nameF l[i].nm ≠ 0) := by simp at hc5; simp [hc5]
          refine CD.skip ?_
          refine CD.seq ?_
          refine sr_ ?_
          refine os_ mv_ ?_
          refine os_ (fa_ 0) ?_
          refine os_ (lb_ 0) ?_
          refine OD.callP (wants_plain rfl) rfl rfl rfl Tryz.call55 (pops_vp l[i].k) ⟨ot, trivial⟩ ?_
          refine os_ bn_ ?_
          refine OD.wk (Wk.as_ (n := 73) (l' := [(3, _), (5, _), (11, _), (12, _), (13, _), (63, _)]) (S' := [⟨b5, 35, 5, [_, _, _, _, _]⟩]) rfl rfl ⟨lk, lk, lk, lk, lk, lk, trivial⟩) ?_
          refine OD.nil ?_
          refine CD.cond ot (fun hc7 => ?_) (fun hc7 => ?_)
          ·have hc7' := hc7
           (try simp only [V.cnd, ne_eq] at hc7')
           have hsh : h < popsF l[i].k := by simpa using hc7
           have herr : opErr h l[i] = 7 := by unfold opErr; rw [if_neg hk1, if_neg (by rw [hlit]; simp), if_neg hform, if_neg hnn, if_pos hsh]
           refine sr_ ?_
           refine os_ mv_ ?_
           refine nm_ [2] ?_
           refine CD.ret ?_
           refine r1_ ?_
           refine ⟨vi ?_, rfl⟩
           first | exact hf.symm | (rw [hf, hx, exprL_no hlt herr (by first | assumption | decide)]; done) | (rw [hf, hend, if_pos (by simpa using hc8)]; done) | (rw [hf, hend, if_neg (by simpa using hc8)]; done)
          ·have hc7' := hc7
           (try simp only [V.cnd, ne_eq] at hc7')
           have hsh : ¬ h < popsF l[i].k := by simpa using hc7
           have hok : opErr h l[i] = 0 := by unfold opErr; rw [if_neg hk1, if_neg (by rw [hlit]; simp), if_neg hform, if_neg hnn, if_neg hsh]
           refine CD.skip ?_
           refine CD.region ?_
           refine os_ mv_ ?_
           refine os_ (fa_ 0) ?_
           refine os_ (lb_ 0) ?_
           refine OD.callP (wants_plain rfl) rfl rfl rfl Tryz.call55 (pops_vp l[i].k) ⟨ot, trivial⟩ ?_
           refine os_ bn_ ?_
           refine os_ bn_ ?_
           refine os_ mv_ ?_
           refine OD.wk (Wk.as_ (n := 73) (l' := [(3, _), (11, _), (12, _), (13, _)]) (S' := [⟨b5, 35, 5, [_, _, _, _, _]⟩]) rfl rfl ⟨lk, lk, lk, lk, trivial⟩) ?_
           refine OD.nil ?_
           refine CD.region ?_
           refine os_ bn_ ?_
           refine os_ mv_ ?_
           refine nm_ [3, 11, 12, 13] ?_
           refine ⟨((i + 1), (h + (1 - popsF l[i].k))), ⟨73, [(3, .v (.int .i64 ((h + (1 - popsF l[i].k))))), (11, .list 5 (l.flatMap cO) l.length), (12, .v (.int .i64 l.length)), (13, .v (.int .i64 (((i + 1)) : Nat)))], []⟩, ?_, Wk.asS (n := 73) rfl (by repeat (first | exact List.Sublist.refl _ | apply List.Sublist.cons)) ⟨(by (repeat (first | exact look_hit | (apply look_at; focus (first | rfl | (simp; done) | (congr 2; omega))) | (apply look_miss; focus rfl))); done), (by (repeat (first | exact look_hit | (apply look_at; focus (first | rfl | (simp; done) | (congr 2; omega))) | (apply look_miss; focus rfl))); done), (by (repeat (first | exact look_hit | (apply look_at; focus (first | rfl | (simp; done) | (congr 2; omega))) | (apply look_miss; focus rfl))); done), (by (repeat (first | exact look_hit | (apply look_at; focus (first | rfl | (simp; done) | (congr 2; omega))) | (apply look_miss; focus rfl))); done), trivial⟩, (by omega), (by rw [hx]; exact exprL_ok hlt hok), (by omega), (by have := pops_bd l[i].k; omega), rfl⟩
           first | omega | (simp only []; omega)
      ·have hg34' := hg34; (try simp only [V.cnd, ne_eq] at hg34')
       refine sk_ ?_
       refine sk_ ?_
       refine sk_ ?_
       refine sk_ ?_
       refine os_ pkF_ ?_
       refine os_ mv_ ?_
       refine os_ (fa_ 0) ?_
       refine os_ (lb_ 0) ?_
       refine os_ bn_ ?_
       refine os_ mv_ ?_
       refine OD.split (t := 44) lk (fun hg44 => ?_) (fun hg44 => ?_)
       ·have hg44' := hg44; (try simp only [V.cnd, ne_eq] at hg44')
        refine os_ (fa_ 4) ?_
        refine os_ (lb_ 0) ?_
        refine os_ bn_ ?_
        refine os_ pkT_ ?_
        refine os_ pkF_ ?_
        refine nm_ [3, 5, 11, 12, 13, 49] ?_
        refine CD.cond ot (fun hc4 => ?_) (fun hc4 => ?_)
        ·have hc4' := hc4
         (try simp only [V.cnd, ne_eq] at hc4')
         have herr : opErr h l[i] = 6 := by unfold opErr zeroV; rw [if_neg hk1, if_neg (by rw [hlit]; simp), if_pos (by simp_all)]
         refine sr_ ?_
         refine os_ mv_ ?_
         refine nm_ [2] ?_
         refine CD.ret ?_
         refine r1_ ?_
         refine ⟨vi ?_, rfl⟩
         first | exact hf.symm | (rw [hf, hx, exprL_no hlt herr (by first | assumption | decide)]; done) | (rw [hf, hend, if_pos (by simpa using hc8)]; done) | (rw [hf, hend, if_neg (by simpa using hc8)]; done)
        ·have hc4' := hc4
         (try simp only [V.cnd, ne_eq] at hc4')
         have hform : ¬ ((l[i].k != 1 && !(zeroV l[i].v)) || (l[i].k != 2 && !(l[i].nm.toList == (⟨#[]⟩ : ByteArray).toList))) = true := by unfold zeroV; simp_all
         refine CD.skip ?_
         refine CD.seq ?_
         refine sr_ ?_
         refine os_ (fa_ 0) ?_
         refine os_ (lb_ 0) ?_
         refine os_ bn_ ?_
         refine nm_ [3, 5, 11, 12, 13, 52] ?_
         refine CD.cond ot (fun hc5 => ?_) (fun hc5 => ?_)
         ·have hc5' := hc5
          (try simp only [V.cnd, ne_eq] at hc5')
          refine sr_ ?_
          refine os_ (fa_ 4) ?_
          refine os_ (lb_ 0) ?_
          refine OD.callP (wants_plain rfl) rfl rfl rfl Tryz.call54 (name_vp hm hw l[i].nm (hs _ (List.getElem_mem hlt))) ⟨ot, trivial⟩ ?_
          refine os_ mv_ ?_
          refine OD.wk (Wk.as_ (n := 73) (l' := [(3, _), (5, _), (7, _), (11, _), (12, _), (13, _)]) (S' := [⟨b5, 35, 5, [_, _, _, _, _]⟩]) rfl rfl ⟨lk, lk, lk, lk, lk, lk, trivial⟩) ?_
          refine OD.nil ?_
          refine sr_ ?_
          refine os_ mv_ ?_
          refine os_ bn_ ?_
          refine nm_ [3, 5, 7, 11, 12, 13, 57] ?_
          refine CD.cond ot (fun hc6 => ?_) (fun hc6 => ?_)
          ·have hc6' := hc6
           (try simp only [V.cnd, ne_eq] at hc6')
           have hnm : nameF l[i].nm ≠ 0 := by simpa using hc6
           have herr : opErr h l[i] = nameF l[i].nm := by unfold opErr; rw [if_neg hk1, if_neg (by rw [hlit]; simp), if_neg hform, if_pos ⟨by simpa using hc5, hnm⟩]
           refine sr_ ?_
           refine os_ mv_ ?_
           refine os_ mv_ ?_
           refine nm_ [2] ?_
           refine CD.ret ?_
           refine r1_ ?_
           refine ⟨vi ?_, rfl⟩
           first | exact hf.symm | (rw [hf, hx, exprL_no hlt herr (by first | assumption | decide)]; done) | (rw [hf, hend, if_pos (by simpa using hc8)]; done) | (rw [hf, hend, if_neg (by simpa using hc8)]; done)
          ·have hc6' := hc6
           (try simp only [V.cnd, ne_eq] at hc6')
           have hnn : ¬ (l[i].k = 2 ∧ nameF l[i].nm ≠ 0) := by simp at hc6; simp [hc6]
           refine CD.skip ?_
           refine CD.seq ?_
           refine sr_ ?_
           refine os_ mv_ ?_
           refine os_ (fa_ 0) ?_
           refine os_ (lb_ 0) ?_
           refine OD.callP (wants_plain rfl) rfl rfl rfl Tryz.call55 (pops_vp l[i].k) ⟨ot, trivial⟩ ?_
           refine os_ bn_ ?_
           refine OD.wk (Wk.as_ (n := 73) (l' := [(3, _), (5, _), (11, _), (12, _), (13, _), (63, _)]) (S' := [⟨b5, 35, 5, [_, _, _, _, _]⟩]) rfl rfl ⟨lk, lk, lk, lk, lk, lk, trivial⟩) ?_
           refine OD.nil ?_
           refine CD.cond ot (fun hc7 => ?_) (fun hc7 => ?_)
           ·have hc7' := hc7
            (try simp only [V.cnd, ne_eq] at hc7')
            have hsh : h < popsF l[i].k := by simpa using hc7
            have herr : opErr h l[i] = 7 := by unfold opErr; rw [if_neg hk1, if_neg (by rw [hlit]; simp), if_neg hform, if_neg hnn, if_pos hsh]
            refine sr_ ?_
            refine os_ mv_ ?_
            refine nm_ [2] ?_
            refine CD.ret ?_
            refine r1_ ?_
            refine ⟨vi ?_, rfl⟩
            first | exact hf.symm | (rw [hf, hx, exprL_no hlt herr (by first | assumption | decide)]; done) | (rw [hf, hend, if_pos (by simpa using hc8)]; done) | (rw [hf, hend, if_neg (by simpa using hc8)]; done)
           ·have hc7' := hc7
            (try simp only [V.cnd, ne_eq] at hc7')
            have hsh : ¬ h < popsF l[i].k := by simpa using hc7
            have hok : opErr h l[i] = 0 := by unfold opErr; rw [if_neg hk1, if_neg (by rw [hlit]; simp), if_neg hform, if_neg hnn, if_neg hsh]
            refine CD.skip ?_
            refine CD.region ?_
            refine os_ mv_ ?_
            refine os_ (fa_ 0) ?_
            refine os_ (lb_ 0) ?_
            refine OD.callP (wants_plain rfl) rfl rfl rfl Tryz.call55 (pops_vp l[i].k) ⟨ot, trivial⟩ ?_
            refine os_ bn_ ?_
            refine os_ bn_ ?_
            refine os_ mv_ ?_
            refine OD.wk (Wk.as_ (n := 73) (l' := [(3, _), (11, _), (12, _), (13, _)]) (S' := [⟨b5, 35, 5, [_, _, _, _, _]⟩]) rfl rfl ⟨lk, lk, lk, lk, trivial⟩) ?_
            refine OD.nil ?_
            refine CD.region ?_
            refine os_ bn_ ?_
            refine os_ mv_ ?_
            refine nm_ [3, 11, 12, 13] ?_
            refine ⟨((i + 1), (h + (1 - popsF l[i].k))), ⟨73, [(3, .v (.int .i64 ((h + (1 - popsF l[i].k))))), (11, .list 5 (l.flatMap cO) l.length), (12, .v (.int .i64 l.length)), (13, .v (.int .i64 (((i + 1)) : Nat)))], []⟩, ?_, Wk.asS (n := 73) rfl (by repeat (first | exact List.Sublist.refl _ | apply List.Sublist.cons)) ⟨(by (repeat (first | exact look_hit | (apply look_at; focus (first | rfl | (simp; done) | (congr 2; omega))) | (apply look_miss; focus rfl))); done), (by (repeat (first | exact look_hit | (apply look_at; focus (first | rfl | (simp; done) | (congr 2; omega))) | (apply look_miss; focus rfl))); done), (by (repeat (first | exact look_hit | (apply look_at; focus (first | rfl | (simp; done) | (congr 2; omega))) | (apply look_miss; focus rfl))); done), (by (repeat (first | exact look_hit | (apply look_at; focus (first | rfl | (simp; done) | (congr 2; omega))) | (apply look_miss; focus rfl))); done), trivial⟩, (by omega), (by rw [hx]; exact exprL_ok hlt hok), (by omega), (by have := pops_bd l[i].k; omega), rfl⟩
            first | omega | (simp only []; omega)
         ·have hc5' := hc5
          (try simp only [V.cnd, ne_eq] at hc5')
          have hnn : ¬ (l[i].k = 2 ∧ nameF l[i].nm ≠ 0) := by simp at hc5; simp [hc5]
          refine CD.skip ?_
          refine CD.seq ?_
          refine sr_ ?_
          refine os_ mv_ ?_
          refine os_ (fa_ 0) ?_
          refine os_ (lb_ 0) ?_
          refine OD.callP (wants_plain rfl) rfl rfl rfl Tryz.call55 (pops_vp l[i].k) ⟨ot, trivial⟩ ?_
          refine os_ bn_ ?_
          refine OD.wk (Wk.as_ (n := 73) (l' := [(3, _), (5, _), (11, _), (12, _), (13, _), (63, _)]) (S' := [⟨b5, 35, 5, [_, _, _, _, _]⟩]) rfl rfl ⟨lk, lk, lk, lk, lk, lk, trivial⟩) ?_
          refine OD.nil ?_
          refine CD.cond ot (fun hc7 => ?_) (fun hc7 => ?_)
          ·have hc7' := hc7
           (try simp only [V.cnd, ne_eq] at hc7')
           have hsh : h < popsF l[i].k := by simpa using hc7
           have herr : opErr h l[i] = 7 := by unfold opErr; rw [if_neg hk1, if_neg (by rw [hlit]; simp), if_neg hform, if_neg hnn, if_pos hsh]
           refine sr_ ?_
           refine os_ mv_ ?_
           refine nm_ [2] ?_
           refine CD.ret ?_
           refine r1_ ?_
           refine ⟨vi ?_, rfl⟩
           first | exact hf.symm | (rw [hf, hx, exprL_no hlt herr (by first | assumption | decide)]; done) | (rw [hf, hend, if_pos (by simpa using hc8)]; done) | (rw [hf, hend, if_neg (by simpa using hc8)]; done)
          ·have hc7' := hc7
           (try simp only [V.cnd, ne_eq] at hc7')
           have hsh : ¬ h < popsF l[i].k := by simpa using hc7
           have hok : opErr h l[i] = 0 := by unfold opErr; rw [if_neg hk1, if_neg (by rw [hlit]; simp), if_neg hform, if_neg hnn, if_neg hsh]
           refine CD.skip ?_
           refine CD.region ?_
           refine os_ mv_ ?_
           refine os_ (fa_ 0) ?_
           refine os_ (lb_ 0) ?_
           refine OD.callP (wants_plain rfl) rfl rfl rfl Tryz.call55 (pops_vp l[i].k) ⟨ot, trivial⟩ ?_
           refine os_ bn_ ?_
           refine os_ bn_ ?_
           refine os_ mv_ ?_
           refine OD.wk (Wk.as_ (n := 73) (l' := [(3, _), (11, _), (12, _), (13, _)]) (S' := [⟨b5, 35, 5, [_, _, _, _, _]⟩]) rfl rfl ⟨lk, lk, lk, lk, trivial⟩) ?_
           refine OD.nil ?_
           refine CD.region ?_
           refine os_ bn_ ?_
           refine os_ mv_ ?_
           refine nm_ [3, 11, 12, 13] ?_
           refine ⟨((i + 1), (h + (1 - popsF l[i].k))), ⟨73, [(3, .v (.int .i64 ((h + (1 - popsF l[i].k))))), (11, .list 5 (l.flatMap cO) l.length), (12, .v (.int .i64 l.length)), (13, .v (.int .i64 (((i + 1)) : Nat)))], []⟩, ?_, Wk.asS (n := 73) rfl (by repeat (first | exact List.Sublist.refl _ | apply List.Sublist.cons)) ⟨(by (repeat (first | exact look_hit | (apply look_at; focus (first | rfl | (simp; done) | (congr 2; omega))) | (apply look_miss; focus rfl))); done), (by (repeat (first | exact look_hit | (apply look_at; focus (first | rfl | (simp; done) | (congr 2; omega))) | (apply look_miss; focus rfl))); done), (by (repeat (first | exact look_hit | (apply look_at; focus (first | rfl | (simp; done) | (congr 2; omega))) | (apply look_miss; focus rfl))); done), (by (repeat (first | exact look_hit | (apply look_at; focus (first | rfl | (simp; done) | (congr 2; omega))) | (apply look_miss; focus rfl))); done), trivial⟩, (by omega), (by rw [hx]; exact exprL_ok hlt hok), (by omega), (by have := pops_bd l[i].k; omega), rfl⟩
           first | omega | (simp only []; omega)
       ·have hg44' := hg44; (try simp only [V.cnd, ne_eq] at hg44')
        refine sk_ ?_
        refine sk_ ?_
        refine sk_ ?_
        refine os_ pkF_ ?_
        refine os_ pkF_ ?_
        refine nm_ [3, 5, 11, 12, 13, 49] ?_
        refine CD.condF ot (by first | rfl | assumption) ?_
        have hform : ¬ ((l[i].k != 1 && !(zeroV l[i].v)) || (l[i].k != 2 && !(l[i].nm.toList == (⟨#[]⟩ : ByteArray).toList))) = true := by unfold zeroV; simp_all
        refine CD.skip ?_
        refine CD.seq ?_
        refine sr_ ?_
        refine os_ (fa_ 0) ?_
        refine os_ (lb_ 0) ?_
        refine os_ bn_ ?_
        refine nm_ [3, 5, 11, 12, 13, 52] ?_
        refine CD.cond ot (fun hc5 => ?_) (fun hc5 => ?_)
        ·have hc5' := hc5
         (try simp only [V.cnd, ne_eq] at hc5')
         refine sr_ ?_
         refine os_ (fa_ 4) ?_
         refine os_ (lb_ 0) ?_
         refine OD.callP (wants_plain rfl) rfl rfl rfl Tryz.call54 (name_vp hm hw l[i].nm (hs _ (List.getElem_mem hlt))) ⟨ot, trivial⟩ ?_
         refine os_ mv_ ?_
         refine OD.wk (Wk.as_ (n := 73) (l' := [(3, _), (5, _), (7, _), (11, _), (12, _), (13, _)]) (S' := [⟨b5, 35, 5, [_, _, _, _, _]⟩]) rfl rfl ⟨lk, lk, lk, lk, lk, lk, trivial⟩) ?_
         refine OD.nil ?_
         refine sr_ ?_
         refine os_ mv_ ?_
         refine os_ bn_ ?_
         refine nm_ [3, 5, 7, 11, 12, 13, 57] ?_
         refine CD.cond ot (fun hc6 => ?_) (fun hc6 => ?_)
         ·have hc6' := hc6
          (try simp only [V.cnd, ne_eq] at hc6')
          have hnm : nameF l[i].nm ≠ 0 := by simpa using hc6
          have herr : opErr h l[i] = nameF l[i].nm := by unfold opErr; rw [if_neg hk1, if_neg (by rw [hlit]; simp), if_neg hform, if_pos ⟨by simpa using hc5, hnm⟩]
          refine sr_ ?_
          refine os_ mv_ ?_
          refine os_ mv_ ?_
          refine nm_ [2] ?_
          refine CD.ret ?_
          refine r1_ ?_
          refine ⟨vi ?_, rfl⟩
          first | exact hf.symm | (rw [hf, hx, exprL_no hlt herr (by first | assumption | decide)]; done) | (rw [hf, hend, if_pos (by simpa using hc8)]; done) | (rw [hf, hend, if_neg (by simpa using hc8)]; done)
         ·have hc6' := hc6
          (try simp only [V.cnd, ne_eq] at hc6')
          have hnn : ¬ (l[i].k = 2 ∧ nameF l[i].nm ≠ 0) := by simp at hc6; simp [hc6]
          refine CD.skip ?_
          refine CD.seq ?_
          refine sr_ ?_
          refine os_ mv_ ?_
          refine os_ (fa_ 0) ?_
          refine os_ (lb_ 0) ?_
          refine OD.callP (wants_plain rfl) rfl rfl rfl Tryz.call55 (pops_vp l[i].k) ⟨ot, trivial⟩ ?_
          refine os_ bn_ ?_
          refine OD.wk (Wk.as_ (n := 73) (l' := [(3, _), (5, _), (11, _), (12, _), (13, _), (63, _)]) (S' := [⟨b5, 35, 5, [_, _, _, _, _]⟩]) rfl rfl ⟨lk, lk, lk, lk, lk, lk, trivial⟩) ?_
          refine OD.nil ?_
          refine CD.cond ot (fun hc7 => ?_) (fun hc7 => ?_)
          ·have hc7' := hc7
           (try simp only [V.cnd, ne_eq] at hc7')
           have hsh : h < popsF l[i].k := by simpa using hc7
           have herr : opErr h l[i] = 7 := by unfold opErr; rw [if_neg hk1, if_neg (by rw [hlit]; simp), if_neg hform, if_neg hnn, if_pos hsh]
           refine sr_ ?_
           refine os_ mv_ ?_
           refine nm_ [2] ?_
           refine CD.ret ?_
           refine r1_ ?_
           refine ⟨vi ?_, rfl⟩
           first | exact hf.symm | (rw [hf, hx, exprL_no hlt herr (by first | assumption | decide)]; done) | (rw [hf, hend, if_pos (by simpa using hc8)]; done) | (rw [hf, hend, if_neg (by simpa using hc8)]; done)
          ·have hc7' := hc7
           (try simp only [V.cnd, ne_eq] at hc7')
           have hsh : ¬ h < popsF l[i].k := by simpa using hc7
           have hok : opErr h l[i] = 0 := by unfold opErr; rw [if_neg hk1, if_neg (by rw [hlit]; simp), if_neg hform, if_neg hnn, if_neg hsh]
           refine CD.skip ?_
           refine CD.region ?_
           refine os_ mv_ ?_
           refine os_ (fa_ 0) ?_
           refine os_ (lb_ 0) ?_
           refine OD.callP (wants_plain rfl) rfl rfl rfl Tryz.call55 (pops_vp l[i].k) ⟨ot, trivial⟩ ?_
           refine os_ bn_ ?_
           refine os_ bn_ ?_
           refine os_ mv_ ?_
           refine OD.wk (Wk.as_ (n := 73) (l' := [(3, _), (11, _), (12, _), (13, _)]) (S' := [⟨b5, 35, 5, [_, _, _, _, _]⟩]) rfl rfl ⟨lk, lk, lk, lk, trivial⟩) ?_
           refine OD.nil ?_
           refine CD.region ?_
           refine os_ bn_ ?_
           refine os_ mv_ ?_
           refine nm_ [3, 11, 12, 13] ?_
           refine ⟨((i + 1), (h + (1 - popsF l[i].k))), ⟨73, [(3, .v (.int .i64 ((h + (1 - popsF l[i].k))))), (11, .list 5 (l.flatMap cO) l.length), (12, .v (.int .i64 l.length)), (13, .v (.int .i64 (((i + 1)) : Nat)))], []⟩, ?_, Wk.asS (n := 73) rfl (by repeat (first | exact List.Sublist.refl _ | apply List.Sublist.cons)) ⟨(by (repeat (first | exact look_hit | (apply look_at; focus (first | rfl | (simp; done) | (congr 2; omega))) | (apply look_miss; focus rfl))); done), (by (repeat (first | exact look_hit | (apply look_at; focus (first | rfl | (simp; done) | (congr 2; omega))) | (apply look_miss; focus rfl))); done), (by (repeat (first | exact look_hit | (apply look_at; focus (first | rfl | (simp; done) | (congr 2; omega))) | (apply look_miss; focus rfl))); done), (by (repeat (first | exact look_hit | (apply look_at; focus (first | rfl | (simp; done) | (congr 2; omega))) | (apply look_miss; focus rfl))); done), trivial⟩, (by omega), (by rw [hx]; exact exprL_ok hlt hok), (by omega), (by have := pops_bd l[i].k; omega), rfl⟩
           first | omega | (simp only []; omega)
        ·have hc5' := hc5
         (try simp only [V.cnd, ne_eq] at hc5')
         have hnn : ¬ (l[i].k = 2 ∧ nameF l[i].nm ≠ 0) := by simp at hc5; simp [hc5]
         refine CD.skip ?_
         refine CD.seq ?_
         refine sr_ ?_
         refine os_ mv_ ?_
         refine os_ (fa_ 0) ?_
         refine os_ (lb_ 0) ?_
         refine OD.callP (wants_plain rfl) rfl rfl rfl Tryz.call55 (pops_vp l[i].k) ⟨ot, trivial⟩ ?_
         refine os_ bn_ ?_
         refine OD.wk (Wk.as_ (n := 73) (l' := [(3, _), (5, _), (11, _), (12, _), (13, _), (63, _)]) (S' := [⟨b5, 35, 5, [_, _, _, _, _]⟩]) rfl rfl ⟨lk, lk, lk, lk, lk, lk, trivial⟩) ?_
         refine OD.nil ?_
         refine CD.cond ot (fun hc7 => ?_) (fun hc7 => ?_)
         ·have hc7' := hc7
          (try simp only [V.cnd, ne_eq] at hc7')
          have hsh : h < popsF l[i].k := by simpa using hc7
          have herr : opErr h l[i] = 7 := by unfold opErr; rw [if_neg hk1, if_neg (by rw [hlit]; simp), if_neg hform, if_neg hnn, if_pos hsh]
          refine sr_ ?_
          refine os_ mv_ ?_
          refine nm_ [2] ?_
          refine CD.ret ?_
          refine r1_ ?_
          refine ⟨vi ?_, rfl⟩
          first | exact hf.symm | (rw [hf, hx, exprL_no hlt herr (by first | assumption | decide)]; done) | (rw [hf, hend, if_pos (by simpa using hc8)]; done) | (rw [hf, hend, if_neg (by simpa using hc8)]; done)
         ·have hc7' := hc7
          (try simp only [V.cnd, ne_eq] at hc7')
          have hsh : ¬ h < popsF l[i].k := by simpa using hc7
          have hok : opErr h l[i] = 0 := by unfold opErr; rw [if_neg hk1, if_neg (by rw [hlit]; simp), if_neg hform, if_neg hnn, if_neg hsh]
          refine CD.skip ?_
          refine CD.region ?_
          refine os_ mv_ ?_
          refine os_ (fa_ 0) ?_
          refine os_ (lb_ 0) ?_
          refine OD.callP (wants_plain rfl) rfl rfl rfl Tryz.call55 (pops_vp l[i].k) ⟨ot, trivial⟩ ?_
          refine os_ bn_ ?_
          refine os_ bn_ ?_
          refine os_ mv_ ?_
          refine OD.wk (Wk.as_ (n := 73) (l' := [(3, _), (11, _), (12, _), (13, _)]) (S' := [⟨b5, 35, 5, [_, _, _, _, _]⟩]) rfl rfl ⟨lk, lk, lk, lk, trivial⟩) ?_
          refine OD.nil ?_
          refine CD.region ?_
          refine os_ bn_ ?_
          refine os_ mv_ ?_
          refine nm_ [3, 11, 12, 13] ?_
          refine ⟨((i + 1), (h + (1 - popsF l[i].k))), ⟨73, [(3, .v (.int .i64 ((h + (1 - popsF l[i].k))))), (11, .list 5 (l.flatMap cO) l.length), (12, .v (.int .i64 l.length)), (13, .v (.int .i64 (((i + 1)) : Nat)))], []⟩, ?_, Wk.asS (n := 73) rfl (by repeat (first | exact List.Sublist.refl _ | apply List.Sublist.cons)) ⟨(by (repeat (first | exact look_hit | (apply look_at; focus (first | rfl | (simp; done) | (congr 2; omega))) | (apply look_miss; focus rfl))); done), (by (repeat (first | exact look_hit | (apply look_at; focus (first | rfl | (simp; done) | (congr 2; omega))) | (apply look_miss; focus rfl))); done), (by (repeat (first | exact look_hit | (apply look_at; focus (first | rfl | (simp; done) | (congr 2; omega))) | (apply look_miss; focus rfl))); done), (by (repeat (first | exact look_hit | (apply look_at; focus (first | rfl | (simp; done) | (congr 2; omega))) | (apply look_miss; focus rfl))); done), trivial⟩, (by omega), (by rw [hx]; exact exprL_ok hlt hok), (by omega), (by have := pops_bd l[i].k; omega), rfl⟩
          first | omega | (simp only []; omega)
  ·have hc1' := hc1
   (try simp only [V.cnd, ne_eq] at hc1')
   have hend := hx.trans (exprL_end (show l.length ≤ i by omega))
   refine CD.exit ?_
   refine CD.seq ?_
   refine sr_ ?_
   refine os_ mv_ ?_
   refine os_ bn_ ?_
   refine nm_ [72] ?_
   refine CD.cond ot (fun hc8 => ?_) (fun hc8 => ?_)
   ·have hc8' := hc8
    (try simp only [V.cnd, ne_eq] at hc8')
    refine sr_ ?_
    refine os_ mv_ ?_
    refine nm_ [2] ?_
    refine CD.ret ?_
    refine r1_ ?_
    refine ⟨vi ?_, rfl⟩
    first | exact hf.symm | (rw [hf, hx, exprL_no hlt herr (by first | assumption | decide)]; done) | (rw [hf, hend, if_pos (by simpa using hc8)]; done) | (rw [hf, hend, if_neg (by simpa using hc8)]; done)
   ·have hc8' := hc8
    (try simp only [V.cnd, ne_eq] at hc8')
    refine CD.skip ?_
    refine sr_ ?_
    refine os_ mv_ ?_
    refine nm_ [2] ?_
    refine CD.ret ?_
    refine r1_ ?_
    refine ⟨vi ?_, rfl⟩
    first | exact hf.symm | (rw [hf, hx, exprL_no hlt herr (by first | assumption | decide)]; done) | (rw [hf, hend, if_pos (by simpa using hc8)]; done) | (rw [hf, hend, if_neg (by simpa using hc8)]; done)

end Go.Proofs.YtfooincnmobemaaGreatDoor.Nm

namespace Go.Proofs.YtfooincnmobemaaGreatDoor.Nm
open Go.RowKit V Pk Vl
set_option linter.unusedVariables false
set_option linter.unusedSimpArgs false

inductive Tw where
 | mk (k n : Int) (s : ByteArray) (ts : List Tw)
mutual
def Tw.cs : Tw → List D
 | .mk k n s ts => [.v (.int .i64 k), .v (.int .i64 n), .v (.string s), .list 4 (Tw.css ts) ts.length]
def Tw.css : List Tw → List D
 | [] => []
 | t :: r => t.cs ++ Tw.css r
end
theorem Tw.css_eq : ∀ ts : List Tw, Tw.css ts = ts.flatMap Tw.cs
 | [] => rfl
 | t :: r => by rw [Tw.css, Tw.css_eq r, List.flatMap_cons]
theorem Tw.cs_len (t : Tw) : t.cs.length = 4 := by cases t; rfl
mutual
def Tw.Ok : Tw → Prop
 | .mk k n s ts => (-9223372036854775808 ≤ k ∧ k ≤ 9223372036854775807) ∧ (-9223372036854775808 ≤ n ∧ n ≤ 9223372036854775807) ∧ s.size ≤ maxLen ∧ ts.length ≤ maxLen ∧ Tw.Oks ts
def Tw.Oks : List Tw → Prop
 | [] => True
 | t :: r => t.Ok ∧ Tw.Oks r
end
theorem Tw.oks_all : ∀ {ts : List Tw}, Tw.Oks ts → ∀ t ∈ ts, t.Ok
 | [], _, t, h => by cases h
 | a :: r, ⟨h1, h2⟩, t, h => by
  rcases List.mem_cons.1 h with rfl | h
  ·exact h1
  ·exact Tw.oks_all h2 t h
theorem Tw.all_oks : ∀ {ts : List Tw}, (∀ t ∈ ts, t.Ok) → Tw.Oks ts
 | [], _ => trivial
 | a :: r, h => ⟨h a List.mem_cons_self, Tw.all_oks fun t ht => h t (List.mem_cons_of_mem _ ht)⟩

def nameC (j : Int) : ByteArray := if j = 0 then ⟨#[105, 100]⟩ else if j = 1 then ⟨#[110]⟩ else if j = 2 then ⟨#[115]⟩ else ⟨#[98]⟩
def litV (n : Int) (s : ByteArray) : Vl := { valueF ⟨n, pickedF n 40 - 20, s⟩ with s := cutF (valueF ⟨n, pickedF n 40 - 20, s⟩).s 4 }
def litOp (n : Int) (s : ByteArray) : OpL := ⟨1, litV n s, ⟨#[]⟩⟩
def colOp (n : Int) : OpL := ⟨2, noVl, nameC (pickedF n 4)⟩
def bareOp (k : Int) : OpL := ⟨k, noVl, ⟨#[]⟩⟩
def leafOps (k n : Int) (s : ByteArray) : List OpL := if 1 + pickedF k 11 = 2 then [colOp n] else [litOp n s]
def opsAt : Nat → Tw → List OpL
 | 0, .mk k n s _ => leafOps k n s
 | r + 1, .mk k n s ts =>
  if 1 + pickedF k 11 = 1 then [litOp n s]
  else if 1 + pickedF k 11 = 2 then [colOp n]
  else if 1 + pickedF k 11 = 5 ∨ 1 + pickedF k 11 = 11 then (match ts[0]? with | some t => opsAt r t | none => leafOps n 0 s) ++ [bareOp (1 + pickedF k 11)]
  else ((match ts[0]? with | some t => opsAt r t | none => leafOps n 0 s) ++ (match ts[1]? with | some t => opsAt r t | none => leafOps n 1 s)) ++ [bareOp (1 + pickedF k 11)]
def subO (r : Nat) (ts : List Tw) (n : Int) (s : ByteArray) (i : Nat) : List OpL := match ts[i]? with | some t => opsAt r t | none => leafOps n i s
theorem leaf_len (k n : Int) (s : ByteArray) : (leafOps k n s).length = 1 := by unfold leafOps; split <;> rfl
theorem ops_len : ∀ (r : Nat) (t : Tw), 1 ≤ (opsAt r t).length ∧ (opsAt r t).length + 1 ≤ 2 ^ (r + 1)
 | 0, .mk k n s ts => by rw [opsAt, leaf_len]; exact ⟨by decide, by decide⟩
 | r + 1, .mk k n s ts => by
  have hsub : ∀ i : Nat, 1 ≤ (subO r ts n s i).length ∧ (subO r ts n s i).length + 1 ≤ 2 ^ (r + 1) := fun i => by
   unfold subO
   split
   ·exact ops_len r _
   ·rw [leaf_len]; exact ⟨by decide, by rw [Nat.pow_succ]; have := Nat.one_le_two_pow (n := r); omega⟩
  have h0 := hsub 0
  have h1 := hsub 1
  unfold subO at h0 h1
  have hp : 2 ^ (r + 1 + 1) = 2 ^ (r + 1) + 2 ^ (r + 1) := by rw [Nat.pow_succ]; omega
  rw [opsAt]
  simp only [Int.natCast_zero, Int.natCast_one] at h0 h1
  split
  ·exact ⟨by simp, by simp; omega⟩
  ·split
   ·exact ⟨by simp, by simp; omega⟩
   ·split <;> simp only [List.length_append, List.length_cons, List.length_nil] <;> omega
theorem sub_len (r : Nat) (ts : List Tw) (n : Int) (s : ByteArray) (i : Nat) : 1 ≤ (subO r ts n s i).length ∧ (subO r ts n s i).length + 1 ≤ 2 ^ (r + 1) := by
 unfold subO
 split
 ·exact ops_len r _
 ·rw [leaf_len]; exact ⟨by decide, by rw [Nat.pow_succ]; have := Nat.one_le_two_pow (n := r); omega⟩
theorem value_size (r : Vl) : (valueF r).s.size ≤ 10 := by
 unfold valueF noVl
 split
 ·exact Nat.zero_le _
 ·split
  ·exact Nat.zero_le _
  ·split
   ·show (cutF r.s 10).size ≤ 10
    rw [cutF_size]; omega
   ·decide
theorem name_at {j : Nat} (h : j < 4) : [D.v (.string ⟨#[105, 100]⟩), D.v (.string ⟨#[110]⟩), D.v (.string ⟨#[115]⟩), D.v (.string ⟨#[98]⟩)][j * 1]? = some (.v (.string (nameC (j : Int)))) := by
 match j, h with
 | 0, _ | 1, _ | 2, _ | 3, _ => rfl
variable {G : List (Nat × List Value)}
abbrev RetO (ls : List OpL) (r : D) (S : List Blk) : Prop := RetL cO 35 5 ls r S

theorem places35_Nm4 : ∀ w, ((#[{ name := "Kind", type := 3, offset := 0, embedded := false, tag := "", pkgPath := "", byteOffset := 0 }, { name := "Value", type := 26, offset := 1, embedded := false, tag := "", pkgPath := "", byteOffset := 8 }, { name := "Name", type := 9, offset := 4, embedded := false, tag := "", pkgPath := "", byteOffset := 40 }] : Array Field).mapM fun f => do pure (f.offset, ← sizeOf f.type) : Sem (Array (Nat × Nat))).run Tryz.prog w = .ok #[(0, 1), (1, 3), (4, 1)] w := fun w => by simp [Tryz.sizeOf26, Tryz.sizeOf3, Tryz.sizeOf9]

theorem places85_Nm4 : ∀ w, ((#[{ name := "Kind", type := 3, offset := 0, embedded := false, tag := "", pkgPath := "", byteOffset := 0 }, { name := "Int", type := 3, offset := 1, embedded := false, tag := "", pkgPath := "", byteOffset := 8 }, { name := "Text", type := 9, offset := 2, embedded := false, tag := "", pkgPath := "", byteOffset := 16 }] : Array Field).mapM fun f => do pure (f.offset, ← sizeOf f.type) : Sem (Array (Nat × Nat))).run Tryz.prog w = .ok #[(0, 1), (1, 1), (2, 1)] w := fun w => by simp [Tryz.sizeOf3, Tryz.sizeOf9]

set_option maxHeartbeats 4000000 in
set_option maxRecDepth 100000 in
theorem leaf_vc (k n d : Int) (s : ByteArray) (d4 : D) (h4 : solid d4 = true) (hk1 : -9223372036854775808 ≤ k) (hk2 : k ≤ 9223372036854775807) (hn1 : -9223372036854775808 ≤ n) (hn2 : n ≤ 9223372036854775807) (hs : s.size ≤ maxLen) (hd : 2 < d) : VC Tryz.prog G 22 [.agg [.v (.int .i64 k), .v (.int .i64 n), .v (.string s), d4], .v (.int .i64 d)] [] (RetO (leafOps k n s)) := by
 refine VC.body Tryz.func22 rfl Tryz.ntmps22 (Nat.le_of_ble_eq_true rfl) fun X0 w0 S00 => ?_
 have hpk := pickedF_bd k (by decide : (1 : Int) ≤ 11)
 have hpn := pickedF_bd n (by decide : (1 : Int) ≤ 40)
 have hpc := pickedF_bd n (by decide : (1 : Int) ≤ 4)
 obtain ⟨j, hj⟩ := Int.eq_ofNat_of_zero_le hpc.1
 have hj4 : j < 4 := by omega
 have hpkn := picked_vp G n 4 hn1 hn2 (by decide)
 rw [hj] at hpkn
 have hvo : (⟨n, pickedF n 40 - 20, s⟩ : Vl).Ok := ⟨hn1, hn2, by show _ ≤ pickedF n 40 - 20; omega, by show pickedF n 40 - 20 ≤ _; omega, hs⟩
 have hvs := value_size ⟨n, pickedF n 40 - 20, s⟩
 have hml : 100 ≤ maxLen := by decide
 obtain ⟨kk, hkk⟩ : ∃ kk : Int, 1 + pickedF k 11 = kk := ⟨_, rfl⟩
 refine sr_ ?_
 refine OD.box (ds := [_, _, _, _]) (wants_plain rfl) rfl rfl ot rfl rfl (fun b2 => ?_)
 refine OD.box (ds := [_]) (wants_plain rfl) rfl rfl ot rfl rfl (fun b3 => ?_)
 refine os_ mv_ ?_
 refine OD.wk (Wk.as_ (n := 69) (l' := [(2, _), (3, _)]) (S' := [⟨b3, 3, 1, [_]⟩, ⟨b2, 45, 4, [_, _, _, _]⟩]) rfl rfl ⟨lk, lk, trivial⟩) ?_
 refine OD.nil ?_
 refine sr_ ?_
 refine os_ (fa_ 0) ?_
 refine os_ (lb_ 1) ?_
 refine OD.callP (wants_plain rfl) rfl rfl rfl Tryz.call5 (picked_vp G k 11 hk1 hk2 (by decide)) ⟨ot, opd_const, trivial⟩ ?_
 refine OD.still (wants_plain rfl) rfl (still_bin (r := .int .i64 kk) rfl opd_const ot (bin_add (by rw [hkk]; exact wrap_i64 (by omega) (by omega)))) ?_
 refine os_ mv_ ?_
 refine OD.wk (Wk.as_ (n := 69) (l' := [(2, _), (3, _), (5, _)]) (S' := [⟨b3, 3, 1, [_]⟩, ⟨b2, 45, 4, [_, _, _, _]⟩]) rfl rfl ⟨lk, lk, lk, trivial⟩) ?_
 refine OD.nil ?_
 refine CD.seq ?_
 refine sr_ ?_
 refine os_ (lb_ 0) ?_
 refine os_ bn_ ?_
 refine os_ mv_ ?_
 refine OD.split (t := 14) lk (fun hg14 => ?_) (fun hg14 => ?_)
 ·have hg14' := hg14; (try simp only [V.cnd, ne_eq] at hg14')
  refine os_ mv_ ?_
  refine os_ bn_ ?_
  refine os_ pkT_ ?_
  refine nm_ [2, 3, 5, 17] ?_
  refine CD.cond ot (fun hc0 => ?_) (fun hc0 => ?_)
  ·have hc0' := hc0
   (try simp only [V.cnd, ne_eq] at hc0')
   refine CD.region ?_
   refine os_ mv_ ?_
   refine nm_ [2, 3, 5] ?_
   refine sr_ ?_
   refine OD.still (wants_plain rfl) rfl (still_fn (ds := [_, _]) rfl ⟨ot, ot, trivial⟩) ?_
   refine os_ mv_ ?_
   refine OD.wk (Wk.as_ (n := 69) (l' := [(2, _), (5, _), (6, _)]) (S' := [⟨b3, 3, 1, [_]⟩, ⟨b2, 45, 4, [_, _, _, _]⟩]) rfl rfl ⟨lk, lk, lk, trivial⟩) ?_
   refine OD.nil ?_
   refine CD.seq ?_
   refine sr_ ?_
   refine os_ mv_ ?_
   refine nm_ [2, 5, 6, 19] ?_
   refine CD.block ?_
   refine sr_ ?_
   refine os_ bn_ ?_
   refine os_ mv_ ?_
   refine nm_ [2, 5, 6, 19, 20] ?_
   refine CD.condT ot (by first | rfl | assumption) ?_
   refine CD.seq ?_
   refine CD.draw (bks _) (by kernel_rfl) (fun _ h => h) ?_
   refine AD0.take (i := 0) rfl (by kernel_rfl) (by kernel_rfl) (by kernel_rfl) (by repeat (first | exact NP.body | apply NP.then | apply NP.cut | apply NP.inBlock | apply NP.round)) (wants_plain rfl) rfl (still_r1 (mk := fun y => Op.fieldAddr 45 y 1) rfl ot (by first | exact fa_ptr (off := 1) Tryz.runUnderlying45 rfl Tryz.sizeOf3 rfl | exact fa_iptr (off := 1) Tryz.runUnderlying45 rfl Tryz.sizeOf3 rfl)) (by exact trivial) ?_
   refine AD0.take (i := 1) rfl (by kernel_rfl) (by kernel_rfl) (by kernel_rfl) (by repeat (first | exact NP.body | apply NP.then | apply NP.cut | apply NP.inBlock | apply NP.round)) (wants_plain rfl) rfl (still_r1 (mk := Op.load 3) rfl ot (by first | exact ld_blk (k := 1) rfl rfl Tryz.isAgg3 rfl | exact ld_i Tryz.isAgg3 rfl)) (by first | exact trivial | exact safe_blk (k0 := 0) rfl rfl | exact safe_blk (k0 := 1) rfl rfl) ?_
   refine AD0.take (i := 2) rfl (by kernel_rfl) (by kernel_rfl) (by kernel_rfl) (by repeat (first | exact NP.body | apply NP.then | apply NP.cut | apply NP.inBlock | apply NP.round)) (wants_plain rfl) rfl (still_r1 (mk := fun y => Op.fieldAddr 45 y 1) rfl ot (by first | exact fa_ptr (off := 1) Tryz.runUnderlying45 rfl Tryz.sizeOf3 rfl | exact fa_iptr (off := 1) Tryz.runUnderlying45 rfl Tryz.sizeOf3 rfl)) (by exact trivial) ?_
   refine AD0.take (i := 3) rfl (by kernel_rfl) (by kernel_rfl) (by kernel_rfl) (by repeat (first | exact NP.body | apply NP.then | apply NP.cut | apply NP.inBlock | apply NP.round)) (wants_plain rfl) rfl (still_r1 (mk := Op.load 3) rfl ot (by first | exact ld_blk (k := 1) rfl rfl Tryz.isAgg3 rfl | exact ld_i Tryz.isAgg3 rfl)) (by first | exact trivial | exact safe_blk (k0 := 0) rfl rfl | exact safe_blk (k0 := 1) rfl rfl) ?_
   refine AD0.take (i := 6) rfl (by kernel_rfl) (by kernel_rfl) (by kernel_rfl) (by repeat (first | exact NP.body | apply NP.then | apply NP.cut | apply NP.inBlock | apply NP.round)) (wants_plain rfl) rfl (still_r1 (mk := fun y => Op.fieldAddr 45 y 2) rfl ot (by first | exact fa_ptr (off := 2) Tryz.runUnderlying45 rfl Tryz.sizeOf9 rfl | exact fa_iptr (off := 2) Tryz.runUnderlying45 rfl Tryz.sizeOf9 rfl)) (by exact trivial) ?_
   refine AD0.take (i := 7) rfl (by kernel_rfl) (by kernel_rfl) (by kernel_rfl) (by repeat (first | exact NP.body | apply NP.then | apply NP.cut | apply NP.inBlock | apply NP.round)) (wants_plain rfl) rfl (still_r1 (mk := Op.load 9) rfl ot (by first | exact ld_blk (k := 1) rfl rfl Tryz.isAgg9 rfl | exact ld_i Tryz.isAgg9 rfl)) (by first | exact trivial | exact safe_blk (k0 := 0) rfl rfl | exact safe_blk (k0 := 1) rfl rfl) ?_
   refine AD0.later rfl ?_
   refine AD.two (i := 4) (j := 10) (by kernel_rfl) ?_ ?_
   ·skip
    refine AStep.callP rfl (wants_plain rfl) rfl rfl rfl Tryz.call5 (picked_vp G n 40 hn1 hn2 (by decide)) ⟨ot, opd_const, trivial⟩ ?_
    refine AD.take (i := 5) rfl (by kernel_rfl) (by kernel_rfl) (by kernel_rfl) (by repeat (first | exact NP.body | apply NP.then | apply NP.cut | apply NP.inBlock | apply NP.round)) (wants_plain rfl) rfl (still_bin rfl ot opd_const (bin_sub (wrap_i64 (by omega) (by omega)))) (by exact trivial) (by intro h; cases h) ?_
    refine AD.take (i := 8) rfl (by kernel_rfl) (by kernel_rfl) (by kernel_rfl) (by repeat (first | exact NP.body | apply NP.then | apply NP.cut | apply NP.inBlock | apply NP.round)) (wants_plain rfl) rfl (still_bld (pl := [(0, _), (1, _), (2, _)]) (ds := [_, _, _]) rfl Tryz.zeroValue85 Tryz.runUnderlying85 places85_Nm4 ⟨rfl, ot, rfl, ot, rfl, ot, trivial⟩ rfl rfl) (by exact trivial) (by intro h; cases h) ?_
    refine AD.two (i := 9) (j := 10) (by kernel_rfl) ?_ ?_
    ·skip
     refine AStep.callP rfl (wants_plain rfl) rfl rfl rfl Tryz.call43 (value_vp ⟨n, pickedF n 40 - 20, s⟩ hvo) ⟨ot, trivial⟩ ?_
     refine AD.one (i := 10) (by kernel_rfl) ?_
     refine AStep.alloc (ds := [_, _, _]) rfl (wants_plain rfl) rfl rfl Tryz.zeroValue26 rfl (fun b7 => ?_)
     refine AD.one (i := 11) (by kernel_rfl) ?_
     refine AStep.store (k := 0) (cs' := [_, _, _]) rfl (wants_plain rfl) rfl rfl ot rfl rfl ot rfl rfl Tryz.sizeOf26 rfl rfl rfl (by intro b hb; simp [bks, St.put] at hb ⊢; try first | exact hb | simp [hb] | (rcases hb with hb | hb <;> simp [hb]) | (rcases hb with hb | hb | hb <;> simp [hb])) ?_
     refine AD.wk (y := ⟨69, [(5, _), (7, _)], [⟨b7, 26, 3, [_, _, _]⟩, ⟨b3, 3, 1, [_]⟩, ⟨b2, 45, 4, [_, _, _, _]⟩]⟩) (Wk.as_ rfl rfl ⟨lk, lk, trivial⟩) rfl ?_
     refine AD.done (by kernel_rfl) ?_
     refine sr_ ?_
     refine os_ (fa_ 2) ?_
     refine os_ (lb_ 0) ?_
     refine OD.callP (wants_plain rfl) rfl rfl rfl Tryz.call14 (cut_vp (valueF ⟨n, pickedF n 40 - 20, s⟩).s 4 (by omega)) ⟨ot, opd_const, trivial⟩ ?_
     refine os_ (fa_ 2) ?_
     refine OD.store (k := 0) (cs' := [_, _, _]) (wants_plain rfl) rfl rfl ot rfl rfl ot rfl rfl Tryz.sizeOf9 rfl rfl rfl ?_
     refine OD.wk (Wk.as_ (n := 69) (l' := [(5, _), (7, _)]) (S' := [⟨b7, 26, 3, [_, _, _]⟩, ⟨b3, 3, 1, [_]⟩, ⟨b2, 45, 4, [_, _, _, _]⟩]) rfl rfl ⟨lk, lk, trivial⟩) ?_
     refine OD.nil ?_
     refine sr_ ?_
     refine os_ mv_ ?_
     refine os_ (lab_ 0 [_, _, _]) ?_
     refine OD.still (wants_plain rfl) rfl (still_bld (pl := [(0, _), (1, _)]) (ds := [_, _, _, _, _]) rfl Tryz.zeroValue35 Tryz.runUnderlying35 places35_Nm4 ⟨rfl, ot, rfl, ot, trivial⟩ rfl rfl) ?_
     refine OD.bldS (pl := numD 0 [_]) (zvs := [.int .i64 0, .int .i64 0, .int .i64 0, .string ⟨#[]⟩, .string ⟨#[]⟩]) (ds := [_, _, _, _, _]) (wants_plain rfl) rfl rfl Tryz.zeroValue35 Tryz.runUnderlying36 Tryz.sizeOf35 rfl rfl (by kernel_rfl) ⟨rfl, ot, trivial⟩ (by exact rfl) (fill_full (by exact rfl) (by exact rfl) (by exact rfl)) (fun b39 => ?_)
     refine os_ mv_ ?_
     refine OD.wk (Wk.as_ (n := 69) (l' := [(4, _)]) (S' := [⟨b39, 35, 5, [_, _, _, _, _]⟩, ⟨b7, 26, 3, [_, _, _]⟩, ⟨b3, 3, 1, [_]⟩, ⟨b2, 45, 4, [_, _, _, _]⟩]) rfl rfl ⟨lk, trivial⟩) ?_
     refine OD.nil ?_
     refine CD.ret ?_
     refine ⟨.inr rfl, _, [_], (List.Sublist.cons_cons _ (List.nil_sublist _)), ret_one Tryz.results22 (res_tmp (Nat.le_of_ble_eq_true rfl) lk), ?_⟩
     first | exact RetL.cast (RetL.mk (g := cO) (e := 35) (sz := 5) (ls := [(⟨1, litV n s, ⟨#[]⟩⟩ : OpL)]) (ownL_row (ls := [(⟨1, litV n s, ⟨#[]⟩⟩ : OpL)]) (Nat.le_refl _) (show 1 ≤ maxLen by decide))) (by unfold leafOps litOp; rw [if_neg (by omega)]) | exact RetL.cast (RetL.mk (g := cO) (e := 35) (sz := 5) (ls := [(⟨kk, litV n s, ⟨#[]⟩⟩ : OpL)]) (ownL_row (ls := [(⟨kk, litV n s, ⟨#[]⟩⟩ : OpL)]) (Nat.le_refl _) (show 1 ≤ maxLen by decide))) (by unfold leafOps litOp; rw [if_neg (by omega), show kk = 1 by omega]) | exact RetL.cast (RetL.mk (g := cO) (e := 35) (sz := 5) (ls := [(⟨kk, noVl, nameC (j : Int)⟩ : OpL)]) (ownL_row (ls := [(⟨kk, noVl, nameC (j : Int)⟩ : OpL)]) (Nat.le_refl _) (show 1 ≤ maxLen by decide))) (by unfold leafOps colOp; rw [if_pos (by omega), hj, show kk = 2 by omega])
    ·skip
     refine AStep.alloc (ds := [_, _, _]) rfl (wants_plain rfl) rfl rfl Tryz.zeroValue26 rfl (fun b7 => ?_)
     refine AD.one (i := 9) (by kernel_rfl) ?_
     refine AStep.callP rfl (wants_plain rfl) rfl rfl rfl Tryz.call43 (value_vp ⟨n, pickedF n 40 - 20, s⟩ hvo) ⟨ot, trivial⟩ ?_
     refine AD.one (i := 11) (by kernel_rfl) ?_
     refine AStep.store (k := 0) (cs' := [_, _, _]) rfl (wants_plain rfl) rfl rfl ot rfl rfl ot rfl rfl Tryz.sizeOf26 rfl rfl rfl (by intro b hb; simp [bks, St.put] at hb ⊢; try first | exact hb | simp [hb] | (rcases hb with hb | hb <;> simp [hb]) | (rcases hb with hb | hb | hb <;> simp [hb])) ?_
     refine AD.wk (y := ⟨69, [(5, _), (7, _)], [⟨b7, 26, 3, [_, _, _]⟩, ⟨b3, 3, 1, [_]⟩, ⟨b2, 45, 4, [_, _, _, _]⟩]⟩) (Wk.as_ rfl rfl ⟨lk, lk, trivial⟩) rfl ?_
     refine AD.done (by kernel_rfl) ?_
     refine sr_ ?_
     refine os_ (fa_ 2) ?_
     refine os_ (lb_ 0) ?_
     refine OD.callP (wants_plain rfl) rfl rfl rfl Tryz.call14 (cut_vp (valueF ⟨n, pickedF n 40 - 20, s⟩).s 4 (by omega)) ⟨ot, opd_const, trivial⟩ ?_
     refine os_ (fa_ 2) ?_
     refine OD.store (k := 0) (cs' := [_, _, _]) (wants_plain rfl) rfl rfl ot rfl rfl ot rfl rfl Tryz.sizeOf9 rfl rfl rfl ?_
     refine OD.wk (Wk.as_ (n := 69) (l' := [(5, _), (7, _)]) (S' := [⟨b7, 26, 3, [_, _, _]⟩, ⟨b3, 3, 1, [_]⟩, ⟨b2, 45, 4, [_, _, _, _]⟩]) rfl rfl ⟨lk, lk, trivial⟩) ?_
     refine OD.nil ?_
     refine sr_ ?_
     refine os_ mv_ ?_
     refine os_ (lab_ 0 [_, _, _]) ?_
     refine OD.still (wants_plain rfl) rfl (still_bld (pl := [(0, _), (1, _)]) (ds := [_, _, _, _, _]) rfl Tryz.zeroValue35 Tryz.runUnderlying35 places35_Nm4 ⟨rfl, ot, rfl, ot, trivial⟩ rfl rfl) ?_
     refine OD.bldS (pl := numD 0 [_]) (zvs := [.int .i64 0, .int .i64 0, .int .i64 0, .string ⟨#[]⟩, .string ⟨#[]⟩]) (ds := [_, _, _, _, _]) (wants_plain rfl) rfl rfl Tryz.zeroValue35 Tryz.runUnderlying36 Tryz.sizeOf35 rfl rfl (by kernel_rfl) ⟨rfl, ot, trivial⟩ (by exact rfl) (fill_full (by exact rfl) (by exact rfl) (by exact rfl)) (fun b39 => ?_)
     refine os_ mv_ ?_
     refine OD.wk (Wk.as_ (n := 69) (l' := [(4, _)]) (S' := [⟨b39, 35, 5, [_, _, _, _, _]⟩, ⟨b7, 26, 3, [_, _, _]⟩, ⟨b3, 3, 1, [_]⟩, ⟨b2, 45, 4, [_, _, _, _]⟩]) rfl rfl ⟨lk, trivial⟩) ?_
     refine OD.nil ?_
     refine CD.ret ?_
     refine ⟨.inr rfl, _, [_], (List.Sublist.cons_cons _ (List.nil_sublist _)), ret_one Tryz.results22 (res_tmp (Nat.le_of_ble_eq_true rfl) lk), ?_⟩
     first | exact RetL.cast (RetL.mk (g := cO) (e := 35) (sz := 5) (ls := [(⟨1, litV n s, ⟨#[]⟩⟩ : OpL)]) (ownL_row (ls := [(⟨1, litV n s, ⟨#[]⟩⟩ : OpL)]) (Nat.le_refl _) (show 1 ≤ maxLen by decide))) (by unfold leafOps litOp; rw [if_neg (by omega)]) | exact RetL.cast (RetL.mk (g := cO) (e := 35) (sz := 5) (ls := [(⟨kk, litV n s, ⟨#[]⟩⟩ : OpL)]) (ownL_row (ls := [(⟨kk, litV n s, ⟨#[]⟩⟩ : OpL)]) (Nat.le_refl _) (show 1 ≤ maxLen by decide))) (by unfold leafOps litOp; rw [if_neg (by omega), show kk = 1 by omega]) | exact RetL.cast (RetL.mk (g := cO) (e := 35) (sz := 5) (ls := [(⟨kk, noVl, nameC (j : Int)⟩ : OpL)]) (ownL_row (ls := [(⟨kk, noVl, nameC (j : Int)⟩ : OpL)]) (Nat.le_refl _) (show 1 ≤ maxLen by decide))) (by unfold leafOps colOp; rw [if_pos (by omega), hj, show kk = 2 by omega])
   ·skip
    refine AStep.alloc (ds := [_, _, _]) rfl (wants_plain rfl) rfl rfl Tryz.zeroValue26 rfl (fun b7 => ?_)
    refine AD.one (i := 4) (by kernel_rfl) ?_
    refine AStep.callP rfl (wants_plain rfl) rfl rfl rfl Tryz.call5 (picked_vp G n 40 hn1 hn2 (by decide)) ⟨ot, opd_const, trivial⟩ ?_
    refine AD.take (i := 5) rfl (by kernel_rfl) (by kernel_rfl) (by kernel_rfl) (by repeat (first | exact NP.body | apply NP.then | apply NP.cut | apply NP.inBlock | apply NP.round)) (wants_plain rfl) rfl (still_bin rfl ot opd_const (bin_sub (wrap_i64 (by omega) (by omega)))) (by exact trivial) (by intro h; cases h) ?_
    refine AD.take (i := 8) rfl (by kernel_rfl) (by kernel_rfl) (by kernel_rfl) (by repeat (first | exact NP.body | apply NP.then | apply NP.cut | apply NP.inBlock | apply NP.round)) (wants_plain rfl) rfl (still_bld (pl := [(0, _), (1, _), (2, _)]) (ds := [_, _, _]) rfl Tryz.zeroValue85 Tryz.runUnderlying85 places85_Nm4 ⟨rfl, ot, rfl, ot, rfl, ot, trivial⟩ rfl rfl) (by exact trivial) (by intro h; cases h) ?_
    refine AD.one (i := 9) (by kernel_rfl) ?_
    refine AStep.callP rfl (wants_plain rfl) rfl rfl rfl Tryz.call43 (value_vp ⟨n, pickedF n 40 - 20, s⟩ hvo) ⟨ot, trivial⟩ ?_
    refine AD.one (i := 11) (by kernel_rfl) ?_
    refine AStep.store (k := 0) (cs' := [_, _, _]) rfl (wants_plain rfl) rfl rfl ot rfl rfl ot rfl rfl Tryz.sizeOf26 rfl rfl rfl (by intro b hb; simp [bks, St.put] at hb ⊢; try first | exact hb | simp [hb] | (rcases hb with hb | hb <;> simp [hb]) | (rcases hb with hb | hb | hb <;> simp [hb])) ?_
    refine AD.wk (y := ⟨69, [(5, _), (7, _)], [⟨b7, 26, 3, [_, _, _]⟩, ⟨b3, 3, 1, [_]⟩, ⟨b2, 45, 4, [_, _, _, _]⟩]⟩) (Wk.as_ rfl rfl ⟨lk, lk, trivial⟩) rfl ?_
    refine AD.done (by kernel_rfl) ?_
    refine sr_ ?_
    refine os_ (fa_ 2) ?_
    refine os_ (lb_ 0) ?_
    refine OD.callP (wants_plain rfl) rfl rfl rfl Tryz.call14 (cut_vp (valueF ⟨n, pickedF n 40 - 20, s⟩).s 4 (by omega)) ⟨ot, opd_const, trivial⟩ ?_
    refine os_ (fa_ 2) ?_
    refine OD.store (k := 0) (cs' := [_, _, _]) (wants_plain rfl) rfl rfl ot rfl rfl ot rfl rfl Tryz.sizeOf9 rfl rfl rfl ?_
    refine OD.wk (Wk.as_ (n := 69) (l' := [(5, _), (7, _)]) (S' := [⟨b7, 26, 3, [_, _, _]⟩, ⟨b3, 3, 1, [_]⟩, ⟨b2, 45, 4, [_, _, _, _]⟩]) rfl rfl ⟨lk, lk, trivial⟩) ?_
    refine OD.nil ?_
    refine sr_ ?_
    refine os_ mv_ ?_
    refine os_ (lab_ 0 [_, _, _]) ?_
    refine OD.still (wants_plain rfl) rfl (still_bld (pl := [(0, _), (1, _)]) (ds := [_, _, _, _, _]) rfl Tryz.zeroValue35 Tryz.runUnderlying35 places35_Nm4 ⟨rfl, ot, rfl, ot, trivial⟩ rfl rfl) ?_
    refine OD.bldS (pl := numD 0 [_]) (zvs := [.int .i64 0, .int .i64 0, .int .i64 0, .string ⟨#[]⟩, .string ⟨#[]⟩]) (ds := [_, _, _, _, _]) (wants_plain rfl) rfl rfl Tryz.zeroValue35 Tryz.runUnderlying36 Tryz.sizeOf35 rfl rfl (by kernel_rfl) ⟨rfl, ot, trivial⟩ (by exact rfl) (fill_full (by exact rfl) (by exact rfl) (by exact rfl)) (fun b39 => ?_)
    refine os_ mv_ ?_
    refine OD.wk (Wk.as_ (n := 69) (l' := [(4, _)]) (S' := [⟨b39, 35, 5, [_, _, _, _, _]⟩, ⟨b7, 26, 3, [_, _, _]⟩, ⟨b3, 3, 1, [_]⟩, ⟨b2, 45, 4, [_, _, _, _]⟩]) rfl rfl ⟨lk, trivial⟩) ?_
    refine OD.nil ?_
    refine CD.ret ?_
    refine ⟨.inr rfl, _, [_], (List.Sublist.cons_cons _ (List.nil_sublist _)), ret_one Tryz.results22 (res_tmp (Nat.le_of_ble_eq_true rfl) lk), ?_⟩
    first | exact RetL.cast (RetL.mk (g := cO) (e := 35) (sz := 5) (ls := [(⟨1, litV n s, ⟨#[]⟩⟩ : OpL)]) (ownL_row (ls := [(⟨1, litV n s, ⟨#[]⟩⟩ : OpL)]) (Nat.le_refl _) (show 1 ≤ maxLen by decide))) (by unfold leafOps litOp; rw [if_neg (by omega)]) | exact RetL.cast (RetL.mk (g := cO) (e := 35) (sz := 5) (ls := [(⟨kk, litV n s, ⟨#[]⟩⟩ : OpL)]) (ownL_row (ls := [(⟨kk, litV n s, ⟨#[]⟩⟩ : OpL)]) (Nat.le_refl _) (show 1 ≤ maxLen by decide))) (by unfold leafOps litOp; rw [if_neg (by omega), show kk = 1 by omega]) | exact RetL.cast (RetL.mk (g := cO) (e := 35) (sz := 5) (ls := [(⟨kk, noVl, nameC (j : Int)⟩ : OpL)]) (ownL_row (ls := [(⟨kk, noVl, nameC (j : Int)⟩ : OpL)]) (Nat.le_refl _) (show 1 ≤ maxLen by decide))) (by unfold leafOps colOp; rw [if_pos (by omega), hj, show kk = 2 by omega])
  ·have hc0' := hc0
   (try simp only [V.cnd, ne_eq] at hc0')
   refine CD.skip ?_
   refine sr_ ?_
   refine OD.still (wants_plain rfl) rfl (still_fn (ds := [_, _]) rfl ⟨ot, ot, trivial⟩) ?_
   refine os_ mv_ ?_
   refine OD.wk (Wk.as_ (n := 69) (l' := [(2, _), (5, _), (6, _)]) (S' := [⟨b3, 3, 1, [_]⟩, ⟨b2, 45, 4, [_, _, _, _]⟩]) rfl rfl ⟨lk, lk, lk, trivial⟩) ?_
   refine OD.nil ?_
   refine CD.seq ?_
   refine sr_ ?_
   refine os_ mv_ ?_
   refine nm_ [2, 5, 6, 19] ?_
   refine CD.block ?_
   refine sr_ ?_
   refine os_ bn_ ?_
   refine os_ mv_ ?_
   refine nm_ [2, 5, 6, 19, 20] ?_
   refine CD.cond ot (fun hc1 => ?_) (fun hc1 => ?_)
   ·have hc1' := hc1
    (try simp only [V.cnd, ne_eq] at hc1')
    refine CD.seq ?_
    refine CD.draw (bks _) (by kernel_rfl) (fun _ h => h) ?_
    refine AD0.take (i := 0) rfl (by kernel_rfl) (by kernel_rfl) (by kernel_rfl) (by repeat (first | exact NP.body | apply NP.then | apply NP.cut | apply NP.inBlock | apply NP.round)) (wants_plain rfl) rfl (still_r1 (mk := fun y => Op.fieldAddr 45 y 1) rfl ot (by first | exact fa_ptr (off := 1) Tryz.runUnderlying45 rfl Tryz.sizeOf3 rfl | exact fa_iptr (off := 1) Tryz.runUnderlying45 rfl Tryz.sizeOf3 rfl)) (by exact trivial) ?_
    refine AD0.take (i := 1) rfl (by kernel_rfl) (by kernel_rfl) (by kernel_rfl) (by repeat (first | exact NP.body | apply NP.then | apply NP.cut | apply NP.inBlock | apply NP.round)) (wants_plain rfl) rfl (still_r1 (mk := Op.load 3) rfl ot (by first | exact ld_blk (k := 1) rfl rfl Tryz.isAgg3 rfl | exact ld_i Tryz.isAgg3 rfl)) (by first | exact trivial | exact safe_blk (k0 := 0) rfl rfl | exact safe_blk (k0 := 1) rfl rfl) ?_
    refine AD0.take (i := 2) rfl (by kernel_rfl) (by kernel_rfl) (by kernel_rfl) (by repeat (first | exact NP.body | apply NP.then | apply NP.cut | apply NP.inBlock | apply NP.round)) (wants_plain rfl) rfl (still_r1 (mk := fun y => Op.fieldAddr 45 y 1) rfl ot (by first | exact fa_ptr (off := 1) Tryz.runUnderlying45 rfl Tryz.sizeOf3 rfl | exact fa_iptr (off := 1) Tryz.runUnderlying45 rfl Tryz.sizeOf3 rfl)) (by exact trivial) ?_
    refine AD0.take (i := 3) rfl (by kernel_rfl) (by kernel_rfl) (by kernel_rfl) (by repeat (first | exact NP.body | apply NP.then | apply NP.cut | apply NP.inBlock | apply NP.round)) (wants_plain rfl) rfl (still_r1 (mk := Op.load 3) rfl ot (by first | exact ld_blk (k := 1) rfl rfl Tryz.isAgg3 rfl | exact ld_i Tryz.isAgg3 rfl)) (by first | exact trivial | exact safe_blk (k0 := 0) rfl rfl | exact safe_blk (k0 := 1) rfl rfl) ?_
    refine AD0.take (i := 6) rfl (by kernel_rfl) (by kernel_rfl) (by kernel_rfl) (by repeat (first | exact NP.body | apply NP.then | apply NP.cut | apply NP.inBlock | apply NP.round)) (wants_plain rfl) rfl (still_r1 (mk := fun y => Op.fieldAddr 45 y 2) rfl ot (by first | exact fa_ptr (off := 2) Tryz.runUnderlying45 rfl Tryz.sizeOf9 rfl | exact fa_iptr (off := 2) Tryz.runUnderlying45 rfl Tryz.sizeOf9 rfl)) (by exact trivial) ?_
    refine AD0.take (i := 7) rfl (by kernel_rfl) (by kernel_rfl) (by kernel_rfl) (by repeat (first | exact NP.body | apply NP.then | apply NP.cut | apply NP.inBlock | apply NP.round)) (wants_plain rfl) rfl (still_r1 (mk := Op.load 9) rfl ot (by first | exact ld_blk (k := 1) rfl rfl Tryz.isAgg9 rfl | exact ld_i Tryz.isAgg9 rfl)) (by first | exact trivial | exact safe_blk (k0 := 0) rfl rfl | exact safe_blk (k0 := 1) rfl rfl) ?_
    refine AD0.later rfl ?_
    refine AD.two (i := 4) (j := 10) (by kernel_rfl) ?_ ?_
    ·skip
     refine AStep.callP rfl (wants_plain rfl) rfl rfl rfl Tryz.call5 (picked_vp G n 40 hn1 hn2 (by decide)) ⟨ot, opd_const, trivial⟩ ?_
     refine AD.take (i := 5) rfl (by kernel_rfl) (by kernel_rfl) (by kernel_rfl) (by repeat (first | exact NP.body | apply NP.then | apply NP.cut | apply NP.inBlock | apply NP.round)) (wants_plain rfl) rfl (still_bin rfl ot opd_const (bin_sub (wrap_i64 (by omega) (by omega)))) (by exact trivial) (by intro h; cases h) ?_
     refine AD.take (i := 8) rfl (by kernel_rfl) (by kernel_rfl) (by kernel_rfl) (by repeat (first | exact NP.body | apply NP.then | apply NP.cut | apply NP.inBlock | apply NP.round)) (wants_plain rfl) rfl (still_bld (pl := [(0, _), (1, _), (2, _)]) (ds := [_, _, _]) rfl Tryz.zeroValue85 Tryz.runUnderlying85 places85_Nm4 ⟨rfl, ot, rfl, ot, rfl, ot, trivial⟩ rfl rfl) (by exact trivial) (by intro h; cases h) ?_
     refine AD.two (i := 9) (j := 10) (by kernel_rfl) ?_ ?_
     ·skip
      refine AStep.callP rfl (wants_plain rfl) rfl rfl rfl Tryz.call43 (value_vp ⟨n, pickedF n 40 - 20, s⟩ hvo) ⟨ot, trivial⟩ ?_
      refine AD.one (i := 10) (by kernel_rfl) ?_
      refine AStep.alloc (ds := [_, _, _]) rfl (wants_plain rfl) rfl rfl Tryz.zeroValue26 rfl (fun b7 => ?_)
      refine AD.one (i := 11) (by kernel_rfl) ?_
      refine AStep.store (k := 0) (cs' := [_, _, _]) rfl (wants_plain rfl) rfl rfl ot rfl rfl ot rfl rfl Tryz.sizeOf26 rfl rfl rfl (by intro b hb; simp [bks, St.put] at hb ⊢; try first | exact hb | simp [hb] | (rcases hb with hb | hb <;> simp [hb]) | (rcases hb with hb | hb | hb <;> simp [hb])) ?_
      refine AD.wk (y := ⟨69, [(5, _), (7, _)], [⟨b7, 26, 3, [_, _, _]⟩, ⟨b3, 3, 1, [_]⟩, ⟨b2, 45, 4, [_, _, _, _]⟩]⟩) (Wk.as_ rfl rfl ⟨lk, lk, trivial⟩) rfl ?_
      refine AD.done (by kernel_rfl) ?_
      refine sr_ ?_
      refine os_ (fa_ 2) ?_
      refine os_ (lb_ 0) ?_
      refine OD.callP (wants_plain rfl) rfl rfl rfl Tryz.call14 (cut_vp (valueF ⟨n, pickedF n 40 - 20, s⟩).s 4 (by omega)) ⟨ot, opd_const, trivial⟩ ?_
      refine os_ (fa_ 2) ?_
      refine OD.store (k := 0) (cs' := [_, _, _]) (wants_plain rfl) rfl rfl ot rfl rfl ot rfl rfl Tryz.sizeOf9 rfl rfl rfl ?_
      refine OD.wk (Wk.as_ (n := 69) (l' := [(5, _), (7, _)]) (S' := [⟨b7, 26, 3, [_, _, _]⟩, ⟨b3, 3, 1, [_]⟩, ⟨b2, 45, 4, [_, _, _, _]⟩]) rfl rfl ⟨lk, lk, trivial⟩) ?_
      refine OD.nil ?_
      refine sr_ ?_
      refine os_ mv_ ?_
      refine os_ (lab_ 0 [_, _, _]) ?_
      refine OD.still (wants_plain rfl) rfl (still_bld (pl := [(0, _), (1, _)]) (ds := [_, _, _, _, _]) rfl Tryz.zeroValue35 Tryz.runUnderlying35 places35_Nm4 ⟨rfl, ot, rfl, ot, trivial⟩ rfl rfl) ?_
      refine OD.bldS (pl := numD 0 [_]) (zvs := [.int .i64 0, .int .i64 0, .int .i64 0, .string ⟨#[]⟩, .string ⟨#[]⟩]) (ds := [_, _, _, _, _]) (wants_plain rfl) rfl rfl Tryz.zeroValue35 Tryz.runUnderlying36 Tryz.sizeOf35 rfl rfl (by kernel_rfl) ⟨rfl, ot, trivial⟩ (by exact rfl) (fill_full (by exact rfl) (by exact rfl) (by exact rfl)) (fun b39 => ?_)
      refine os_ mv_ ?_
      refine OD.wk (Wk.as_ (n := 69) (l' := [(4, _)]) (S' := [⟨b39, 35, 5, [_, _, _, _, _]⟩, ⟨b7, 26, 3, [_, _, _]⟩, ⟨b3, 3, 1, [_]⟩, ⟨b2, 45, 4, [_, _, _, _]⟩]) rfl rfl ⟨lk, trivial⟩) ?_
      refine OD.nil ?_
      refine CD.ret ?_
      refine ⟨.inr rfl, _, [_], (List.Sublist.cons_cons _ (List.nil_sublist _)), ret_one Tryz.results22 (res_tmp (Nat.le_of_ble_eq_true rfl) lk), ?_⟩
      first | exact RetL.cast (RetL.mk (g := cO) (e := 35) (sz := 5) (ls := [(⟨1, litV n s, ⟨#[]⟩⟩ : OpL)]) (ownL_row (ls := [(⟨1, litV n s, ⟨#[]⟩⟩ : OpL)]) (Nat.le_refl _) (show 1 ≤ maxLen by decide))) (by unfold leafOps litOp; rw [if_neg (by omega)]) | exact RetL.cast (RetL.mk (g := cO) (e := 35) (sz := 5) (ls := [(⟨kk, litV n s, ⟨#[]⟩⟩ : OpL)]) (ownL_row (ls := [(⟨kk, litV n s, ⟨#[]⟩⟩ : OpL)]) (Nat.le_refl _) (show 1 ≤ maxLen by decide))) (by unfold leafOps litOp; rw [if_neg (by omega), show kk = 1 by omega]) | exact RetL.cast (RetL.mk (g := cO) (e := 35) (sz := 5) (ls := [(⟨kk, noVl, nameC (j : Int)⟩ : OpL)]) (ownL_row (ls := [(⟨kk, noVl, nameC (j : Int)⟩ : OpL)]) (Nat.le_refl _) (show 1 ≤ maxLen by decide))) (by unfold leafOps colOp; rw [if_pos (by omega), hj, show kk = 2 by omega])
     ·skip
      refine AStep.alloc (ds := [_, _, _]) rfl (wants_plain rfl) rfl rfl Tryz.zeroValue26 rfl (fun b7 => ?_)
      refine AD.one (i := 9) (by kernel_rfl) ?_
      refine AStep.callP rfl (wants_plain rfl) rfl rfl rfl Tryz.call43 (value_vp ⟨n, pickedF n 40 - 20, s⟩ hvo) ⟨ot, trivial⟩ ?_
      refine AD.one (i := 11) (by kernel_rfl) ?_
      refine AStep.store (k := 0) (cs' := [_, _, _]) rfl (wants_plain rfl) rfl rfl ot rfl rfl ot rfl rfl Tryz.sizeOf26 rfl rfl rfl (by intro b hb; simp [bks, St.put] at hb ⊢; try first | exact hb | simp [hb] | (rcases hb with hb | hb <;> simp [hb]) | (rcases hb with hb | hb | hb <;> simp [hb])) ?_
      refine AD.wk (y := ⟨69, [(5, _), (7, _)], [⟨b7, 26, 3, [_, _, _]⟩, ⟨b3, 3, 1, [_]⟩, ⟨b2, 45, 4, [_, _, _, _]⟩]⟩) (Wk.as_ rfl rfl ⟨lk, lk, trivial⟩) rfl ?_
      refine AD.done (by kernel_rfl) ?_
      refine sr_ ?_
      refine os_ (fa_ 2) ?_
      refine os_ (lb_ 0) ?_
      refine OD.callP (wants_plain rfl) rfl rfl rfl Tryz.call14 (cut_vp (valueF ⟨n, pickedF n 40 - 20, s⟩).s 4 (by omega)) ⟨ot, opd_const, trivial⟩ ?_
      refine os_ (fa_ 2) ?_
      refine OD.store (k := 0) (cs' := [_, _, _]) (wants_plain rfl) rfl rfl ot rfl rfl ot rfl rfl Tryz.sizeOf9 rfl rfl rfl ?_
      refine OD.wk (Wk.as_ (n := 69) (l' := [(5, _), (7, _)]) (S' := [⟨b7, 26, 3, [_, _, _]⟩, ⟨b3, 3, 1, [_]⟩, ⟨b2, 45, 4, [_, _, _, _]⟩]) rfl rfl ⟨lk, lk, trivial⟩) ?_
      refine OD.nil ?_
      refine sr_ ?_
      refine os_ mv_ ?_
      refine os_ (lab_ 0 [_, _, _]) ?_
      refine OD.still (wants_plain rfl) rfl (still_bld (pl := [(0, _), (1, _)]) (ds := [_, _, _, _, _]) rfl Tryz.zeroValue35 Tryz.runUnderlying35 places35_Nm4 ⟨rfl, ot, rfl, ot, trivial⟩ rfl rfl) ?_
      refine OD.bldS (pl := numD 0 [_]) (zvs := [.int .i64 0, .int .i64 0, .int .i64 0, .string ⟨#[]⟩, .string ⟨#[]⟩]) (ds := [_, _, _, _, _]) (wants_plain rfl) rfl rfl Tryz.zeroValue35 Tryz.runUnderlying36 Tryz.sizeOf35 rfl rfl (by kernel_rfl) ⟨rfl, ot, trivial⟩ (by exact rfl) (fill_full (by exact rfl) (by exact rfl) (by exact rfl)) (fun b39 => ?_)
      refine os_ mv_ ?_
      refine OD.wk (Wk.as_ (n := 69) (l' := [(4, _)]) (S' := [⟨b39, 35, 5, [_, _, _, _, _]⟩, ⟨b7, 26, 3, [_, _, _]⟩, ⟨b3, 3, 1, [_]⟩, ⟨b2, 45, 4, [_, _, _, _]⟩]) rfl rfl ⟨lk, trivial⟩) ?_
      refine OD.nil ?_
      refine CD.ret ?_
      refine ⟨.inr rfl, _, [_], (List.Sublist.cons_cons _ (List.nil_sublist _)), ret_one Tryz.results22 (res_tmp (Nat.le_of_ble_eq_true rfl) lk), ?_⟩
      first | exact RetL.cast (RetL.mk (g := cO) (e := 35) (sz := 5) (ls := [(⟨1, litV n s, ⟨#[]⟩⟩ : OpL)]) (ownL_row (ls := [(⟨1, litV n s, ⟨#[]⟩⟩ : OpL)]) (Nat.le_refl _) (show 1 ≤ maxLen by decide))) (by unfold leafOps litOp; rw [if_neg (by omega)]) | exact RetL.cast (RetL.mk (g := cO) (e := 35) (sz := 5) (ls := [(⟨kk, litV n s, ⟨#[]⟩⟩ : OpL)]) (ownL_row (ls := [(⟨kk, litV n s, ⟨#[]⟩⟩ : OpL)]) (Nat.le_refl _) (show 1 ≤ maxLen by decide))) (by unfold leafOps litOp; rw [if_neg (by omega), show kk = 1 by omega]) | exact RetL.cast (RetL.mk (g := cO) (e := 35) (sz := 5) (ls := [(⟨kk, noVl, nameC (j : Int)⟩ : OpL)]) (ownL_row (ls := [(⟨kk, noVl, nameC (j : Int)⟩ : OpL)]) (Nat.le_refl _) (show 1 ≤ maxLen by decide))) (by unfold leafOps colOp; rw [if_pos (by omega), hj, show kk = 2 by omega])
    ·skip
     refine AStep.alloc (ds := [_, _, _]) rfl (wants_plain rfl) rfl rfl Tryz.zeroValue26 rfl (fun b7 => ?_)
     refine AD.one (i := 4) (by kernel_rfl) ?_
     refine AStep.callP rfl (wants_plain rfl) rfl rfl rfl Tryz.call5 (picked_vp G n 40 hn1 hn2 (by decide)) ⟨ot, opd_const, trivial⟩ ?_
     refine AD.take (i := 5) rfl (by kernel_rfl) (by kernel_rfl) (by kernel_rfl) (by repeat (first | exact NP.body | apply NP.then | apply NP.cut | apply NP.inBlock | apply NP.round)) (wants_plain rfl) rfl (still_bin rfl ot opd_const (bin_sub (wrap_i64 (by omega) (by omega)))) (by exact trivial) (by intro h; cases h) ?_
     refine AD.take (i := 8) rfl (by kernel_rfl) (by kernel_rfl) (by kernel_rfl) (by repeat (first | exact NP.body | apply NP.then | apply NP.cut | apply NP.inBlock | apply NP.round)) (wants_plain rfl) rfl (still_bld (pl := [(0, _), (1, _), (2, _)]) (ds := [_, _, _]) rfl Tryz.zeroValue85 Tryz.runUnderlying85 places85_Nm4 ⟨rfl, ot, rfl, ot, rfl, ot, trivial⟩ rfl rfl) (by exact trivial) (by intro h; cases h) ?_
     refine AD.one (i := 9) (by kernel_rfl) ?_
     refine AStep.callP rfl (wants_plain rfl) rfl rfl rfl Tryz.call43 (value_vp ⟨n, pickedF n 40 - 20, s⟩ hvo) ⟨ot, trivial⟩ ?_
     refine AD.one (i := 11) (by kernel_rfl) ?_
     refine AStep.store (k := 0) (cs' := [_, _, _]) rfl (wants_plain rfl) rfl rfl ot rfl rfl ot rfl rfl Tryz.sizeOf26 rfl rfl rfl (by intro b hb; simp [bks, St.put] at hb ⊢; try first | exact hb | simp [hb] | (rcases hb with hb | hb <;> simp [hb]) | (rcases hb with hb | hb | hb <;> simp [hb])) ?_
     refine AD.wk (y := ⟨69, [(5, _), (7, _)], [⟨b7, 26, 3, [_, _, _]⟩, ⟨b3, 3, 1, [_]⟩, ⟨b2, 45, 4, [_, _, _, _]⟩]⟩) (Wk.as_ rfl rfl ⟨lk, lk, trivial⟩) rfl ?_
     refine AD.done (by kernel_rfl) ?_
     refine sr_ ?_
     refine os_ (fa_ 2) ?_
     refine os_ (lb_ 0) ?_
     refine OD.callP (wants_plain rfl) rfl rfl rfl Tryz.call14 (cut_vp (valueF ⟨n, pickedF n 40 - 20, s⟩).s 4 (by omega)) ⟨ot, opd_const, trivial⟩ ?_
     refine os_ (fa_ 2) ?_
     refine OD.store (k := 0) (cs' := [_, _, _]) (wants_plain rfl) rfl rfl ot rfl rfl ot rfl rfl Tryz.sizeOf9 rfl rfl rfl ?_
     refine OD.wk (Wk.as_ (n := 69) (l' := [(5, _), (7, _)]) (S' := [⟨b7, 26, 3, [_, _, _]⟩, ⟨b3, 3, 1, [_]⟩, ⟨b2, 45, 4, [_, _, _, _]⟩]) rfl rfl ⟨lk, lk, trivial⟩) ?_
     refine OD.nil ?_
     refine sr_ ?_
     refine os_ mv_ ?_
     refine os_ (lab_ 0 [_, _, _]) ?_
     refine OD.still (wants_plain rfl) rfl (still_bld (pl := [(0, _), (1, _)]) (ds := [_, _, _, _, _]) rfl Tryz.zeroValue35 Tryz.runUnderlying35 places35_Nm4 ⟨rfl, ot, rfl, ot, trivial⟩ rfl rfl) ?_
     refine OD.bldS (pl := numD 0 [_]) (zvs := [.int .i64 0, .int .i64 0, .int .i64 0, .string ⟨#[]⟩, .string ⟨#[]⟩]) (ds := [_, _, _, _, _]) (wants_plain rfl) rfl rfl Tryz.zeroValue35 Tryz.runUnderlying36 Tryz.sizeOf35 rfl rfl (by kernel_rfl) ⟨rfl, ot, trivial⟩ (by exact rfl) (fill_full (by exact rfl) (by exact rfl) (by exact rfl)) (fun b39 => ?_)
     refine os_ mv_ ?_
     refine OD.wk (Wk.as_ (n := 69) (l' := [(4, _)]) (S' := [⟨b39, 35, 5, [_, _, _, _, _]⟩, ⟨b7, 26, 3, [_, _, _]⟩, ⟨b3, 3, 1, [_]⟩, ⟨b2, 45, 4, [_, _, _, _]⟩]) rfl rfl ⟨lk, trivial⟩) ?_
     refine OD.nil ?_
     refine CD.ret ?_
     refine ⟨.inr rfl, _, [_], (List.Sublist.cons_cons _ (List.nil_sublist _)), ret_one Tryz.results22 (res_tmp (Nat.le_of_ble_eq_true rfl) lk), ?_⟩
     first | exact RetL.cast (RetL.mk (g := cO) (e := 35) (sz := 5) (ls := [(⟨1, litV n s, ⟨#[]⟩⟩ : OpL)]) (ownL_row (ls := [(⟨1, litV n s, ⟨#[]⟩⟩ : OpL)]) (Nat.le_refl _) (show 1 ≤ maxLen by decide))) (by unfold leafOps litOp; rw [if_neg (by omega)]) | exact RetL.cast (RetL.mk (g := cO) (e := 35) (sz := 5) (ls := [(⟨kk, litV n s, ⟨#[]⟩⟩ : OpL)]) (ownL_row (ls := [(⟨kk, litV n s, ⟨#[]⟩⟩ : OpL)]) (Nat.le_refl _) (show 1 ≤ maxLen by decide))) (by unfold leafOps litOp; rw [if_neg (by omega), show kk = 1 by omega]) | exact RetL.cast (RetL.mk (g := cO) (e := 35) (sz := 5) (ls := [(⟨kk, noVl, nameC (j : Int)⟩ : OpL)]) (ownL_row (ls := [(⟨kk, noVl, nameC (j : Int)⟩ : OpL)]) (Nat.le_refl _) (show 1 ≤ maxLen by decide))) (by unfold leafOps colOp; rw [if_pos (by omega), hj, show kk = 2 by omega])
   ·have hc1' := hc1
    (try simp only [V.cnd, ne_eq] at hc1')
    refine sr_ ?_
    refine os_ bn_ ?_
    refine os_ mv_ ?_
    refine nm_ [2, 5, 6, 19, 40] ?_
    refine CD.cond ot (fun hc2 => ?_) (fun hc2 => ?_)
    ·have hc2' := hc2
     (try simp only [V.cnd, ne_eq] at hc2')
     refine sr_ ?_
     refine os_ mv_ ?_
     refine OD.bldS (pl := numD 0 [_, _, _, _]) (zvs := [.string ⟨#[]⟩, .string ⟨#[]⟩, .string ⟨#[]⟩, .string ⟨#[]⟩]) (ds := [_, _, _, _]) (wants_plain rfl) rfl rfl Tryz.zeroValue9 Tryz.runUnderlying75 Tryz.sizeOf9 rfl rfl (by kernel_rfl) ⟨rfl, opd_const, rfl, opd_const, rfl, opd_const, rfl, opd_const, trivial⟩ (by exact rfl) (fill_full (by exact rfl) (by exact rfl) (by exact rfl)) (fun b43 => ?_)
     refine OD.give (k := 0) (t := 43) (sz := 1) (m := 4) rfl lk rfl rfl rfl (Nat.le_refl _) (by decide) ?_
     refine os_ (fa_ 1) ?_
     refine os_ (lb_ 1) ?_
     refine OD.callP (wants_plain rfl) rfl rfl rfl Tryz.call5 (hpkn) ⟨ot, opd_const, trivial⟩ ?_
     refine os_ (ix_ 1) ?_
     refine OD.still (wants_plain rfl) rfl (still_r1 (mk := Op.load 9) rfl ot (ld_i Tryz.isAgg9 (name_at hj4))) ?_
     refine OD.still (wants_plain rfl) rfl (still_bld (pl := [(0, _), (2, _)]) (ds := [_, _, _, _, _]) rfl Tryz.zeroValue35 Tryz.runUnderlying35 places35_Nm4 ⟨rfl, ot, rfl, ot, trivial⟩ rfl rfl) ?_
     refine OD.bldS (pl := numD 0 [_]) (zvs := [.int .i64 0, .int .i64 0, .int .i64 0, .string ⟨#[]⟩, .string ⟨#[]⟩]) (ds := [_, _, _, _, _]) (wants_plain rfl) rfl rfl Tryz.zeroValue35 Tryz.runUnderlying36 Tryz.sizeOf35 rfl rfl (by kernel_rfl) ⟨rfl, ot, trivial⟩ (by exact rfl) (fill_full (by exact rfl) (by exact rfl) (by exact rfl)) (fun b50 => ?_)
     refine os_ mv_ ?_
     refine OD.wk (Wk.as_ (n := 69) (l' := [(4, _)]) (S' := [⟨b50, 35, 5, [_, _, _, _, _]⟩, ⟨b3, 3, 1, [_]⟩, ⟨b2, 45, 4, [_, _, _, _]⟩]) rfl rfl ⟨lk, trivial⟩) ?_
     refine OD.nil ?_
     refine CD.ret ?_
     refine ⟨.inr rfl, _, [_], (List.Sublist.cons_cons _ (List.nil_sublist _)), ret_one Tryz.results22 (res_tmp (Nat.le_of_ble_eq_true rfl) lk), ?_⟩
     first | exact RetL.cast (RetL.mk (g := cO) (e := 35) (sz := 5) (ls := [(⟨1, litV n s, ⟨#[]⟩⟩ : OpL)]) (ownL_row (ls := [(⟨1, litV n s, ⟨#[]⟩⟩ : OpL)]) (Nat.le_refl _) (show 1 ≤ maxLen by decide))) (by unfold leafOps litOp; rw [if_neg (by omega)]) | exact RetL.cast (RetL.mk (g := cO) (e := 35) (sz := 5) (ls := [(⟨kk, litV n s, ⟨#[]⟩⟩ : OpL)]) (ownL_row (ls := [(⟨kk, litV n s, ⟨#[]⟩⟩ : OpL)]) (Nat.le_refl _) (show 1 ≤ maxLen by decide))) (by unfold leafOps litOp; rw [if_neg (by omega), show kk = 1 by omega]) | exact RetL.cast (RetL.mk (g := cO) (e := 35) (sz := 5) (ls := [(⟨kk, noVl, nameC (j : Int)⟩ : OpL)]) (ownL_row (ls := [(⟨kk, noVl, nameC (j : Int)⟩ : OpL)]) (Nat.le_refl _) (show 1 ≤ maxLen by decide))) (by unfold leafOps colOp; rw [if_pos (by omega), hj, show kk = 2 by omega])
    ·exact absurd hc2 (by simp at hc0 hc1 hc2; omega)
 ·exact absurd hg14 (by simp at hg14; omega)

end Go.Proofs.YtfooincnmobemaaGreatDoor.Nm

namespace Go.Proofs.YtfooincnmobemaaGreatDoor.Nm
open Go.RowKit V Pk Vl
set_option linter.unusedVariables false
set_option linter.unusedSimpArgs false

variable {G : List (Nat × List Value)}
theorem sub_some {r : Nat} {ts : List Tw} {n : Int} {s : ByteArray} {i : Nat} (hi : i < ts.length) : opsAt r ts[i] = subO r ts n s i := by unfold subO; rw [List.getElem?_eq_getElem hi]
theorem sub_none {r : Nat} {ts : List Tw} {n : Int} {s : ByteArray} {i : Nat} (hi : ts.length ≤ i) : leafOps n i s = subO r ts n s i := by unfold subO; rw [List.getElem?_eq_none hi]
theorem ops_step (r : Nat) (k n : Int) (s : ByteArray) (ts : List Tw) : opsAt (r + 1) (.mk k n s ts) = if 1 + pickedF k 11 = 1 then [litOp n s] else if 1 + pickedF k 11 = 2 then [colOp n]
  else if 1 + pickedF k 11 = 5 ∨ 1 + pickedF k 11 = 11 then subO r ts n s 0 ++ [bareOp (1 + pickedF k 11)] else (subO r ts n s 0 ++ subO r ts n s 1) ++ [bareOp (1 + pickedF k 11)] := rfl

theorem places45_Nm5 : ∀ w, ((#[{ name := "Kind", type := 3, offset := 0, embedded := false, tag := "", pkgPath := "", byteOffset := 0 }, { name := "Int", type := 3, offset := 1, embedded := false, tag := "", pkgPath := "", byteOffset := 8 }, { name := "Text", type := 9, offset := 2, embedded := false, tag := "", pkgPath := "", byteOffset := 16 }, { name := "In", type := 43, offset := 3, embedded := false, tag := "", pkgPath := "", byteOffset := 32 }] : Array Field).mapM fun f => do pure (f.offset, ← sizeOf f.type) : Sem (Array (Nat × Nat))).run Tryz.prog w = .ok #[(0, 1), (1, 1), (2, 1), (3, 1)] w := fun w => by simp [Tryz.sizeOf3, Tryz.sizeOf43, Tryz.sizeOf9]

set_option maxHeartbeats 4000000 in
set_option maxRecDepth 100000 in
theorem in_vc (r : Nat) (k n d : Int) (s : ByteArray) (ts : List Tw) (i b2 b3 : Nat) (IH : ∀ t ∈ ts, VC Tryz.prog G 22 [.agg t.cs, .v (.int .i64 (d + 1))] [] (RetO (opsAt r t))) (hn1 : -9223372036854775808 ≤ n) (hn2 : n ≤ 9223372036854775807) (hs : s.size ≤ maxLen) (hd1 : 0 ≤ d) (hd : d ≤ 2) (hi : i ≤ 1) : VC Tryz.prog G 42 [.v (.int .i64 (i : Int)), .v (.pointer (some ⟨b2, 0, none⟩)), .v (.pointer (some ⟨b3, 0, none⟩))] [⟨b3, 3, 1, [.v (.int .i64 d)]⟩, ⟨b2, 45, 4, [.v (.int .i64 k), .v (.int .i64 n), .v (.string s), .list 4 (ts.flatMap Tw.cs) ts.length]⟩] (fun x S => ∃ S1, RetO (subO r ts n s i) x S1 ∧ S = S1 ++ [⟨b3, 3, 1, [.v (.int .i64 d)]⟩, ⟨b2, 45, 4, [.v (.int .i64 k), .v (.int .i64 n), .v (.string s), .list 4 (ts.flatMap Tw.cs) ts.length]⟩]) := by
 refine VC.body Tryz.func42 rfl Tryz.ntmps42 (Nat.le_of_ble_eq_true rfl) fun X0 w0 S00 => ?_
 refine sr_ ?_
 refine os_ mv_ ?_
 refine OD.wk (Wk.as_ (n := 25) (l' := [(0, _), (1, _), (2, _)]) (S' := _) rfl rfl ⟨lk, lk, lk, trivial⟩) ?_
 refine OD.nil ?_
 refine CD.seq ?_
 refine sr_ ?_
 refine os_ mv_ ?_
 refine os_ (fa_ 3) ?_
 refine os_ (lb_ 1) ?_
 refine os_ ln_ ?_
 refine os_ bn_ ?_
 refine OD.wk (Wk.as_ (n := 25) (l' := [(0, _), (1, _), (2, _), (9, _)]) (S' := _) rfl rfl ⟨lk, lk, lk, lk, trivial⟩) ?_
 refine OD.nil ?_
 refine CD.cond ot (fun hc0 => ?_) (fun hc0 => ?_)
 ·have hc0' := hc0
  (try simp only [V.cnd, ne_eq] at hc0')
  have hlt : i < ts.length := by omega
  refine CD.seq ?_
  refine CD.draw (bks _) (by kernel_rfl) (fun _ h => h) ?_
  refine AD0.take (i := 0) rfl (by kernel_rfl) (by kernel_rfl) (by kernel_rfl) (by repeat (first | exact NP.body | apply NP.then | apply NP.cut | apply NP.inBlock | apply NP.round)) (wants_plain rfl) rfl (still_r1 (mk := fun y => Op.fieldAddr 45 y 3) rfl ot (by first | exact fa_ptr (off := 3) Tryz.runUnderlying45 rfl Tryz.sizeOf43 rfl | exact fa_iptr (off := 3) Tryz.runUnderlying45 rfl Tryz.sizeOf43 rfl)) (by exact trivial) ?_
  refine AD0.take (i := 1) rfl (by kernel_rfl) (by kernel_rfl) (by kernel_rfl) (by repeat (first | exact NP.body | apply NP.then | apply NP.cut | apply NP.inBlock | apply NP.round)) (wants_plain rfl) rfl (still_r1 (mk := Op.load 43) rfl ot (by first | exact ld_blk (k := 1) rfl rfl Tryz.isAgg43 rfl | exact ld_fm Tw.cs_len Tryz.isAgg43 (by first | assumption | omega) rfl | exact ld_fm0 Tw.cs_len Tryz.isAgg43 (by first | assumption | omega) rfl | exact ld_row (k := 0) Tw.cs_len rfl rfl rfl Tryz.isAgg43 (by first | assumption | omega) rfl | exact ld_row0 (k := 0) Tw.cs_len rfl rfl rfl Tryz.isAgg43 (by first | assumption | omega) rfl | exact ld_row (k := 1) Tw.cs_len rfl rfl rfl Tryz.isAgg43 (by first | assumption | omega) rfl | exact ld_row0 (k := 1) Tw.cs_len rfl rfl rfl Tryz.isAgg43 (by first | assumption | omega) rfl | exact ld_i Tryz.isAgg43 rfl)) (by first | exact trivial | exact safe_blk (k0 := 0) rfl rfl | exact safe_blk (k0 := 1) rfl rfl) ?_
  refine AD0.take (i := 2) rfl (by kernel_rfl) (by kernel_rfl) (by kernel_rfl) (by repeat (first | exact NP.body | apply NP.then | apply NP.cut | apply NP.inBlock | apply NP.round)) (wants_plain rfl) rfl (still_mv rfl ot) (by exact trivial) ?_
  refine AD0.take (i := 3) rfl (by kernel_rfl) (by kernel_rfl) (by kernel_rfl) (by repeat (first | exact NP.body | apply NP.then | apply NP.cut | apply NP.inBlock | apply NP.round)) (wants_plain rfl) rfl (still_r2 (mk := Op.indexAddr 43) rfl ot ot (by first | exact ix_list Tryz.runUnderlying43 Tryz.sizeOf45 rfl (by first | assumption | omega) | exact ix_list (j := Int.toNat _) Tryz.runUnderlying43 Tryz.sizeOf45 (Int.toNat_of_nonneg (by omega)).symm (by omega) | exact ix_row Tryz.runUnderlying43 Tryz.sizeOf45 rfl (by first | assumption | omega) | exact ix_row (j := Int.toNat _) Tryz.runUnderlying43 Tryz.sizeOf45 (Int.toNat_of_nonneg (by omega)).symm (by omega))) (by exact trivial) ?_
  refine AD0.take (i := 4) rfl (by kernel_rfl) (by kernel_rfl) (by kernel_rfl) (by repeat (first | exact NP.body | apply NP.then | apply NP.cut | apply NP.inBlock | apply NP.round)) (wants_plain rfl) rfl (still_r1 (mk := Op.load 45) rfl ot (by first | exact ld_blks (k := 0) (ds := [_, _, _, _]) rfl rfl Tryz.isAgg45 Tryz.sizeOf45 rfl rfl | exact ld_blks (k := 1) (ds := [_, _, _, _]) rfl rfl Tryz.isAgg45 Tryz.sizeOf45 rfl rfl | exact ld_fms Tw.cs_len Tryz.isAgg45 Tryz.sizeOf45 (by first | assumption | omega) | exact ld_rows (k := 0) Tw.cs_len rfl rfl rfl Tryz.isAgg45 Tryz.sizeOf45 (by first | assumption | omega) | exact ld_rows (k := 1) Tw.cs_len rfl rfl rfl Tryz.isAgg45 Tryz.sizeOf45 (by first | assumption | omega) | exact ld_is (ds := [_, _, _, _]) Tryz.isAgg45 Tryz.sizeOf45 rfl rfl)) (by first | exact trivial | exact safe_blk (k0 := 0) rfl rfl | exact safe_blk (k0 := 1) rfl rfl) ?_
  refine AD0.take (i := 5) rfl (by kernel_rfl) (by kernel_rfl) (by kernel_rfl) (by repeat (first | exact NP.body | apply NP.then | apply NP.cut | apply NP.inBlock | apply NP.round)) (wants_plain rfl) rfl (still_r1 (mk := Op.load 3) rfl ot (by first | exact ld_blk (k := 0) rfl rfl Tryz.isAgg3 rfl | exact ld_fm Tw.cs_len Tryz.isAgg3 (by first | assumption | omega) rfl | exact ld_fm0 Tw.cs_len Tryz.isAgg3 (by first | assumption | omega) rfl | exact ld_row (k := 0) Tw.cs_len rfl rfl rfl Tryz.isAgg3 (by first | assumption | omega) rfl | exact ld_row0 (k := 0) Tw.cs_len rfl rfl rfl Tryz.isAgg3 (by first | assumption | omega) rfl | exact ld_row (k := 1) Tw.cs_len rfl rfl rfl Tryz.isAgg3 (by first | assumption | omega) rfl | exact ld_row0 (k := 1) Tw.cs_len rfl rfl rfl Tryz.isAgg3 (by first | assumption | omega) rfl | exact ld_i Tryz.isAgg3 rfl)) (by first | exact trivial | exact safe_blk (k0 := 0) rfl rfl | exact safe_blk (k0 := 1) rfl rfl) ?_
  refine AD0.take (i := 6) rfl (by kernel_rfl) (by kernel_rfl) (by kernel_rfl) (by repeat (first | exact NP.body | apply NP.then | apply NP.cut | apply NP.inBlock | apply NP.round)) (wants_plain rfl) rfl (still_bin rfl ot opd_const (bin_add (wrap_i64 (by omega) (by omega)))) (by exact trivial) ?_
  refine AD0.later rfl ?_
  refine AD.one (i := 7) (by kernel_rfl) ?_
  refine AStep.call rfl (wants_plain rfl) rfl rfl rfl Tryz.call22 (IH _ (List.getElem_mem hlt)) ⟨ot, ot, trivial⟩ (perm_none _) (fun _ h => h) ?_
  rintro _ S17 ⟨ad17, cp17, rfl, ho17⟩
  refine AD.take (i := 8) rfl (by kernel_rfl) (by kernel_rfl) (by kernel_rfl) (by repeat (first | exact NP.body | apply NP.then | apply NP.cut | apply NP.inBlock | apply NP.round)) (wants_plain rfl) rfl (still_as rfl ot) (by exact trivial) (by intro h; cases h) ?_
  refine AD.wk (y := ⟨25, [(4, _)], ((S17 ++ [_, _]))⟩) (Wk.as_ rfl rfl ⟨lk, trivial⟩) rfl ?_
  refine AD.done (by kernel_rfl) ?_
  refine CD.ret ?_
  refine ⟨.inr rfl, _, _, (List.Sublist.refl _), ret_one Tryz.results42 (res_tmp (Nat.le_of_ble_eq_true rfl) lk), ?_⟩
  first | exact ⟨_, RetL.cast (RetL.mk ho17) (sub_some hlt), rfl⟩ | exact ⟨_, RetL.cast (RetL.mk ho24) (sub_none (by omega)), rfl⟩
 ·have hc0' := hc0
  (try simp only [V.cnd, ne_eq] at hc0')
  refine CD.skip ?_
  refine sr_ ?_
  refine os_ (fa_ 1) ?_
  refine os_ (lb_ 1) ?_
  refine os_ mv_ ?_
  refine os_ (fa_ 2) ?_
  refine os_ (lb_ 1) ?_
  refine OD.still (wants_plain rfl) rfl (still_bld (pl := [(0, _), (1, _), (2, _)]) (ds := [_, _, _, _]) rfl Tryz.zeroValue45 Tryz.runUnderlying45 places45_Nm5 ⟨rfl, ot, rfl, ot, rfl, ot, trivial⟩ rfl rfl) ?_
  refine OD.call (wants_plain rfl) rfl rfl rfl Tryz.call22 (leaf_vc n (i : Int) 9 s (.v (.slice none 0 0)) rfl hn1 hn2 (by omega) (by omega) hs (by decide)) ⟨ot, opd_const, trivial⟩ (perm_none _) ?_
  rintro _ S24 ⟨ad24, cp24, rfl, ho24⟩
  refine os_ mv_ ?_
  refine OD.wk (Wk.as_ (n := 25) (l' := [(4, _)]) (S' := _) rfl rfl ⟨lk, trivial⟩) ?_
  refine OD.nil ?_
  refine CD.ret ?_
  refine ⟨.inr rfl, _, _, (List.Sublist.refl _), ret_one Tryz.results42 (res_tmp (Nat.le_of_ble_eq_true rfl) lk), ?_⟩
  first | exact ⟨_, RetL.cast (RetL.mk ho17) (sub_some hlt), rfl⟩ | exact ⟨_, RetL.cast (RetL.mk ho24) (sub_none (by omega)), rfl⟩

theorem info35_Nm5 : (Tryz.prog.info? 35).map (fun i => (i.zero, i.size, i.bytes)) = some (some (.agg #[.int .i64 0, .int .i64 0, .int .i64 0, .string ⟨#[]⟩, .string ⟨#[]⟩]), 5, 56) := by kernel_rfl

theorem places35_Nm5 : ∀ w, ((#[{ name := "Kind", type := 3, offset := 0, embedded := false, tag := "", pkgPath := "", byteOffset := 0 }, { name := "Value", type := 26, offset := 1, embedded := false, tag := "", pkgPath := "", byteOffset := 8 }, { name := "Name", type := 9, offset := 4, embedded := false, tag := "", pkgPath := "", byteOffset := 40 }] : Array Field).mapM fun f => do pure (f.offset, ← sizeOf f.type) : Sem (Array (Nat × Nat))).run Tryz.prog w = .ok #[(0, 1), (1, 3), (4, 1)] w := fun w => by simp [Tryz.sizeOf26, Tryz.sizeOf3, Tryz.sizeOf9]

theorem places85_Nm5 : ∀ w, ((#[{ name := "Kind", type := 3, offset := 0, embedded := false, tag := "", pkgPath := "", byteOffset := 0 }, { name := "Int", type := 3, offset := 1, embedded := false, tag := "", pkgPath := "", byteOffset := 8 }, { name := "Text", type := 9, offset := 2, embedded := false, tag := "", pkgPath := "", byteOffset := 16 }] : Array Field).mapM fun f => do pure (f.offset, ← sizeOf f.type) : Sem (Array (Nat × Nat))).run Tryz.prog w = .ok #[(0, 1), (1, 1), (2, 1)] w := fun w => by simp [Tryz.sizeOf3, Tryz.sizeOf9]

set_option maxHeartbeats 4000000 in
set_option maxRecDepth 100000 in
theorem step_vc (r : Nat) (hr : r ≤ 2) (k n d : Int) (s : ByteArray) (ts : List Tw) (IH : ∀ t ∈ ts, VC Tryz.prog G 22 [.agg t.cs, .v (.int .i64 (d + 1))] [] (RetO (opsAt r t))) (hk1 : -9223372036854775808 ≤ k) (hk2 : k ≤ 9223372036854775807) (hn1 : -9223372036854775808 ≤ n) (hn2 : n ≤ 9223372036854775807) (hs : s.size ≤ maxLen) (hd1 : 0 ≤ d) (hd : d ≤ 2) : VC Tryz.prog G 22 [.agg [.v (.int .i64 k), .v (.int .i64 n), .v (.string s), .list 4 (ts.flatMap Tw.cs) ts.length], .v (.int .i64 d)] [] (RetO (opsAt (r + 1) (.mk k n s ts))) := by
 refine VC.body Tryz.func22 rfl Tryz.ntmps22 (Nat.le_of_ble_eq_true rfl) fun X0 w0 S00 => ?_
 have hpk := pickedF_bd k (by decide : (1 : Int) ≤ 11)
 have hpn := pickedF_bd n (by decide : (1 : Int) ≤ 40)
 have hpc := pickedF_bd n (by decide : (1 : Int) ≤ 4)
 obtain ⟨j, hj⟩ := Int.eq_ofNat_of_zero_le hpc.1
 have hj4 : j < 4 := by omega
 have hpkn := picked_vp G n 4 hn1 hn2 (by decide)
 rw [hj] at hpkn
 have hvo : (⟨n, pickedF n 40 - 20, s⟩ : Vl).Ok := ⟨hn1, hn2, by show _ ≤ pickedF n 40 - 20; omega, by show pickedF n 40 - 20 ≤ _; omega, hs⟩
 have hvs := value_size ⟨n, pickedF n 40 - 20, s⟩
 have hml : 100 ≤ maxLen := by decide
 obtain ⟨kk, hkk⟩ : ∃ kk : Int, 1 + pickedF k 11 = kk := ⟨_, rfl⟩
 have hl0 := sub_len r ts n s 0
 have hl1 := sub_len r ts n s 1
 have h2p : 2 ^ (r + 1) ≤ 8 := Nat.pow_le_pow_right (by decide) (show r + 1 ≤ 3 by omega)
 refine sr_ ?_
 refine OD.box (ds := [_, _, _, _]) (wants_plain rfl) rfl rfl ot rfl rfl (fun b2 => ?_)
 refine OD.box (ds := [_]) (wants_plain rfl) rfl rfl ot rfl rfl (fun b3 => ?_)
 refine os_ mv_ ?_
 refine OD.wk (Wk.as_ (n := 69) (l' := [(2, _), (3, _)]) (S' := [⟨b3, 3, 1, [_]⟩, ⟨b2, 45, 4, [_, _, _, _]⟩]) rfl rfl ⟨lk, lk, trivial⟩) ?_
 refine OD.nil ?_
 refine sr_ ?_
 refine os_ (fa_ 0) ?_
 refine os_ (lb_ 1) ?_
 refine OD.callP (wants_plain rfl) rfl rfl rfl Tryz.call5 (picked_vp G k 11 hk1 hk2 (by decide)) ⟨ot, opd_const, trivial⟩ ?_
 refine OD.still (wants_plain rfl) rfl (still_bin (r := .int .i64 kk) rfl opd_const ot (bin_add (by rw [hkk]; exact wrap_i64 (by omega) (by omega)))) ?_
 refine os_ mv_ ?_
 refine OD.wk (Wk.as_ (n := 69) (l' := [(2, _), (3, _), (5, _)]) (S' := [⟨b3, 3, 1, [_]⟩, ⟨b2, 45, 4, [_, _, _, _]⟩]) rfl rfl ⟨lk, lk, lk, trivial⟩) ?_
 refine OD.nil ?_
 refine CD.seq ?_
 refine sr_ ?_
 refine os_ (lb_ 0) ?_
 refine os_ bn_ ?_
 refine os_ mv_ ?_
 refine OD.split (t := 14) lk (fun hg14 => ?_) (fun hg14 => ?_)
 ·exact absurd hg14 (by simp at hg14; omega)
 ·have hg14' := hg14; (try simp only [V.cnd, ne_eq] at hg14')
  refine sk_ ?_
  refine sk_ ?_
  refine os_ pkF_ ?_
  refine nm_ [2, 3, 5, 17] ?_
  refine CD.condF ot (by first | rfl | assumption) ?_
  refine CD.skip ?_
  refine sr_ ?_
  refine OD.still (wants_plain rfl) rfl (still_fn (ds := [_, _]) rfl ⟨ot, ot, trivial⟩) ?_
  refine os_ mv_ ?_
  refine OD.wk (Wk.as_ (n := 69) (l' := [(2, _), (5, _), (6, _)]) (S' := [⟨b3, 3, 1, [_]⟩, ⟨b2, 45, 4, [_, _, _, _]⟩]) rfl rfl ⟨lk, lk, lk, trivial⟩) ?_
  refine OD.nil ?_
  refine CD.seq ?_
  refine sr_ ?_
  refine os_ mv_ ?_
  refine nm_ [2, 5, 6, 19] ?_
  refine CD.block ?_
  refine sr_ ?_
  refine os_ bn_ ?_
  refine os_ mv_ ?_
  refine nm_ [2, 5, 6, 19, 20] ?_
  refine CD.cond ot (fun hc1 => ?_) (fun hc1 => ?_)
  ·have hc1' := hc1
   (try simp only [V.cnd, ne_eq] at hc1')
   refine CD.seq ?_
   refine CD.draw (bks _) (by kernel_rfl) (fun _ h => h) ?_
   refine AD0.take (i := 0) rfl (by kernel_rfl) (by kernel_rfl) (by kernel_rfl) (by repeat (first | exact NP.body | apply NP.then | apply NP.cut | apply NP.inBlock | apply NP.round)) (wants_plain rfl) rfl (still_r1 (mk := fun y => Op.fieldAddr 45 y 1) rfl ot (by first | exact fa_ptr (off := 1) Tryz.runUnderlying45 rfl Tryz.sizeOf3 rfl | exact fa_iptr (off := 1) Tryz.runUnderlying45 rfl Tryz.sizeOf3 rfl)) (by exact trivial) ?_
   refine AD0.take (i := 1) rfl (by kernel_rfl) (by kernel_rfl) (by kernel_rfl) (by repeat (first | exact NP.body | apply NP.then | apply NP.cut | apply NP.inBlock | apply NP.round)) (wants_plain rfl) rfl (still_r1 (mk := Op.load 3) rfl ot (by first | exact ld_blk (k := 1) rfl rfl Tryz.isAgg3 rfl | exact ld_i Tryz.isAgg3 rfl)) (by first | exact trivial | exact safe_blk (k0 := 0) rfl rfl | exact safe_blk (k0 := 1) rfl rfl) ?_
   refine AD0.take (i := 2) rfl (by kernel_rfl) (by kernel_rfl) (by kernel_rfl) (by repeat (first | exact NP.body | apply NP.then | apply NP.cut | apply NP.inBlock | apply NP.round)) (wants_plain rfl) rfl (still_r1 (mk := fun y => Op.fieldAddr 45 y 1) rfl ot (by first | exact fa_ptr (off := 1) Tryz.runUnderlying45 rfl Tryz.sizeOf3 rfl | exact fa_iptr (off := 1) Tryz.runUnderlying45 rfl Tryz.sizeOf3 rfl)) (by exact trivial) ?_
   refine AD0.take (i := 3) rfl (by kernel_rfl) (by kernel_rfl) (by kernel_rfl) (by repeat (first | exact NP.body | apply NP.then | apply NP.cut | apply NP.inBlock | apply NP.round)) (wants_plain rfl) rfl (still_r1 (mk := Op.load 3) rfl ot (by first | exact ld_blk (k := 1) rfl rfl Tryz.isAgg3 rfl | exact ld_i Tryz.isAgg3 rfl)) (by first | exact trivial | exact safe_blk (k0 := 0) rfl rfl | exact safe_blk (k0 := 1) rfl rfl) ?_
   refine AD0.take (i := 6) rfl (by kernel_rfl) (by kernel_rfl) (by kernel_rfl) (by repeat (first | exact NP.body | apply NP.then | apply NP.cut | apply NP.inBlock | apply NP.round)) (wants_plain rfl) rfl (still_r1 (mk := fun y => Op.fieldAddr 45 y 2) rfl ot (by first | exact fa_ptr (off := 2) Tryz.runUnderlying45 rfl Tryz.sizeOf9 rfl | exact fa_iptr (off := 2) Tryz.runUnderlying45 rfl Tryz.sizeOf9 rfl)) (by exact trivial) ?_
   refine AD0.take (i := 7) rfl (by kernel_rfl) (by kernel_rfl) (by kernel_rfl) (by repeat (first | exact NP.body | apply NP.then | apply NP.cut | apply NP.inBlock | apply NP.round)) (wants_plain rfl) rfl (still_r1 (mk := Op.load 9) rfl ot (by first | exact ld_blk (k := 1) rfl rfl Tryz.isAgg9 rfl | exact ld_i Tryz.isAgg9 rfl)) (by first | exact trivial | exact safe_blk (k0 := 0) rfl rfl | exact safe_blk (k0 := 1) rfl rfl) ?_
   refine AD0.later rfl ?_
   refine AD.two (i := 4) (j := 10) (by kernel_rfl) ?_ ?_
   ·skip
    refine AStep.callP rfl (wants_plain rfl) rfl rfl rfl Tryz.call5 (picked_vp G n 40 hn1 hn2 (by decide)) ⟨ot, opd_const, trivial⟩ ?_
    refine AD.take (i := 5) rfl (by kernel_rfl) (by kernel_rfl) (by kernel_rfl) (by repeat (first | exact NP.body | apply NP.then | apply NP.cut | apply NP.inBlock | apply NP.round)) (wants_plain rfl) rfl (still_bin rfl ot opd_const (bin_sub (wrap_i64 (by omega) (by omega)))) (by exact trivial) (by intro h; cases h) ?_
    refine AD.take (i := 8) rfl (by kernel_rfl) (by kernel_rfl) (by kernel_rfl) (by repeat (first | exact NP.body | apply NP.then | apply NP.cut | apply NP.inBlock | apply NP.round)) (wants_plain rfl) rfl (still_bld (pl := [(0, _), (1, _), (2, _)]) (ds := [_, _, _]) rfl Tryz.zeroValue85 Tryz.runUnderlying85 places85_Nm5 ⟨rfl, ot, rfl, ot, rfl, ot, trivial⟩ rfl rfl) (by exact trivial) (by intro h; cases h) ?_
    refine AD.two (i := 9) (j := 10) (by kernel_rfl) ?_ ?_
    ·skip
     refine AStep.callP rfl (wants_plain rfl) rfl rfl rfl Tryz.call43 (value_vp ⟨n, pickedF n 40 - 20, s⟩ hvo) ⟨ot, trivial⟩ ?_
     refine AD.one (i := 10) (by kernel_rfl) ?_
     refine AStep.alloc (ds := [_, _, _]) rfl (wants_plain rfl) rfl rfl Tryz.zeroValue26 rfl (fun b7 => ?_)
     refine AD.one (i := 11) (by kernel_rfl) ?_
     refine AStep.store (k := 0) (cs' := [_, _, _]) rfl (wants_plain rfl) rfl rfl ot rfl rfl ot rfl rfl Tryz.sizeOf26 rfl rfl rfl (by intro b hb; simp [bks, St.put] at hb ⊢; try first | exact hb | simp [hb] | (rcases hb with hb | hb <;> simp [hb]) | (rcases hb with hb | hb | hb <;> simp [hb])) ?_
     refine AD.wk (y := ⟨69, [(5, _), (7, _)], [⟨b7, 26, 3, [_, _, _]⟩, ⟨b3, 3, 1, [_]⟩, ⟨b2, 45, 4, [_, _, _, _]⟩]⟩) (Wk.as_ rfl rfl ⟨lk, lk, trivial⟩) rfl ?_
     refine AD.done (by kernel_rfl) ?_
     refine sr_ ?_
     refine os_ (fa_ 2) ?_
     refine os_ (lb_ 0) ?_
     refine OD.callP (wants_plain rfl) rfl rfl rfl Tryz.call14 (cut_vp (valueF ⟨n, pickedF n 40 - 20, s⟩).s 4 (by omega)) ⟨ot, opd_const, trivial⟩ ?_
     refine os_ (fa_ 2) ?_
     refine OD.store (k := 0) (cs' := [_, _, _]) (wants_plain rfl) rfl rfl ot rfl rfl ot rfl rfl Tryz.sizeOf9 rfl rfl rfl ?_
     refine OD.wk (Wk.as_ (n := 69) (l' := [(5, _), (7, _)]) (S' := [⟨b7, 26, 3, [_, _, _]⟩, ⟨b3, 3, 1, [_]⟩, ⟨b2, 45, 4, [_, _, _, _]⟩]) rfl rfl ⟨lk, lk, trivial⟩) ?_
     refine OD.nil ?_
     refine sr_ ?_
     refine os_ mv_ ?_
     refine os_ (lab_ 0 [_, _, _]) ?_
     refine OD.still (wants_plain rfl) rfl (still_bld (pl := [(0, _), (1, _)]) (ds := [_, _, _, _, _]) rfl Tryz.zeroValue35 Tryz.runUnderlying35 places35_Nm5 ⟨rfl, ot, rfl, ot, trivial⟩ rfl rfl) ?_
     refine OD.bldS (pl := numD 0 [_]) (zvs := [.int .i64 0, .int .i64 0, .int .i64 0, .string ⟨#[]⟩, .string ⟨#[]⟩]) (ds := [_, _, _, _, _]) (wants_plain rfl) rfl rfl Tryz.zeroValue35 Tryz.runUnderlying36 Tryz.sizeOf35 rfl rfl (by kernel_rfl) ⟨rfl, ot, trivial⟩ (by exact rfl) (fill_full (by exact rfl) (by exact rfl) (by exact rfl)) (fun b39 => ?_)
     refine os_ mv_ ?_
     refine OD.wk (Wk.as_ (n := 69) (l' := [(4, _)]) (S' := [⟨b39, 35, 5, [_, _, _, _, _]⟩, ⟨b7, 26, 3, [_, _, _]⟩, ⟨b3, 3, 1, [_]⟩, ⟨b2, 45, 4, [_, _, _, _]⟩]) rfl rfl ⟨lk, trivial⟩) ?_
     refine OD.nil ?_
     refine CD.ret ?_
     refine ⟨.inr rfl, _, [_], (List.Sublist.cons_cons _ (List.nil_sublist _)), ret_one Tryz.results22 (res_tmp (Nat.le_of_ble_eq_true rfl) lk), ?_⟩
     first | exact RetL.cast (RetL.mk (g := cO) (e := 35) (sz := 5) (ls := [(⟨kk, litV n s, ⟨#[]⟩⟩ : OpL)]) (ownL_row (ls := [(⟨kk, litV n s, ⟨#[]⟩⟩ : OpL)]) (Nat.le_refl _) (show 1 ≤ maxLen by decide))) (by rw [ops_step, hkk, if_pos (by omega)]; unfold litOp; rw [show kk = 1 by omega]) | exact RetL.cast (RetL.mk (g := cO) (e := 35) (sz := 5) (ls := [(⟨kk, noVl, nameC (j : Int)⟩ : OpL)]) (ownL_row (ls := [(⟨kk, noVl, nameC (j : Int)⟩ : OpL)]) (Nat.le_refl _) (show 1 ≤ maxLen by decide))) (by rw [ops_step, hkk, if_neg (by omega), if_pos (by omega)]; unfold colOp; rw [hj, show kk = 2 by omega])
    ·skip
     refine AStep.alloc (ds := [_, _, _]) rfl (wants_plain rfl) rfl rfl Tryz.zeroValue26 rfl (fun b7 => ?_)
     refine AD.one (i := 9) (by kernel_rfl) ?_
     refine AStep.callP rfl (wants_plain rfl) rfl rfl rfl Tryz.call43 (value_vp ⟨n, pickedF n 40 - 20, s⟩ hvo) ⟨ot, trivial⟩ ?_
     refine AD.one (i := 11) (by kernel_rfl) ?_
     refine AStep.store (k := 0) (cs' := [_, _, _]) rfl (wants_plain rfl) rfl rfl ot rfl rfl ot rfl rfl Tryz.sizeOf26 rfl rfl rfl (by intro b hb; simp [bks, St.put] at hb ⊢; try first | exact hb | simp [hb] | (rcases hb with hb | hb <;> simp [hb]) | (rcases hb with hb | hb | hb <;> simp [hb])) ?_
     refine AD.wk (y := ⟨69, [(5, _), (7, _)], [⟨b7, 26, 3, [_, _, _]⟩, ⟨b3, 3, 1, [_]⟩, ⟨b2, 45, 4, [_, _, _, _]⟩]⟩) (Wk.as_ rfl rfl ⟨lk, lk, trivial⟩) rfl ?_
     refine AD.done (by kernel_rfl) ?_
     refine sr_ ?_
     refine os_ (fa_ 2) ?_
     refine os_ (lb_ 0) ?_
     refine OD.callP (wants_plain rfl) rfl rfl rfl Tryz.call14 (cut_vp (valueF ⟨n, pickedF n 40 - 20, s⟩).s 4 (by omega)) ⟨ot, opd_const, trivial⟩ ?_
     refine os_ (fa_ 2) ?_
     refine OD.store (k := 0) (cs' := [_, _, _]) (wants_plain rfl) rfl rfl ot rfl rfl ot rfl rfl Tryz.sizeOf9 rfl rfl rfl ?_
     refine OD.wk (Wk.as_ (n := 69) (l' := [(5, _), (7, _)]) (S' := [⟨b7, 26, 3, [_, _, _]⟩, ⟨b3, 3, 1, [_]⟩, ⟨b2, 45, 4, [_, _, _, _]⟩]) rfl rfl ⟨lk, lk, trivial⟩) ?_
     refine OD.nil ?_
     refine sr_ ?_
     refine os_ mv_ ?_
     refine os_ (lab_ 0 [_, _, _]) ?_
     refine OD.still (wants_plain rfl) rfl (still_bld (pl := [(0, _), (1, _)]) (ds := [_, _, _, _, _]) rfl Tryz.zeroValue35 Tryz.runUnderlying35 places35_Nm5 ⟨rfl, ot, rfl, ot, trivial⟩ rfl rfl) ?_
     refine OD.bldS (pl := numD 0 [_]) (zvs := [.int .i64 0, .int .i64 0, .int .i64 0, .string ⟨#[]⟩, .string ⟨#[]⟩]) (ds := [_, _, _, _, _]) (wants_plain rfl) rfl rfl Tryz.zeroValue35 Tryz.runUnderlying36 Tryz.sizeOf35 rfl rfl (by kernel_rfl) ⟨rfl, ot, trivial⟩ (by exact rfl) (fill_full (by exact rfl) (by exact rfl) (by exact rfl)) (fun b39 => ?_)
     refine os_ mv_ ?_
     refine OD.wk (Wk.as_ (n := 69) (l' := [(4, _)]) (S' := [⟨b39, 35, 5, [_, _, _, _, _]⟩, ⟨b7, 26, 3, [_, _, _]⟩, ⟨b3, 3, 1, [_]⟩, ⟨b2, 45, 4, [_, _, _, _]⟩]) rfl rfl ⟨lk, trivial⟩) ?_
     refine OD.nil ?_
     refine CD.ret ?_
     refine ⟨.inr rfl, _, [_], (List.Sublist.cons_cons _ (List.nil_sublist _)), ret_one Tryz.results22 (res_tmp (Nat.le_of_ble_eq_true rfl) lk), ?_⟩
     first | exact RetL.cast (RetL.mk (g := cO) (e := 35) (sz := 5) (ls := [(⟨kk, litV n s, ⟨#[]⟩⟩ : OpL)]) (ownL_row (ls := [(⟨kk, litV n s, ⟨#[]⟩⟩ : OpL)]) (Nat.le_refl _) (show 1 ≤ maxLen by decide))) (by rw [ops_step, hkk, if_pos (by omega)]; unfold litOp; rw [show kk = 1 by omega]) | exact RetL.cast (RetL.mk (g := cO) (e := 35) (sz := 5) (ls := [(⟨kk, noVl, nameC (j : Int)⟩ : OpL)]) (ownL_row (ls := [(⟨kk, noVl, nameC (j : Int)⟩ : OpL)]) (Nat.le_refl _) (show 1 ≤ maxLen by decide))) (by rw [ops_step, hkk, if_neg (by omega), if_pos (by omega)]; unfold colOp; rw [hj, show kk = 2 by omega])
   ·skip
    refine AStep.alloc (ds := [_, _, _]) rfl (wants_plain rfl) rfl rfl Tryz.zeroValue26 rfl (fun b7 => ?_)
    refine AD.one (i := 4) (by kernel_rfl) ?_
    refine AStep.callP rfl (wants_plain rfl) rfl rfl rfl Tryz.call5 (picked_vp G n 40 hn1 hn2 (by decide)) ⟨ot, opd_const, trivial⟩ ?_
    refine AD.take (i := 5) rfl (by kernel_rfl) (by kernel_rfl) (by kernel_rfl) (by repeat (first | exact NP.body | apply NP.then | apply NP.cut | apply NP.inBlock | apply NP.round)) (wants_plain rfl) rfl (still_bin rfl ot opd_const (bin_sub (wrap_i64 (by omega) (by omega)))) (by exact trivial) (by intro h; cases h) ?_
    refine AD.take (i := 8) rfl (by kernel_rfl) (by kernel_rfl) (by kernel_rfl) (by repeat (first | exact NP.body | apply NP.then | apply NP.cut | apply NP.inBlock | apply NP.round)) (wants_plain rfl) rfl (still_bld (pl := [(0, _), (1, _), (2, _)]) (ds := [_, _, _]) rfl Tryz.zeroValue85 Tryz.runUnderlying85 places85_Nm5 ⟨rfl, ot, rfl, ot, rfl, ot, trivial⟩ rfl rfl) (by exact trivial) (by intro h; cases h) ?_
    refine AD.one (i := 9) (by kernel_rfl) ?_
    refine AStep.callP rfl (wants_plain rfl) rfl rfl rfl Tryz.call43 (value_vp ⟨n, pickedF n 40 - 20, s⟩ hvo) ⟨ot, trivial⟩ ?_
    refine AD.one (i := 11) (by kernel_rfl) ?_
    refine AStep.store (k := 0) (cs' := [_, _, _]) rfl (wants_plain rfl) rfl rfl ot rfl rfl ot rfl rfl Tryz.sizeOf26 rfl rfl rfl (by intro b hb; simp [bks, St.put] at hb ⊢; try first | exact hb | simp [hb] | (rcases hb with hb | hb <;> simp [hb]) | (rcases hb with hb | hb | hb <;> simp [hb])) ?_
    refine AD.wk (y := ⟨69, [(5, _), (7, _)], [⟨b7, 26, 3, [_, _, _]⟩, ⟨b3, 3, 1, [_]⟩, ⟨b2, 45, 4, [_, _, _, _]⟩]⟩) (Wk.as_ rfl rfl ⟨lk, lk, trivial⟩) rfl ?_
    refine AD.done (by kernel_rfl) ?_
    refine sr_ ?_
    refine os_ (fa_ 2) ?_
    refine os_ (lb_ 0) ?_
    refine OD.callP (wants_plain rfl) rfl rfl rfl Tryz.call14 (cut_vp (valueF ⟨n, pickedF n 40 - 20, s⟩).s 4 (by omega)) ⟨ot, opd_const, trivial⟩ ?_
    refine os_ (fa_ 2) ?_
    refine OD.store (k := 0) (cs' := [_, _, _]) (wants_plain rfl) rfl rfl ot rfl rfl ot rfl rfl Tryz.sizeOf9 rfl rfl rfl ?_
    refine OD.wk (Wk.as_ (n := 69) (l' := [(5, _), (7, _)]) (S' := [⟨b7, 26, 3, [_, _, _]⟩, ⟨b3, 3, 1, [_]⟩, ⟨b2, 45, 4, [_, _, _, _]⟩]) rfl rfl ⟨lk, lk, trivial⟩) ?_
    refine OD.nil ?_
    refine sr_ ?_
    refine os_ mv_ ?_
    refine os_ (lab_ 0 [_, _, _]) ?_
    refine OD.still (wants_plain rfl) rfl (still_bld (pl := [(0, _), (1, _)]) (ds := [_, _, _, _, _]) rfl Tryz.zeroValue35 Tryz.runUnderlying35 places35_Nm5 ⟨rfl, ot, rfl, ot, trivial⟩ rfl rfl) ?_
    refine OD.bldS (pl := numD 0 [_]) (zvs := [.int .i64 0, .int .i64 0, .int .i64 0, .string ⟨#[]⟩, .string ⟨#[]⟩]) (ds := [_, _, _, _, _]) (wants_plain rfl) rfl rfl Tryz.zeroValue35 Tryz.runUnderlying36 Tryz.sizeOf35 rfl rfl (by kernel_rfl) ⟨rfl, ot, trivial⟩ (by exact rfl) (fill_full (by exact rfl) (by exact rfl) (by exact rfl)) (fun b39 => ?_)
    refine os_ mv_ ?_
    refine OD.wk (Wk.as_ (n := 69) (l' := [(4, _)]) (S' := [⟨b39, 35, 5, [_, _, _, _, _]⟩, ⟨b7, 26, 3, [_, _, _]⟩, ⟨b3, 3, 1, [_]⟩, ⟨b2, 45, 4, [_, _, _, _]⟩]) rfl rfl ⟨lk, trivial⟩) ?_
    refine OD.nil ?_
    refine CD.ret ?_
    refine ⟨.inr rfl, _, [_], (List.Sublist.cons_cons _ (List.nil_sublist _)), ret_one Tryz.results22 (res_tmp (Nat.le_of_ble_eq_true rfl) lk), ?_⟩
    first | exact RetL.cast (RetL.mk (g := cO) (e := 35) (sz := 5) (ls := [(⟨kk, litV n s, ⟨#[]⟩⟩ : OpL)]) (ownL_row (ls := [(⟨kk, litV n s, ⟨#[]⟩⟩ : OpL)]) (Nat.le_refl _) (show 1 ≤ maxLen by decide))) (by rw [ops_step, hkk, if_pos (by omega)]; unfold litOp; rw [show kk = 1 by omega]) | exact RetL.cast (RetL.mk (g := cO) (e := 35) (sz := 5) (ls := [(⟨kk, noVl, nameC (j : Int)⟩ : OpL)]) (ownL_row (ls := [(⟨kk, noVl, nameC (j : Int)⟩ : OpL)]) (Nat.le_refl _) (show 1 ≤ maxLen by decide))) (by rw [ops_step, hkk, if_neg (by omega), if_pos (by omega)]; unfold colOp; rw [hj, show kk = 2 by omega])
  ·have hc1' := hc1
   (try simp only [V.cnd, ne_eq] at hc1')
   refine sr_ ?_
   refine os_ bn_ ?_
   refine os_ mv_ ?_
   refine nm_ [2, 5, 6, 19, 40] ?_
   refine CD.cond ot (fun hc2 => ?_) (fun hc2 => ?_)
   ·have hc2' := hc2
    (try simp only [V.cnd, ne_eq] at hc2')
    refine sr_ ?_
    refine os_ mv_ ?_
    refine OD.bldS (pl := numD 0 [_, _, _, _]) (zvs := [.string ⟨#[]⟩, .string ⟨#[]⟩, .string ⟨#[]⟩, .string ⟨#[]⟩]) (ds := [_, _, _, _]) (wants_plain rfl) rfl rfl Tryz.zeroValue9 Tryz.runUnderlying75 Tryz.sizeOf9 rfl rfl (by kernel_rfl) ⟨rfl, opd_const, rfl, opd_const, rfl, opd_const, rfl, opd_const, trivial⟩ (by exact rfl) (fill_full (by exact rfl) (by exact rfl) (by exact rfl)) (fun b43 => ?_)
    refine OD.give (k := 0) (t := 43) (sz := 1) (m := 4) rfl lk rfl rfl rfl (Nat.le_refl _) (by decide) ?_
    refine os_ (fa_ 1) ?_
    refine os_ (lb_ 1) ?_
    refine OD.callP (wants_plain rfl) rfl rfl rfl Tryz.call5 (hpkn) ⟨ot, opd_const, trivial⟩ ?_
    refine os_ (ix_ 1) ?_
    refine OD.still (wants_plain rfl) rfl (still_r1 (mk := Op.load 9) rfl ot (ld_i Tryz.isAgg9 (name_at hj4))) ?_
    refine OD.still (wants_plain rfl) rfl (still_bld (pl := [(0, _), (2, _)]) (ds := [_, _, _, _, _]) rfl Tryz.zeroValue35 Tryz.runUnderlying35 places35_Nm5 ⟨rfl, ot, rfl, ot, trivial⟩ rfl rfl) ?_
    refine OD.bldS (pl := numD 0 [_]) (zvs := [.int .i64 0, .int .i64 0, .int .i64 0, .string ⟨#[]⟩, .string ⟨#[]⟩]) (ds := [_, _, _, _, _]) (wants_plain rfl) rfl rfl Tryz.zeroValue35 Tryz.runUnderlying36 Tryz.sizeOf35 rfl rfl (by kernel_rfl) ⟨rfl, ot, trivial⟩ (by exact rfl) (fill_full (by exact rfl) (by exact rfl) (by exact rfl)) (fun b50 => ?_)
    refine os_ mv_ ?_
    refine OD.wk (Wk.as_ (n := 69) (l' := [(4, _)]) (S' := [⟨b50, 35, 5, [_, _, _, _, _]⟩, ⟨b3, 3, 1, [_]⟩, ⟨b2, 45, 4, [_, _, _, _]⟩]) rfl rfl ⟨lk, trivial⟩) ?_
    refine OD.nil ?_
    refine CD.ret ?_
    refine ⟨.inr rfl, _, [_], (List.Sublist.cons_cons _ (List.nil_sublist _)), ret_one Tryz.results22 (res_tmp (Nat.le_of_ble_eq_true rfl) lk), ?_⟩
    first | exact RetL.cast (RetL.mk (g := cO) (e := 35) (sz := 5) (ls := [(⟨kk, litV n s, ⟨#[]⟩⟩ : OpL)]) (ownL_row (ls := [(⟨kk, litV n s, ⟨#[]⟩⟩ : OpL)]) (Nat.le_refl _) (show 1 ≤ maxLen by decide))) (by rw [ops_step, hkk, if_pos (by omega)]; unfold litOp; rw [show kk = 1 by omega]) | exact RetL.cast (RetL.mk (g := cO) (e := 35) (sz := 5) (ls := [(⟨kk, noVl, nameC (j : Int)⟩ : OpL)]) (ownL_row (ls := [(⟨kk, noVl, nameC (j : Int)⟩ : OpL)]) (Nat.le_refl _) (show 1 ≤ maxLen by decide))) (by rw [ops_step, hkk, if_neg (by omega), if_pos (by omega)]; unfold colOp; rw [hj, show kk = 2 by omega])
   ·have hc2' := hc2
    (try simp only [V.cnd, ne_eq] at hc2')
    refine CD.seq ?_
    refine sr_ ?_
    refine os_ bn_ ?_
    refine os_ mv_ ?_
    refine nm_ [5, 6, 19, 51] ?_
    refine CD.cond ot (fun hc3 => ?_) (fun hc3 => ?_)
    ·have hc3' := hc3
     (try simp only [V.cnd, ne_eq] at hc3')
     refine CD.skip ?_
     refine CD.condT ot (by first | rfl | assumption) ?_
     refine sr_ ?_
     refine os_ mv_ ?_
     refine OD.callv (f := 42) (args := [_]) (all := [_, _, _]) (Sf := [_, _]) (R := []) (wants_plain rfl) rfl rfl ot Tryz.call42 (in_vc r k n d s ts 0 b2 b3 IH hn1 hn2 hs hd1 hd (by decide)) rfl ⟨opd_const, trivial⟩ (List.Perm.refl _) ?_
     rintro _ _ ⟨S55, ⟨ad55, cp55, rfl, ho55⟩, rfl⟩
     refine OD.perm (perm_p11 (A := [_, _])) ?_
     refine os_ mv_ ?_
     refine OD.still (wants_plain rfl) rfl (still_bld (pl := [(0, _)]) (ds := [_, _, _, _, _]) rfl Tryz.zeroValue35 Tryz.runUnderlying35 places35_Nm5 ⟨rfl, ot, trivial⟩ rfl rfl) ?_
     refine OD.bldS (pl := numD 0 [_]) (zvs := [.int .i64 0, .int .i64 0, .int .i64 0, .string ⟨#[]⟩, .string ⟨#[]⟩]) (ds := [_, _, _, _, _]) (wants_plain rfl) rfl rfl Tryz.zeroValue35 Tryz.runUnderlying36 Tryz.sizeOf35 rfl rfl (by kernel_rfl) ⟨rfl, ot, trivial⟩ (by exact rfl) (fill_full (by exact rfl) (by exact rfl) (by exact rfl)) (fun b58 => ?_)
     refine OD.give (k := 0) (t := 58) (sz := 5) (m := 1) rfl lk rfl rfl rfl (Nat.le_refl _) (by decide) ?_
     refine OD.appendG (ls := (subO r ts n s 0)) (new := [(⟨kk, noVl, ⟨#[]⟩⟩ : OpL)]) (Sq := S55) cO_len cO_one (wants_plain rfl) rfl rfl Tryz.underlying36 info35_Nm5 rfl (by decide) ot ho55 (perm_r11 (A := [_, _])) ot (by simp) (by have hmx : maxLen = 9223372036854775807 := rfl; (try simp only [List.length_append, List.length_cons, List.length_nil]); omega) (by have hmx : maxLen = 9223372036854775807 := rfl; (try simp only [List.length_append, List.length_cons, List.length_nil]); omega) (fun b59 cp59 h159 h259 => ?_)
     refine OD.perm (perm_q11 (S1 := [⟨b59, 35, cp59 * 5, List.flatMap cO ((subO r ts n s 0) ++ [(⟨kk, noVl, ⟨#[]⟩⟩ : OpL)])⟩]) (A := [_, _])) ?_
     refine os_ mv_ ?_
     refine OD.wk (Wk.as_ (n := 69) (l' := [(4, _)]) (S' := (⟨b3, 3, 1, [_]⟩ :: ⟨b2, 45, 4, [_, _, _, _]⟩ :: [⟨b59, 35, cp59 * 5, List.flatMap cO ((subO r ts n s 0) ++ [(⟨kk, noVl, ⟨#[]⟩⟩ : OpL)])⟩])) rfl rfl ⟨lk, trivial⟩) ?_
     refine OD.nil ?_
     refine CD.ret ?_
     refine ⟨.inr rfl, _, [⟨b59, 35, cp59 * 5, List.flatMap cO ((subO r ts n s 0) ++ [(⟨kk, noVl, ⟨#[]⟩⟩ : OpL)])⟩], (by repeat (first | exact List.Sublist.refl _ | apply List.Sublist.cons)), ret_one Tryz.results22 (res_tmp (Nat.le_of_ble_eq_true rfl) lk), ?_⟩
     exact RetL.cast (RetL.mk (ownL_row h159 h259)) (by rw [ops_step, hkk, if_neg (by omega), if_neg (by omega), if_pos (by omega)]; rfl)
    ·have hc3' := hc3
     (try simp only [V.cnd, ne_eq] at hc3')
     refine CD.region ?_
     refine os_ bn_ ?_
     refine os_ mv_ ?_
     refine nm_ [5, 6, 51] ?_
     refine CD.cond ot (fun hc4 => ?_) (fun hc4 => ?_)
     ·have hc4' := hc4
      (try simp only [V.cnd, ne_eq] at hc4')
      refine sr_ ?_
      refine os_ mv_ ?_
      refine OD.callv (f := 42) (args := [_]) (all := [_, _, _]) (Sf := [_, _]) (R := []) (wants_plain rfl) rfl rfl ot Tryz.call42 (in_vc r k n d s ts 0 b2 b3 IH hn1 hn2 hs hd1 hd (by decide)) rfl ⟨opd_const, trivial⟩ (List.Perm.refl _) ?_
      rintro _ _ ⟨S55, ⟨ad55, cp55, rfl, ho55⟩, rfl⟩
      refine OD.perm (perm_p11 (A := [_, _])) ?_
      refine os_ mv_ ?_
      refine OD.still (wants_plain rfl) rfl (still_bld (pl := [(0, _)]) (ds := [_, _, _, _, _]) rfl Tryz.zeroValue35 Tryz.runUnderlying35 places35_Nm5 ⟨rfl, ot, trivial⟩ rfl rfl) ?_
      refine OD.bldS (pl := numD 0 [_]) (zvs := [.int .i64 0, .int .i64 0, .int .i64 0, .string ⟨#[]⟩, .string ⟨#[]⟩]) (ds := [_, _, _, _, _]) (wants_plain rfl) rfl rfl Tryz.zeroValue35 Tryz.runUnderlying36 Tryz.sizeOf35 rfl rfl (by kernel_rfl) ⟨rfl, ot, trivial⟩ (by exact rfl) (fill_full (by exact rfl) (by exact rfl) (by exact rfl)) (fun b58 => ?_)
      refine OD.give (k := 0) (t := 58) (sz := 5) (m := 1) rfl lk rfl rfl rfl (Nat.le_refl _) (by decide) ?_
      refine OD.appendG (ls := (subO r ts n s 0)) (new := [(⟨kk, noVl, ⟨#[]⟩⟩ : OpL)]) (Sq := S55) cO_len cO_one (wants_plain rfl) rfl rfl Tryz.underlying36 info35_Nm5 rfl (by decide) ot ho55 (perm_r11 (A := [_, _])) ot (by simp) (by have hmx : maxLen = 9223372036854775807 := rfl; (try simp only [List.length_append, List.length_cons, List.length_nil]); omega) (by have hmx : maxLen = 9223372036854775807 := rfl; (try simp only [List.length_append, List.length_cons, List.length_nil]); omega) (fun b59 cp59 h159 h259 => ?_)
      refine OD.perm (perm_q11 (S1 := [⟨b59, 35, cp59 * 5, List.flatMap cO ((subO r ts n s 0) ++ [(⟨kk, noVl, ⟨#[]⟩⟩ : OpL)])⟩]) (A := [_, _])) ?_
      refine os_ mv_ ?_
      refine OD.wk (Wk.as_ (n := 69) (l' := [(4, _)]) (S' := (⟨b3, 3, 1, [_]⟩ :: ⟨b2, 45, 4, [_, _, _, _]⟩ :: [⟨b59, 35, cp59 * 5, List.flatMap cO ((subO r ts n s 0) ++ [(⟨kk, noVl, ⟨#[]⟩⟩ : OpL)])⟩])) rfl rfl ⟨lk, trivial⟩) ?_
      refine OD.nil ?_
      refine CD.ret ?_
      refine ⟨.inr rfl, _, [⟨b59, 35, cp59 * 5, List.flatMap cO ((subO r ts n s 0) ++ [(⟨kk, noVl, ⟨#[]⟩⟩ : OpL)])⟩], (by repeat (first | exact List.Sublist.refl _ | apply List.Sublist.cons)), ret_one Tryz.results22 (res_tmp (Nat.le_of_ble_eq_true rfl) lk), ?_⟩
      exact RetL.cast (RetL.mk (ownL_row h159 h259)) (by rw [ops_step, hkk, if_neg (by omega), if_neg (by omega), if_pos (by omega)]; rfl)
     ·have hc4' := hc4
      (try simp only [V.cnd, ne_eq] at hc4')
      refine CD.skip ?_
      refine sr_ ?_
      refine os_ mv_ ?_
      refine OD.callv (f := 42) (args := [_]) (all := [_, _, _]) (Sf := [_, _]) (R := []) (wants_plain rfl) rfl rfl ot Tryz.call42 (in_vc r k n d s ts 0 b2 b3 IH hn1 hn2 hs hd1 hd (by decide)) rfl ⟨opd_const, trivial⟩ (List.Perm.refl _) ?_
      rintro _ _ ⟨S61, ⟨ad61, cp61, rfl, ho61⟩, rfl⟩
      refine OD.perm (perm_p11 (A := [_, _])) ?_
      refine os_ mv_ ?_
      refine OD.callv (f := 42) (args := [_]) (all := [_, _, _]) (Sf := [_, _]) (R := S61) (wants_plain rfl) rfl rfl ot Tryz.call42 (in_vc r k n d s ts 1 b2 b3 IH hn1 hn2 hs hd1 hd (by decide)) rfl ⟨opd_const, trivial⟩ (List.Perm.refl _) ?_
      rintro _ _ ⟨S63, ⟨ad63, cp63, rfl, ho63⟩, rfl⟩
      refine OD.perm (perm_p22 (A := [_, _])) ?_
      refine OD.giveL (t := 63) (Sq := S63) lk ho63 (fm_len cO_len _) (perm_r22 (A := [_, _])) ?_
      refine OD.appendG (ls := (subO r ts n s 0)) (new := (subO r ts n s 1)) (Sq := S61) cO_len cO_one (wants_plain rfl) rfl rfl Tryz.underlying36 info35_Nm5 rfl (by decide) ot ho61 (perm_r11 (A := [_, _])) ot (by omega) (by have hmx : maxLen = 9223372036854775807 := rfl; (try simp only [List.length_append, List.length_cons, List.length_nil]); omega) (by have hmx : maxLen = 9223372036854775807 := rfl; (try simp only [List.length_append, List.length_cons, List.length_nil]); omega) (fun b64 cp64 h164 h264 => ?_)
      refine OD.perm (perm_q11 (S1 := [⟨b64, 35, cp64 * 5, List.flatMap cO ((subO r ts n s 0) ++ (subO r ts n s 1))⟩]) (A := [_, _])) ?_
      refine os_ mv_ ?_
      refine OD.still (wants_plain rfl) rfl (still_bld (pl := [(0, _)]) (ds := [_, _, _, _, _]) rfl Tryz.zeroValue35 Tryz.runUnderlying35 places35_Nm5 ⟨rfl, ot, trivial⟩ rfl rfl) ?_
      refine OD.bldS (pl := numD 0 [_]) (zvs := [.int .i64 0, .int .i64 0, .int .i64 0, .string ⟨#[]⟩, .string ⟨#[]⟩]) (ds := [_, _, _, _, _]) (wants_plain rfl) rfl rfl Tryz.zeroValue35 Tryz.runUnderlying36 Tryz.sizeOf35 rfl rfl (by kernel_rfl) ⟨rfl, ot, trivial⟩ (by exact rfl) (fill_full (by exact rfl) (by exact rfl) (by exact rfl)) (fun b67 => ?_)
      refine OD.give (k := 0) (t := 67) (sz := 5) (m := 1) rfl lk rfl rfl rfl (Nat.le_refl _) (by decide) ?_
      refine OD.appendG (ls := ((subO r ts n s 0) ++ (subO r ts n s 1))) (new := [(⟨kk, noVl, ⟨#[]⟩⟩ : OpL)]) (Sq := [⟨b64, 35, cp64 * 5, List.flatMap cO ((subO r ts n s 0) ++ (subO r ts n s 1))⟩]) cO_len cO_one (wants_plain rfl) rfl rfl Tryz.underlying36 info35_Nm5 rfl (by decide) ot (ownL_row h164 h264) (perm_r11 (A := [_, _])) ot (by simp) (by have hmx : maxLen = 9223372036854775807 := rfl; (try simp only [List.length_append, List.length_cons, List.length_nil]); omega) (by have hmx : maxLen = 9223372036854775807 := rfl; (try simp only [List.length_append, List.length_cons, List.length_nil]); omega) (fun b68 cp68 h168 h268 => ?_)
      refine OD.perm (perm_q11 (S1 := [⟨b68, 35, cp68 * 5, List.flatMap cO (((subO r ts n s 0) ++ (subO r ts n s 1)) ++ [(⟨kk, noVl, ⟨#[]⟩⟩ : OpL)])⟩]) (A := [_, _])) ?_
      refine os_ mv_ ?_
      refine OD.wk (Wk.as_ (n := 69) (l' := [(4, _)]) (S' := (⟨b3, 3, 1, [_]⟩ :: ⟨b2, 45, 4, [_, _, _, _]⟩ :: [⟨b68, 35, cp68 * 5, List.flatMap cO (((subO r ts n s 0) ++ (subO r ts n s 1)) ++ [(⟨kk, noVl, ⟨#[]⟩⟩ : OpL)])⟩])) rfl rfl ⟨lk, trivial⟩) ?_
      refine OD.nil ?_
      refine CD.ret ?_
      refine ⟨.inr rfl, _, [⟨b68, 35, cp68 * 5, List.flatMap cO (((subO r ts n s 0) ++ (subO r ts n s 1)) ++ [(⟨kk, noVl, ⟨#[]⟩⟩ : OpL)])⟩], (by repeat (first | exact List.Sublist.refl _ | apply List.Sublist.cons)), ret_one Tryz.results22 (res_tmp (Nat.le_of_ble_eq_true rfl) lk), ?_⟩
      exact RetL.cast (RetL.mk (ownL_row h168 h268)) (by rw [ops_step, hkk, if_neg (by omega), if_neg (by omega), if_neg (by omega)]; rfl)

theorem ops_vc : ∀ (r : Nat), r ≤ 3 → ∀ (t : Tw), t.Ok → VC Tryz.prog G 22 [.agg t.cs, .v (.int .i64 (3 - (r : Int)))] [] (RetO (opsAt r t))
 | 0, _, .mk k n s ts, h => leaf_vc k n 3 s (.list 4 (Tw.css ts) ts.length) rfl h.1.1 h.1.2 h.2.1.1 h.2.1.2 h.2.2.1 (by decide)
 | r + 1, hr, .mk k n s ts, h => by
  have := step_vc (G := G) r (by omega) k n (3 - ((r + 1 : Nat) : Int)) s ts (fun t ht => by
   have h1 := ops_vc r (by omega) t (Tw.oks_all h.2.2.2.2 t ht)
   rw [show (3 - ((r + 1 : Nat) : Int) + 1) = 3 - (r : Int) by omega]
   exact h1) h.1.1 h.1.2 h.2.1.1 h.2.1.2 h.2.2.1 (by omega) (by omega)
  rw [← Tw.css_eq] at this
  exact this

set_option maxHeartbeats 4000000 in
set_option maxRecDepth 100000 in
theorem Ops_vc (t : Tw) (h : t.Ok) : VC Tryz.prog G 11 [.agg t.cs] [] (RetO (opsAt 3 t)) := by
 refine VC.body Tryz.func11 rfl Tryz.ntmps11 (Nat.le_of_ble_eq_true rfl) fun X0 w0 S00 => ?_
 obtain ⟨k, n, s, ts⟩ := t
 have ho3 := ops_vc (G := G) 3 (Nat.le_refl _) (.mk k n s ts) h
 unfold Tw.cs at ho3 ⊢
 refine sr_ ?_
 refine OD.box (ds := [_, _, _, _]) (wants_plain rfl) rfl rfl ot rfl rfl (fun b1 => ?_)
 refine os_ mv_ ?_
 refine OD.wk (Wk.as_ (n := 5) (l' := [(1, _)]) (S' := [⟨b1, 45, 4, [_, _, _, _]⟩]) rfl rfl ⟨lk, trivial⟩) ?_
 refine OD.nil ?_
 refine sr_ ?_
 refine os_ (lab_ 0 [_, _, _, _]) ?_
 refine OD.call (wants_plain rfl) rfl rfl rfl Tryz.call22 (ho3) ⟨ot, opd_const, trivial⟩ (perm_none _) ?_
 rintro _ S4 ⟨ad4, cp4, rfl, ho4⟩
 refine OD.perm (S' := [_] ++ S4) perm_q11 ?_
 refine os_ mv_ ?_
 refine OD.wk (Wk.as_ (n := 5) (l' := [(2, _)]) (S' := (⟨b1, 45, 4, [_, _, _, _]⟩ :: S4)) rfl rfl ⟨lk, trivial⟩) ?_
 refine OD.nil ?_
 refine CD.ret ?_
 refine ⟨.inr rfl, _, S4, (by repeat (first | exact List.Sublist.refl _ | apply List.Sublist.cons)), ret_one Tryz.results11 (res_tmp (Nat.le_of_ble_eq_true rfl) lk), ?_⟩
 exact RetL.mk ho4

theorem Ops_vp (t : Tw) (h : t.Ok) : VP Tryz.prog G 11 [.agg t.cs] (.list 5 ((opsAt 3 t).flatMap cO) (opsAt 3 t).length) := (Ops_vc t h).given cO_len

end Go.Proofs.YtfooincnmobemaaGreatDoor.Nm

namespace Go.Proofs.YtfooincnmobemaaGreatDoor.Nm
open Go.RowKit V Pk Vl
set_option linter.unusedVariables false
set_option linter.unusedSimpArgs false

def runs : Int → List OpL → Option Int
 | h, [] => some h
 | h, o :: r => if opErr h o = 0 then runs (h + (1 - popsF o.k)) r else none
theorem runs_append : ∀ (a b : List OpL) (h : Int), runs h (a ++ b) = (runs h a).bind fun h' => runs h' b
 | [], b, h => rfl
 | o :: r, b, h => by
  rw [List.cons_append, runs, runs]
  split
  ·exact runs_append r b _
  ·rfl
theorem exprL_runs : ∀ {a : List OpL} {h h' : Int} (b : List OpL), runs h a = some h' → exprL h (a ++ b) = exprL h' b
 | [], h, h', b, e => by cases e; rfl
 | o :: r, h, h', b, e => by
  rw [runs] at e
  split at e
  ·rename_i h0
   rw [List.cons_append, exprL, if_pos h0]
   exact exprL_runs b e
  ·cases e
theorem no_name : ((⟨#[]⟩ : ByteArray).toList == (⟨#[]⟩ : ByteArray).toList) = true := by simp
theorem zero_noVl : zeroV noVl = true := by unfold zeroV noVl; simp
theorem lit_noVl : litF noVl = 0 := by decide
theorem lit_litV (n : Int) (s : ByteArray) : litF (litV n s) = 0 := by
 have h1 := pickedF_bd n (by decide : (1 : Int) ≤ 40)
 have h2 := pickedF_bd (pickedF n 40 - 20) (by decide : (1 : Int) ≤ 2)
 have hc : (cutF (cutF s 10) 4).size ≤ 4 := by rw [cutF_size]; omega
 have he : cutF (⟨#[]⟩ : ByteArray) 4 = ByteArray.empty := str_ext (by rw [cutF_list]; rfl)
 unfold litF litV valueF
 split
 ·simp [checkV, he]; omega
 ·split
  ·simp [checkV, he]; omega
  ·split
   ·simp [checkV]; omega
   ·unfold noVl; simp [checkV, he]
theorem err_lit {h : Int} (h0 : 0 ≤ h) (n : Int) (s : ByteArray) : opErr h (litOp n s) = 0 := by
 unfold opErr litOp
 rw [lit_litV]
 simp [popsF]
 omega
theorem name_col (j : Int) : nameF (nameC j) = 0 := by
 unfold nameC
 split
 ·exact small_name (l := [105, 100]) (by decide) (by decide) (by decide)
 ·split
  ·exact small_name (l := [110]) (by decide) (by decide) (by decide)
  ·split
   ·exact small_name (l := [115]) (by decide) (by decide) (by decide)
   ·exact small_name (l := [98]) (by decide) (by decide) (by decide)
theorem err_col {h : Int} (h0 : 0 ≤ h) (n : Int) : opErr h (colOp n) = 0 := by
 unfold opErr colOp
 rw [lit_noVl, zero_noVl, name_col]
 simp [popsF]
 omega
theorem err_bare {h k : Int} (h1 : 3 ≤ k) (h2 : k ≤ 11) (hh : popsF k ≤ h) : opErr h (bareOp k) = 0 := by
 unfold opErr bareOp
 simp only [lit_noVl, zero_noVl, no_name]
 rw [if_neg (by omega), if_neg (by simp), if_neg (by simp), if_neg (by omega), if_neg (by omega)]
theorem leaf_runs {h : Int} (h0 : 0 ≤ h) (k n : Int) (s : ByteArray) : runs h (leafOps k n s) = some (h + 1) := by
 unfold leafOps
 split
 ·rw [runs, if_pos (err_col h0 n), runs]; rfl
 ·rw [runs, if_pos (err_lit h0 n s), runs]; rfl
theorem ops_runs : ∀ (r : Nat) (t : Tw) (h : Int), 0 ≤ h → runs h (opsAt r t) = some (h + 1)
 | 0, .mk k n s ts, h, h0 => leaf_runs h0 k n s
 | r + 1, .mk k n s ts, h, h0 => by
  have hsub : ∀ (i : Nat) (h : Int), 0 ≤ h → runs h (subO r ts n s i) = some (h + 1) := fun i h h0 => by
   unfold subO
   split
   ·exact ops_runs r _ h h0
   ·exact leaf_runs h0 _ _ _
  have hk := pickedF_bd k (by decide : (1 : Int) ≤ 11)
  rw [ops_step]
  split
  ·rw [runs, if_pos (err_lit h0 n s), runs]; rfl
  ·split
   ·rw [runs, if_pos (err_col h0 n), runs]; rfl
   ·split
    ·rename_i h3
     rw [runs_append, hsub 0 h h0, Option.bind_some, runs, if_pos (err_bare (by omega) (by omega) (by unfold popsF; rw [if_neg (by omega), if_pos h3]; omega)), runs]
     unfold bareOp popsF
     rw [if_neg (by simp only []; omega), if_pos h3]
     simp
    ·rename_i h3
     rw [runs_append, runs_append, hsub 0 h h0, Option.bind_some, hsub 1 (h + 1) (by omega), Option.bind_some, runs, if_pos (err_bare (by omega) (by omega) (by unfold popsF; rw [if_neg (by omega), if_neg h3]; omega)), runs]
     unfold bareOp popsF
     rw [if_neg (by simp only []; omega), if_neg h3]
     congr 1; omega
theorem ops_short (t : Tw) : 1 ≤ (opsAt 3 t).length ∧ (opsAt 3 t).length ≤ 15 := by
 have := ops_len 3 t
 omega
theorem whole_ops (t : Tw) : exprF (opsAt 3 t) = 0 := by
 unfold exprF
 rw [if_neg (by have := ops_short t; omega)]
 have := exprL_runs [] (ops_runs 3 t 0 (Int.le_refl _))
 rw [List.append_nil] at this
 rw [this]; rfl
variable {G : List (Nat × List Value)}


set_option maxRecDepth 100000 in
theorem rd_twigF {H : Type} {enc : TypeId × Value → H} {w : World} {base : Nat} {sp : Nat → Bool} {held : Bool} : ∀ n, RdsF n enc Tryz.prog w base sp held 45 Tw.cs Tw.Ok := by
 intro n
 induction n using Nat.strongRecOn with
 | _ n ih =>
  intro cs x h
  obtain ⟨⟨k, m, s, ts⟩, h1, h2, h3, h4, h5⟩ := rd_struct4 (fuel := n) (n0 := 1) (n1 := 1) (n2 := 1) (n3 := 1) Tryz.underlying45 (by kernel_rfl) rfl rfl rfl rfl (by kernel_rfl) (by kernel_rfl) (by kernel_rfl) (by kernel_rfl)
   (fun q _ => (rd_int Tryz.underlying3).at q) (fun q _ => (rd_int Tryz.underlying3).at q) (fun q _ => (rd_string Tryz.underlying9).at q) (fun q hq => rd_sliceF (sz := 4) Tryz.underlying43 (by kernel_rfl) (by decide) (fun z hz => ih z (by omega)) Tw.cs_len) cs x h
  refine ⟨.mk k m s ts, ?_, h2, h3, h4, h5.2, Tw.all_oks h5.1⟩
  unfold Tw.cs
  rw [Tw.css_eq]
  exact h1
set_option maxRecDepth 100000 in
theorem rd_twig {H : Type} {enc : TypeId × Value → H} {w : World} {base b' : Nat} {sp : Nat → Bool} {held : Bool} {v : Value} {d : DataW H} {p : List MemPlace} (hval : Value.okWide Tryz.prog w .any b' 45 v) (h : DataW.Trod enc Tryz.prog w base sp held 45 v d p) :
  ∃ t : Tw, Rep w (fun _ => False) (.agg t.cs) v ∧ t.Ok ∧ True := rd_arg Tryz.underlying45 rd_twigF hval h
end Go.Proofs.YtfooincnmobemaaGreatDoor.Nm

namespace Go.Proofs.YtfooincnmobemaaGreatDoor.V
open Go.RowKit
set_option linter.unusedVariables false
set_option linter.unusedSimpArgs false

variable {P : Program} {C : Ctx} {G : List (Nat × List Value)} {Q : Exit → St → Prop} {x : St} {ops : Array Oper} {l : List Oper} {o : Oper} {S1 T : List Nat} {fuel i : Nat} {ld : Array Bool}

/-- An element of an array that is no variable, of more than one cell. -/
theorem still_vidxs {t e : TypeId} {len sz j : Nat} {cs ds : List D} {k : IntKind} {i : Int} {y z : Operand} (ho : o.op = .index t y z) (hy : opd x y = .agg cs) (hz : opd x z = .v (.int k i))
    (hu : ∀ w, (underlying t).run P w = .ok (.array len e) w) (hs : ∀ w, (sizeOf e).run P w = .ok sz w) (ha : ∀ w, (isAgg e).run P w = .ok true w) (hi : i = j) (hj : j < len) (hd : (cs.drop (j * sz)).take sz = ds) : Still P G x o .none (.agg ds) := fun C a w _ h => by
  have hr := h.eval y
  rw [hy] at hr
  generalize hg : a.eval y = u at hr
  subst hi hd
  cases hr with
  | agg _ vs hl hr =>
    refine ⟨.agg ((vs.drop (j * sz)).take sz).toArray, .agg _ _ (by simp [hl]) (fun i h1 h2 => ?_), fun w' _ => ?_⟩
    · simp only [List.getElem_take, List.getElem_drop]
      exact hr _ _ _
    · unfold execOp
      simp [ho, hg, h.flat hz, Instr.index, asIntOf, hu, hj, part, ha, asAgg, hs]

theorem still_nslice {t e : TypeId} {sz : Nat} {y : Operand} {lo hi : Option Operand} (ho : o.op = .slice t y lo hi none) (hy : opd x y = .v (.slice none 0 0)) (hlo : bound x lo 0 0) (hhi : bound x hi 0 0)
  (hu : ∀ w, (underlying t).run P w = .ok (.slice e) w) (hs : ∀ w, (sizeOf e).run P w = .ok sz w) : Still P G x o .none (.v (.slice none 0 0)) := fun C a w _ h =>
 ⟨_, .v _, fun w' _ => by
  have b1 := bound_eval h hlo
  have b2 := bound_eval h hhi
  unfold execOp
  simp [ho, h.flat hy, Instr.sliceAt, Instr.slice, hu, run_sbounds b1 b2 (Nat.zero_le _) (Nat.le_refl _), hs]⟩

theorem OwnL.pos {e sz n cap : Nat} {cs : List D} {ad : Option Addr} {S : List Blk} (h : OwnL e sz cs n ad cap S) (hn : 0 < n) : ∃ b, ad = some ⟨b, 0, none⟩ ∧ n ≤ cap ∧ cap ≤ maxLen ∧ S = [⟨b, e, cap * sz, cs⟩] := by
 rcases h with ⟨h1, _, _, _, _⟩ | h
 ·omega
 ·exact h
/-- A list of one's own, sliced from its head on: the same row. -/
theorem still_oslice {t e e' : TypeId} {sz sz' n cap k : Nat} {ad : Option Addr} {cs : List D} {Sq : List Blk} {y : Operand} {lo hi : Option Operand} (ho : o.op = .slice t y lo hi none) (hy : opd x y = .v (.slice ad n cap)) (hlo : bound x lo 0 0) (hhi : bound x hi k n)
    (hu : ∀ w, (underlying t).run P w = .ok (.slice e) w) (hs : ∀ w, (sizeOf e).run P w = .ok sz w) (hk : k ≤ n) (hown : OwnL e' sz' cs n ad cap Sq) : Still P G x o .none (.v (.slice ad k cap)) := by
  rcases hown with ⟨h1, h2, rfl, rfl, rfl⟩ | ⟨b, rfl, h1, h2, rfl⟩
  · subst h1
    obtain rfl : k = 0 := by omega
    exact still_nslice ho hy hlo hhi hu hs
  · exact still_rslice ho hy hlo hhi hu hs (Nat.le_trans hk h1)

/-- Of a list of one's own no more is told than its head. -/
theorem CD.cutL {c : Code} {α : Type} {g : α → List D} {ls : List α} {ad : Option Addr} {e sz cap k : Nat} {Sq R : List Blk} (hg : ∀ a, (g a).length = sz) (hk : k ≤ ls.length)
    (hown : OwnL e sz (ls.flatMap g) ls.length ad cap Sq) (hp : x.S.Perm (Sq ++ R))
    (K : ∀ S', OwnL e sz ((ls.take k).flatMap g) (ls.take k).length ad cap S' → CD P C c ⟨x.n, x.env, S' ++ R⟩ Q) : CD P C c x Q := by
  have hkl : (ls.take k).length = k := by rw [List.length_take]; omega
  refine CD.perm hp ?_
  rcases hown with ⟨h1, h2, rfl, rfl, rfl⟩ | ⟨b, rfl, h1, h2, rfl⟩
  · have hl : ls = [] := List.eq_nil_of_length_eq_zero h1
    subst hl
    exact K [] (.inl ⟨by simp, by simp, rfl, rfl, rfl⟩)
  · refine CD.wk (Wk.shrink (n := x.n) (l := x.env) (k := 0) (cs' := (ls.take k).flatMap g) rfl ?_) ?_
    · rw [← fm_take hg ls]; exact List.take_prefix _ _
    · exact K [⟨b, e, cap * sz, (ls.take k).flatMap g⟩] (.inr ⟨b, rfl, by rw [hkl]; omega, h2, rfl⟩)

/-- append of structs onto a list of one's own, where the order is drawn. -/
theorem AStep.appendG {α : Type} {g : α → List D} {ls new : List α} {s y : Operand} {t e tt sz bytes cap : Nat} {ad : Option Addr} {z : Value} {Sq R : List Blk} (hg : ∀ a, (g a).length = sz) (hg1 : ∀ a, (g a).all one = true) (hi' : ops[i]? = some o) (hw : Wants ops x o true) (ho : o.op = .call { callee := .builtin .append, args := #[s, y], argTypes := #[t, t] }) (hd : o.dst = some tt)
    (ht : P.underlying t = some (.slice e)) (hi : (P.info? e).map (fun i => (i.zero, i.size, i.bytes)) = some (some z, sz, bytes)) (hzs : z.cells.size = sz) (hsz : 0 < sz)
    (hs : opd x s = .v (.slice ad ls.length cap)) (ho' : OwnL e sz (ls.flatMap g) ls.length ad cap Sq) (hp : x.S.Perm (Sq ++ R))
    (hy : opd x y = .list sz (new.flatMap g) new.length) (hm : 0 < new.length) (h63 : ls.length + new.length ≤ maxLen) (hbytes : (ls.length + new.length) * bytes ≤ 140737488355328)
    (K : ∀ b' cap', (ls ++ new).length ≤ cap' → cap' ≤ maxLen → AD P C ops S1 T fuel (ld.setIfInBounds i true) ⟨x.n, (tt, .v (.slice (some ⟨b', 0, none⟩) (ls ++ new).length cap')) :: x.env, ⟨b', e, cap' * sz, (ls ++ new).flatMap g⟩ :: R⟩ Q) (hne : isMap e = false := by rfl)
    (hT : ∀ b ∈ T, b ∈ bks R := by first | exact fun b hb => hb | (intro b hb; simp [bks] at hb ⊢; first | exact hb | exact .inl hb | (rcases hb with hb | hb <;> simp [hb]) | (rcases hb with hb | hb | hb <;> simp [hb]) | (rcases hb with hb | hb | hb | hb <;> simp [hb]) | (rcases hb with hb | hb | hb | hb | hb <;> simp [hb]) | (rcases hb with hb | hb | hb | hb | hb | hb <;> simp [hb]) | (rcases hb with hb | hb | hb | hb | hb | hb | hb <;> simp [hb]) | (rcases hb with hb | hb | hb | hb | hb | hb | hb | hb <;> simp [hb]))) : AStep P C ops S1 T fuel ld x Q i :=
  AStep.appendOwn (hne := hne) hi' hw ho hd ht hi hzs hsz hs ho' hp (fm_len hg ls) hy (fm_one hg1 new) hm h63 hbytes hT fun b' cap' h1 h2 => by
    have := K b' cap' (by rw [List.length_append]; exact h1) h2
    rw [List.length_append, List.flatMap_append] at this
    exact this
end Go.Proofs.YtfooincnmobemaaGreatDoor.V

namespace Go.Proofs.YtfooincnmobemaaGreatDoor.Ex
open Go.RowKit V Pk Vl Go.Proofs.YtfooincnmobemaaGreatDoor.Nm Go.Proofs.YtfooincnmobemaaGreatDoor.Pc
set_option linter.unusedVariables false
set_option linter.unusedSimpArgs false

theorem idxG_bd {α : Type} (p : α → Bool) (ls : List α) : -1 ≤ idxG p ls ∧ idxG p ls < ls.length := by
 unfold idxG
 cases h : ls.findIdx? p with
 | none => simp; omega
 | some i => have := (List.findIdx?_eq_some_iff_findIdx_eq.1 h).1; simp; omega
/-- A column's place. -/
def colAt (l : List ColL) (nm : ByteArray) : Int := idxG (fun c => c.n.toList == nm.toList) l
def isF (a b : Int) : Bool := a == b || a == 0
def okF (k a b : Int) : Bool :=
 if k = 3 ∨ k = 4 then isF a 1 && isF b 1 else if k = 5 then isF a 1 else if k = 6 ∨ k = 7 then isF a b || b == 0 else if k = 8 ∨ k = 9 ∨ k = 10 then isF a 2 && isF b 2 else true
def outF (k : Int) : Int := if k = 8 ∨ k = 9 ∨ k = 10 then 2 else 1
def kindAt (l : List ColL) (nm : ByteArray) : Int × Int := if colAt l nm < 0 then (0, 8) else ((l.getD (colAt l nm).toNat ⟨⟨#[]⟩, 0⟩).k, 0)
/-- The kind of what an op makes; what is wrong. -/
def madeF (l : List ColL) (o : OpL) (a b : Int) : Int × Int :=
  if o.k = 1 then (o.v.k, 0) else if o.k = 2 then kindAt l o.nm else if okF o.k a b = true then (outF o.k, 0) else (0, 4)
def argA {α : Type} (z : α) (k : Int) (st : List α) : α := if 0 < popsF k then st.getD (st.length - (popsF k).toNat) z else z
def argB {α : Type} (z : α) (k : Int) (st : List α) : α := if 1 < popsF k then st.getD (st.length - (popsF k).toNat + 1) z else z
/-- Ops, folded over a stack. -/
def foldG {α : Type} (z : α) (f : OpL → α → α → α × Int) : List OpL → List α → α × Int
  | [], st => (st.getD 0 z, 0)
  | o :: r, st =>
    if (f o (argA z o.k st) (argB z o.k st)).2 ≠ 0 then (z, (f o (argA z o.k st) (argB z o.k st)).2)
    else foldG z f r (st.take (st.length - (popsF o.k).toNat) ++ [(f o (argA z o.k st) (argB z o.k st)).1])
theorem fold_no {α : Type} {z : α} {f : OpL → α → α → α × Int} {l : List OpL} {i : Nat} {st : List α} (hi : i < l.length) (h : (f l[i] (argA z l[i].k st) (argB z l[i].k st)).2 ≠ 0) :
  foldG z f (l.drop i) st = (z, (f l[i] (argA z l[i].k st) (argB z l[i].k st)).2) := by rw [List.drop_eq_getElem_cons hi, foldG, if_pos h]
theorem fold_go {α : Type} {z : α} {f : OpL → α → α → α × Int} {l : List OpL} {i : Nat} {st : List α} (hi : i < l.length) (h : (f l[i] (argA z l[i].k st) (argB z l[i].k st)).2 = 0) :
  foldG z f (l.drop i) st = foldG z f (l.drop (i + 1)) (st.take (st.length - (popsF l[i].k).toNat) ++ [(f l[i] (argA z l[i].k st) (argB z l[i].k st)).1]) := by
 rw [List.drop_eq_getElem_cons hi, foldG, if_neg (by rw [h]; simp)]
theorem fold_end {α : Type} {z : α} {f : OpL → α → α → α × Int} {l : List OpL} {i : Nat} {st : List α} (hi : ¬ i < l.length) : foldG z f (l.drop i) st = (st.getD 0 z, 0) := by
 rw [List.drop_of_length_le (by omega)]; rfl
theorem expr_next {l : List OpL} {i : Nat} {h : Int} (hi : i < l.length) (h0 : exprL h (l.drop i) = 0) : opErr h l[i] = 0 ∧ exprL (h + (1 - popsF l[i].k)) (l.drop (i + 1)) = 0 := by
 rw [List.drop_eq_getElem_cons hi, exprL] at h0
 by_cases he : opErr h l[i] = 0
 ·rw [if_pos he] at h0; exact ⟨he, h0⟩
 ·rw [if_neg he] at h0; exact absurd h0 he
theorem expr_one {l : List OpL} {i : Nat} {h : Int} (hi : ¬ i < l.length) (h0 : exprL h (l.drop i) = 0) : h = 1 := by
 rw [List.drop_of_length_le (by omega), exprL] at h0
 split at h0
 ·assumption
 ·cases h0
theorem err_pops {h : Int} {o : OpL} (he : opErr h o = 0) : popsF o.k ≤ h ∧ (1 ≤ o.k ∧ o.k ≤ 11) ∧ litF o.v = 0 ∧ (o.k = 2 → nameF o.nm = 0) := by
 unfold opErr at he
 split at he
 ·cases he
 ·split at he
  ·rename_i h2; exact absurd he h2
  ·split at he
   ·cases he
   ·split at he
    ·rename_i h4; exact absurd he h4.2
    ·split at he
     ·cases he
     ·rename_i q1 q2 q3 q4 q5
      refine ⟨by omega, by omega, by simpa using q2, fun hk => ?_⟩
      by_cases hn : nameF o.nm = 0
      ·exact hn
      ·exact absurd ⟨hk, hn⟩ q4
def kindF (l : List ColL) (ops : List OpL) : Int × Int := foldG 0 (madeF l) ops []
/-- What expr.Kind answers. -/
def kindR (l : List ColL) (ops : List OpL) : Int × Int := if colsF l ≠ 0 then (0, colsF l) else if exprF ops ≠ 0 then (0, exprF ops) else kindF l ops
def twoI (r : Int × Int) : D := .tup [.v (.int .i64 r.1), .v (.int .i64 r.2)]
def cI (n : Int) : List D := [.v (.int .i64 n)]
theorem cI_len (n : Int) : (cI n).length = 1 := rfl
theorem cI_one (n : Int) : (cI n).all V.one = true := rfl
theorem expr_ok {ops : List OpL} (h : exprF ops = 0) : ops.length ≤ 40 ∧ exprL 0 ops = 0 := by
 unfold exprF at h
 split at h
 ·cases h
 ·exact ⟨by omega, h⟩
variable {G : List (Nat × List Value)}

set_option maxHeartbeats 4000000 in
set_option maxRecDepth 100000 in
theorem works_vp (k : Int) : VP Tryz.prog G 27 [.v (.int .i64 k)] (.v (.int .i64 (popsF k))) := by
 refine VC.body Tryz.func27 rfl Tryz.ntmps27 (Nat.le_of_ble_eq_true rfl) fun X0 w0 S00 => ?_
 refine sr_ ?_
 refine os_ mv_ ?_
 refine nm_ [0] ?_
 refine CD.seq ?_
 refine sr_ ?_
 refine os_ mv_ ?_
 refine nm_ [3] ?_
 refine CD.block ?_
 refine CD.seq ?_
 refine sr_ ?_
 refine os_ bn_ ?_
 refine os_ mv_ ?_
 refine nm_ [3, 4] ?_
 refine CD.cond ot (fun hc0 => ?_) (fun hc0 => ?_)
 ·have hc0' := hc0
  (try simp only [V.cnd, ne_eq] at hc0')
  refine CD.skip ?_
  refine CD.condT ot (by first | rfl | assumption) ?_
  refine sr_ ?_
  refine os_ mv_ ?_
  refine nm_ [2] ?_
  refine CD.ret ?_
  refine r1_ ?_
  refine ⟨vi ?_, rfl⟩
  unfold popsF
  simp_all
 ·have hc0' := hc0
  (try simp only [V.cnd, ne_eq] at hc0')
  refine CD.region ?_
  refine os_ bn_ ?_
  refine os_ mv_ ?_
  refine nm_ [3, 4] ?_
  refine CD.cond ot (fun hc1 => ?_) (fun hc1 => ?_)
  ·have hc1' := hc1
   (try simp only [V.cnd, ne_eq] at hc1')
   refine sr_ ?_
   refine os_ mv_ ?_
   refine nm_ [2] ?_
   refine CD.ret ?_
   refine r1_ ?_
   refine ⟨vi ?_, rfl⟩
   unfold popsF
   simp_all
  ·have hc1' := hc1
   (try simp only [V.cnd, ne_eq] at hc1')
   refine CD.seq ?_
   refine sr_ ?_
   refine os_ bn_ ?_
   refine os_ mv_ ?_
   refine nm_ [3, 7] ?_
   refine CD.cond ot (fun hc2 => ?_) (fun hc2 => ?_)
   ·have hc2' := hc2
    (try simp only [V.cnd, ne_eq] at hc2')
    refine CD.skip ?_
    refine CD.condT ot (by first | rfl | assumption) ?_
    refine sr_ ?_
    refine os_ mv_ ?_
    refine nm_ [2] ?_
    refine CD.ret ?_
    refine r1_ ?_
    refine ⟨vi ?_, rfl⟩
    unfold popsF
    simp_all
   ·have hc2' := hc2
    (try simp only [V.cnd, ne_eq] at hc2')
    refine CD.region ?_
    refine os_ bn_ ?_
    refine os_ mv_ ?_
    refine nm_ [7] ?_
    refine CD.cond ot (fun hc3 => ?_) (fun hc3 => ?_)
    ·have hc3' := hc3
     (try simp only [V.cnd, ne_eq] at hc3')
     refine sr_ ?_
     refine os_ mv_ ?_
     refine nm_ [2] ?_
     refine CD.ret ?_
     refine r1_ ?_
     refine ⟨vi ?_, rfl⟩
     unfold popsF
     simp_all
    ·have hc3' := hc3
     (try simp only [V.cnd, ne_eq] at hc3')
     refine CD.skip ?_
     refine sr_ ?_
     refine os_ mv_ ?_
     refine nm_ [2] ?_
     refine CD.ret ?_
     refine r1_ ?_
     refine ⟨vi ?_, rfl⟩
     unfold popsF
     simp_all

set_option maxHeartbeats 4000000 in
set_option maxRecDepth 100000 in
theorem findcl_vc (c : ColL) (nm : ByteArray) (b : Nat) : VC Tryz.prog G 52 [.agg (cC c), .v (.pointer (some ⟨b, 0, none⟩))] [⟨b, 9, 1, [.v (.string nm)]⟩] (fun r S => r = .v (.bool (c.n.toList == nm.toList)) ∧ S = [⟨b, 9, 1, [.v (.string nm)]⟩]) := by
 refine VC.body Tryz.func52 rfl Tryz.ntmps52 (Nat.le_of_ble_eq_true rfl) fun X0 w0 S00 => ?_
 unfold cC
 refine sr_ ?_
 refine OD.box (ds := [_, _]) (wants_plain rfl) rfl rfl ot rfl rfl (fun b2 => ?_)
 refine os_ mv_ ?_
 refine OD.wk (Wk.as_ (n := 8) (l' := [(1, _), (2, _)]) (S' := [⟨b2, 33, 2, [_, _]⟩, ⟨_, _, _, [_]⟩]) rfl rfl ⟨lk, lk, trivial⟩) ?_
 refine OD.nil ?_
 refine sr_ ?_
 refine os_ (fa_ 0) ?_
 refine os_ (lb_ 0) ?_
 refine os_ (lb_ 1) ?_
 refine os_ bn_ ?_
 refine os_ mv_ ?_
 refine nm_ [3] ?_
 refine CD.ret ?_
 refine ⟨.inr rfl, _, [⟨b, 9, 1, [.v (.string nm)]⟩], (by repeat (first | exact List.Sublist.refl _ | apply List.Sublist.cons)), ret_one Tryz.results52 (res_tmp (Nat.le_of_ble_eq_true rfl) lk), ?_⟩
 exact ⟨rfl, rfl⟩

set_option maxHeartbeats 4000000 in
set_option maxRecDepth 100000 in
theorem find_vp (l : List ColL) (hl : l.length ≤ 1000) (nm : ByteArray) : VP Tryz.prog G 30 [.list 2 (l.flatMap cC) l.length, .v (.string nm)] (.v (.int .i64 (colAt l nm))) := by
 refine VC.body Tryz.func30 rfl Tryz.ntmps30 (Nat.le_of_ble_eq_true rfl) fun X0 w0 S00 => ?_
 refine sr_ ?_
 refine OD.box (ds := [_]) (wants_plain rfl) rfl rfl ot rfl rfl (fun b3 => ?_)
 refine os_ mv_ ?_
 refine OD.wk (Wk.as_ (n := 8) (l' := [(0, _), (3, _)]) (S' := [⟨b3, 9, 1, [_]⟩]) rfl rfl ⟨lk, lk, trivial⟩) ?_
 refine OD.nil ?_
 refine sr_ ?_
 refine os_ mv_ ?_
 refine OD.still (wants_plain rfl) rfl (still_fn (ds := [_]) rfl ⟨ot, trivial⟩) ?_
 refine OD.call (wants_plain rfl) rfl rfl rfl Tryz.call51 (index_vc l 52 [.v (.pointer (some ⟨b3, 0, none⟩))] _ (fun c => c.n.toList == nm.toList) Tryz.call52 (fun h _ => findcl_vc h nm b3) (by omega)) ⟨ot, ot, trivial⟩ (perm_one (k := 0) rfl) ?_; rintro _ S2 ⟨rfl, hS2⟩; rw [hS2]; clear hS2
 refine os_ mv_ ?_
 refine OD.wk (Wk.as_ (n := 8) (l' := [(4, _)]) (S' := [⟨b3, 9, 1, [_]⟩]) rfl rfl ⟨lk, trivial⟩) ?_
 refine OD.nil ?_
 refine CD.ret ?_
 refine ⟨.inr rfl, _, [], List.nil_sublist _, ret_one Tryz.results30 (res_tmp (Nat.le_of_ble_eq_true rfl) lk), ?_⟩
 exact ⟨rfl, rfl⟩

set_option maxHeartbeats 4000000 in
set_option maxRecDepth 100000 in
theorem is_vp (a b : Int) : VP Tryz.prog G 56 [.v (.int .i64 a), .v (.int .i64 b)] (.v (.bool (isF a b))) := by
 refine VC.body Tryz.func56 rfl Tryz.ntmps56 (Nat.le_of_ble_eq_true rfl) fun X0 w0 S00 => ?_
 refine sr_ ?_
 refine os_ mv_ ?_
 refine nm_ [0, 1] ?_
 refine sr_ ?_
 refine os_ mv_ ?_
 refine os_ mv_ ?_
 refine os_ bn_ ?_
 refine os_ mv_ ?_
 refine OD.split (t := 8) lk (fun hg8 => ?_) (fun hg8 => ?_)
 ·have hg8' := hg8; (try simp only [V.cnd, ne_eq] at hg8')
  refine sk_ ?_
  refine sk_ ?_
  refine os_ pkT_ ?_
  refine os_ mv_ ?_
  refine nm_ [4] ?_
  refine CD.ret ?_
  refine r1_ ?_
  refine ⟨vb ?_, rfl⟩
  unfold isF
  simp_all
 ·have hg8' := hg8; (try simp only [V.cnd, ne_eq] at hg8')
  refine os_ mv_ ?_
  refine os_ bn_ ?_
  refine os_ pkF_ ?_
  refine os_ mv_ ?_
  refine nm_ [4] ?_
  refine CD.ret ?_
  refine r1_ ?_
  refine ⟨vb ?_, rfl⟩
  unfold isF
  simp_all

set_option maxHeartbeats 4000000 in
set_option maxRecDepth 100000 in
theorem made_vp (l : List ColL) (hl : l.length ≤ 1000) (o : OpL) (a b : Int) : VP Tryz.prog G 34 [.agg (cO o), .list 2 (l.flatMap cC) l.length, .v (.int .i64 a), .v (.int .i64 b)] (twoI (madeF l o a b)) := by
 refine VC.body Tryz.func34 rfl Tryz.ntmps34 (Nat.le_of_ble_eq_true rfl) fun X0 w0 S00 => ?_
 unfold cO twoI
 have hbd := idxG_bd (fun c : ColL => c.n.toList == o.nm.toList) l
 have hcd : colAt l o.nm = idxG (fun c : ColL => c.n.toList == o.nm.toList) l := rfl
 rw [← hcd] at hbd
 clear hcd
 refine sr_ ?_
 refine OD.box (ds := [_, _, _, _, _]) (wants_plain rfl) rfl rfl ot rfl rfl (fun b4 => ?_)
 refine os_ mv_ ?_
 refine os_ mv_ ?_
 refine OD.wk (Wk.as_ (n := 76) (l' := [(1, _), (2, _), (3, _), (4, _)]) (S' := [⟨b4, 35, 5, [_, _, _, _, _]⟩]) rfl rfl ⟨lk, lk, lk, lk, trivial⟩) ?_
 refine OD.nil ?_
 refine sr_ ?_
 refine os_ mv_ ?_
 refine nm_ [1, 2, 3, 4, 10] ?_
 refine sr_ ?_
 refine os_ mv_ ?_
 refine os_ mv_ ?_
 refine nm_ [1, 2, 3, 4, 10, 11, 12] ?_
 refine CD.seq ?_
 refine sr_ ?_
 refine os_ (fa_ 0) ?_
 refine os_ (lb_ 0) ?_
 refine nm_ [1, 2, 3, 4, 10, 11, 12, 15] ?_
 refine CD.block ?_
 refine sr_ ?_
 refine os_ bn_ ?_
 refine os_ mv_ ?_
 refine nm_ [1, 2, 3, 4, 10, 11, 12, 15, 16] ?_
 refine CD.cond ot (fun hc0 => ?_) (fun hc0 => ?_)
 ·have hc0' := hc0
  (try simp only [V.cnd, ne_eq] at hc0')
  refine sr_ ?_
  refine os_ (fa_ 1) ?_
  refine os_ (fa_ 0) ?_
  refine os_ (lb_ 0) ?_
  refine os_ mv_ ?_
  refine os_ mv_ ?_
  refine nm_ [8, 9] ?_
  refine CD.ret ?_
  refine r2_ ?_
  refine ⟨?_, rfl⟩
  unfold madeF okF outF
  simp_all
 ·have hc0' := hc0
  (try simp only [V.cnd, ne_eq] at hc0')
  refine sr_ ?_
  refine os_ bn_ ?_
  refine os_ mv_ ?_
  refine nm_ [1, 2, 3, 4, 10, 11, 12, 15, 21] ?_
  refine CD.cond ot (fun hc1 => ?_) (fun hc1 => ?_)
  ·have hc1' := hc1
   (try simp only [V.cnd, ne_eq] at hc1')
   refine sr_ ?_
   refine os_ mv_ ?_
   refine os_ (fa_ 4) ?_
   refine os_ (lb_ 0) ?_
   refine OD.callP (wants_plain rfl) rfl rfl rfl Tryz.call30 (find_vp l hl o.nm) ⟨ot, ot, trivial⟩ ?_
   refine os_ mv_ ?_
   refine OD.wk (Wk.as_ (n := 76) (l' := [(1, _), (13, _)]) (S' := [⟨b4, 35, 5, [_, _, _, _, _]⟩]) rfl rfl ⟨lk, lk, trivial⟩) ?_
   refine OD.nil ?_
   refine CD.seq ?_
   refine sr_ ?_
   refine os_ mv_ ?_
   refine os_ bn_ ?_
   refine nm_ [1, 13, 28] ?_
   refine CD.cond ot (fun hc2 => ?_) (fun hc2 => ?_)
   ·have hc2' := hc2
    (try simp only [V.cnd, ne_eq] at hc2')
    have hka : kindAt l o.nm = (0, 8) := by unfold kindAt; rw [if_pos (by omega)]
    refine sr_ ?_
    refine os_ mv_ ?_
    refine os_ mv_ ?_
    refine nm_ [8, 9] ?_
    refine CD.ret ?_
    refine r2_ ?_
    refine ⟨?_, rfl⟩
    unfold madeF okF outF
    simp_all
   ·have hc2' := hc2
    (try simp only [V.cnd, ne_eq] at hc2')
    have hci : (colAt l o.nm).toNat < l.length := by omega
    have hka : kindAt l o.nm = (l[(colAt l o.nm).toNat].k, 0) := by unfold kindAt; rw [if_neg (by omega), List.getD_eq_getElem?_getD, List.getElem?_eq_getElem hci]; rfl
    refine CD.skip ?_
    refine sr_ ?_
    refine os_ mv_ ?_
    refine os_ mv_ ?_
    refine os_ (ix_ 2) ?_
    refine os_ (fa_ 1) ?_
    refine os_ ld_ ?_
    refine os_ mv_ ?_
    refine os_ mv_ ?_
    refine nm_ [8, 9] ?_
    refine CD.ret ?_
    refine r2_ ?_
    refine ⟨?_, rfl⟩
    unfold madeF okF outF
    simp_all
  ·have hc1' := hc1
   (try simp only [V.cnd, ne_eq] at hc1')
   refine CD.seq ?_
   refine sr_ ?_
   refine os_ bn_ ?_
   refine os_ mv_ ?_
   refine nm_ [2, 3, 10, 11, 12, 15, 34] ?_
   refine CD.cond ot (fun hc3 => ?_) (fun hc3 => ?_)
   ·have hc3' := hc3
    (try simp only [V.cnd, ne_eq] at hc3')
    refine CD.skip ?_
    refine CD.condT ot (by first | rfl | assumption) ?_
    refine CD.region ?_
    refine os_ mv_ ?_
    refine os_ mv_ ?_
    refine OD.callv (f := 56) (args := [_, _]) (all := [_, _]) (Sf := []) (wants_plain rfl) rfl rfl ot Tryz.call56 (is_vp a 1) rfl ⟨ot, opd_const, trivial⟩ (perm_none _) ?_; rintro _ _ ⟨rfl, rfl⟩
    refine os_ mv_ ?_
    refine OD.split (t := 40) lk (fun hg40 => ?_) (fun hg40 => ?_)
    ·have hg40' := hg40; (try simp only [V.cnd, ne_eq] at hg40')
     refine os_ mv_ ?_
     refine os_ mv_ ?_
     refine OD.callv (f := 56) (args := [_, _]) (all := [_, _]) (Sf := []) (wants_T rfl rfl rfl lk (by first | rfl | assumption)) rfl rfl ot Tryz.call56 (is_vp b 1) rfl ⟨ot, opd_const, trivial⟩ (perm_none _) ?_; rintro _ _ ⟨rfl, rfl⟩
     refine os_ pkT_ ?_
     refine os_ mv_ ?_
     refine OD.wk (Wk.as_ (n := 76) (l' := [(11, _), (12, _)]) (S' := [⟨b4, 35, 5, [_, _, _, _, _]⟩]) rfl rfl ⟨lk, lk, trivial⟩) ?_
     refine OD.nil ?_
     refine CD.seq ?_
     refine sr_ ?_
     refine os_ mv_ ?_
     refine os_ un_ ?_
     refine nm_ [12, 74] ?_
     refine CD.cond ot (fun hc11 => ?_) (fun hc11 => ?_)
     ·have hc11' := hc11
      (try simp only [V.cnd, ne_eq] at hc11')
      refine sr_ ?_
      refine os_ mv_ ?_
      refine os_ mv_ ?_
      refine nm_ [8, 9] ?_
      refine CD.ret ?_
      refine r2_ ?_
      refine ⟨?_, rfl⟩
      unfold madeF okF outF
      simp_all
     ·have hc11' := hc11
      (try simp only [V.cnd, ne_eq] at hc11')
      refine CD.skip ?_
      refine sr_ ?_
      refine os_ mv_ ?_
      refine os_ mv_ ?_
      refine os_ mv_ ?_
      refine nm_ [8, 9] ?_
      refine CD.ret ?_
      refine r2_ ?_
      refine ⟨?_, rfl⟩
      unfold madeF okF outF
      simp_all
    ·have hg40' := hg40; (try simp only [V.cnd, ne_eq] at hg40')
     refine sk_ ?_
     refine sk_ ?_
     refine sk_ ?_
     refine os_ pkF_ ?_
     refine os_ mv_ ?_
     refine OD.wk (Wk.as_ (n := 76) (l' := [(11, _), (12, _)]) (S' := [⟨b4, 35, 5, [_, _, _, _, _]⟩]) rfl rfl ⟨lk, lk, trivial⟩) ?_
     refine OD.nil ?_
     refine CD.seq ?_
     refine sr_ ?_
     refine os_ mv_ ?_
     refine os_ un_ ?_
     refine nm_ [12, 74] ?_
     refine CD.condT ot (by first | rfl | assumption) ?_
     refine sr_ ?_
     refine os_ mv_ ?_
     refine os_ mv_ ?_
     refine nm_ [8, 9] ?_
     refine CD.ret ?_
     refine r2_ ?_
     refine ⟨?_, rfl⟩
     unfold madeF okF outF
     simp_all
   ·have hc3' := hc3
    (try simp only [V.cnd, ne_eq] at hc3')
    refine CD.region ?_
    refine os_ bn_ ?_
    refine os_ mv_ ?_
    refine nm_ [2, 3, 10, 11, 12, 15, 34] ?_
    refine CD.cond ot (fun hc4 => ?_) (fun hc4 => ?_)
    ·have hc4' := hc4
     (try simp only [V.cnd, ne_eq] at hc4')
     refine CD.region ?_
     refine os_ mv_ ?_
     refine os_ mv_ ?_
     refine OD.callv (f := 56) (args := [_, _]) (all := [_, _]) (Sf := []) (wants_plain rfl) rfl rfl ot Tryz.call56 (is_vp a 1) rfl ⟨ot, opd_const, trivial⟩ (perm_none _) ?_; rintro _ _ ⟨rfl, rfl⟩
     refine os_ mv_ ?_
     refine OD.split (t := 40) lk (fun hg40 => ?_) (fun hg40 => ?_)
     ·have hg40' := hg40; (try simp only [V.cnd, ne_eq] at hg40')
      refine os_ mv_ ?_
      refine os_ mv_ ?_
      refine OD.callv (f := 56) (args := [_, _]) (all := [_, _]) (Sf := []) (wants_T rfl rfl rfl lk (by first | rfl | assumption)) rfl rfl ot Tryz.call56 (is_vp b 1) rfl ⟨ot, opd_const, trivial⟩ (perm_none _) ?_; rintro _ _ ⟨rfl, rfl⟩
      refine os_ pkT_ ?_
      refine os_ mv_ ?_
      refine OD.wk (Wk.as_ (n := 76) (l' := [(11, _), (12, _)]) (S' := [⟨b4, 35, 5, [_, _, _, _, _]⟩]) rfl rfl ⟨lk, lk, trivial⟩) ?_
      refine OD.nil ?_
      refine CD.seq ?_
      refine sr_ ?_
      refine os_ mv_ ?_
      refine os_ un_ ?_
      refine nm_ [12, 74] ?_
      refine CD.cond ot (fun hc11 => ?_) (fun hc11 => ?_)
      ·have hc11' := hc11
       (try simp only [V.cnd, ne_eq] at hc11')
       refine sr_ ?_
       refine os_ mv_ ?_
       refine os_ mv_ ?_
       refine nm_ [8, 9] ?_
       refine CD.ret ?_
       refine r2_ ?_
       refine ⟨?_, rfl⟩
       unfold madeF okF outF
       simp_all
      ·have hc11' := hc11
       (try simp only [V.cnd, ne_eq] at hc11')
       refine CD.skip ?_
       refine sr_ ?_
       refine os_ mv_ ?_
       refine os_ mv_ ?_
       refine os_ mv_ ?_
       refine nm_ [8, 9] ?_
       refine CD.ret ?_
       refine r2_ ?_
       refine ⟨?_, rfl⟩
       unfold madeF okF outF
       simp_all
     ·have hg40' := hg40; (try simp only [V.cnd, ne_eq] at hg40')
      refine sk_ ?_
      refine sk_ ?_
      refine sk_ ?_
      refine os_ pkF_ ?_
      refine os_ mv_ ?_
      refine OD.wk (Wk.as_ (n := 76) (l' := [(11, _), (12, _)]) (S' := [⟨b4, 35, 5, [_, _, _, _, _]⟩]) rfl rfl ⟨lk, lk, trivial⟩) ?_
      refine OD.nil ?_
      refine CD.seq ?_
      refine sr_ ?_
      refine os_ mv_ ?_
      refine os_ un_ ?_
      refine nm_ [12, 74] ?_
      refine CD.condT ot (by first | rfl | assumption) ?_
      refine sr_ ?_
      refine os_ mv_ ?_
      refine os_ mv_ ?_
      refine nm_ [8, 9] ?_
      refine CD.ret ?_
      refine r2_ ?_
      refine ⟨?_, rfl⟩
      unfold madeF okF outF
      simp_all
    ·have hc4' := hc4
     (try simp only [V.cnd, ne_eq] at hc4')
     refine sr_ ?_
     refine os_ bn_ ?_
     refine os_ mv_ ?_
     refine nm_ [2, 3, 10, 11, 12, 15, 45] ?_
     refine CD.cond ot (fun hc5 => ?_) (fun hc5 => ?_)
     ·have hc5' := hc5
      (try simp only [V.cnd, ne_eq] at hc5')
      refine CD.region ?_
      refine os_ mv_ ?_
      refine os_ mv_ ?_
      refine OD.callv (f := 56) (args := [_, _]) (all := [_, _]) (Sf := []) (wants_plain rfl) rfl rfl ot Tryz.call56 (is_vp a 1) rfl ⟨ot, opd_const, trivial⟩ (perm_none _) ?_; rintro _ _ ⟨rfl, rfl⟩
      refine os_ mv_ ?_
      refine OD.wk (Wk.as_ (n := 76) (l' := [(11, _), (12, _)]) (S' := [⟨b4, 35, 5, [_, _, _, _, _]⟩]) rfl rfl ⟨lk, lk, trivial⟩) ?_
      refine OD.nil ?_
      refine CD.seq ?_
      refine sr_ ?_
      refine os_ mv_ ?_
      refine os_ un_ ?_
      refine nm_ [12, 74] ?_
      refine CD.cond ot (fun hc11 => ?_) (fun hc11 => ?_)
      ·have hc11' := hc11
       (try simp only [V.cnd, ne_eq] at hc11')
       refine sr_ ?_
       refine os_ mv_ ?_
       refine os_ mv_ ?_
       refine nm_ [8, 9] ?_
       refine CD.ret ?_
       refine r2_ ?_
       refine ⟨?_, rfl⟩
       unfold madeF okF outF
       simp_all
      ·have hc11' := hc11
       (try simp only [V.cnd, ne_eq] at hc11')
       refine CD.skip ?_
       refine sr_ ?_
       refine os_ mv_ ?_
       refine os_ mv_ ?_
       refine os_ mv_ ?_
       refine nm_ [8, 9] ?_
       refine CD.ret ?_
       refine r2_ ?_
       refine ⟨?_, rfl⟩
       unfold madeF okF outF
       simp_all
     ·have hc5' := hc5
      (try simp only [V.cnd, ne_eq] at hc5')
      refine CD.seq ?_
      refine sr_ ?_
      refine os_ bn_ ?_
      refine os_ mv_ ?_
      refine nm_ [2, 3, 10, 11, 12, 15, 50] ?_
      refine CD.cond ot (fun hc6 => ?_) (fun hc6 => ?_)
      ·have hc6' := hc6
       (try simp only [V.cnd, ne_eq] at hc6')
       refine CD.skip ?_
       refine CD.condT ot (by first | rfl | assumption) ?_
       refine CD.region ?_
       refine os_ mv_ ?_
       refine os_ mv_ ?_
       refine os_ mv_ ?_
       refine OD.callv (f := 56) (args := [_, _]) (all := [_, _]) (Sf := []) (wants_plain rfl) rfl rfl ot Tryz.call56 (is_vp a b) rfl ⟨ot, ot, trivial⟩ (perm_none _) ?_; rintro _ _ ⟨rfl, rfl⟩
       refine os_ mv_ ?_
       refine OD.split (t := 57) lk (fun hg57 => ?_) (fun hg57 => ?_)
       ·have hg57' := hg57; (try simp only [V.cnd, ne_eq] at hg57')
        refine sk_ ?_
        refine sk_ ?_
        refine os_ pkT_ ?_
        refine os_ mv_ ?_
        refine OD.wk (Wk.as_ (n := 76) (l' := [(11, _), (12, _)]) (S' := [⟨b4, 35, 5, [_, _, _, _, _]⟩]) rfl rfl ⟨lk, lk, trivial⟩) ?_
        refine OD.nil ?_
        refine CD.seq ?_
        refine sr_ ?_
        refine os_ mv_ ?_
        refine os_ un_ ?_
        refine nm_ [12, 74] ?_
        refine CD.condF ot (by first | rfl | assumption) ?_
        refine CD.skip ?_
        refine sr_ ?_
        refine os_ mv_ ?_
        refine os_ mv_ ?_
        refine os_ mv_ ?_
        refine nm_ [8, 9] ?_
        refine CD.ret ?_
        refine r2_ ?_
        refine ⟨?_, rfl⟩
        unfold madeF okF outF
        simp_all
       ·have hg57' := hg57; (try simp only [V.cnd, ne_eq] at hg57')
        refine os_ mv_ ?_
        refine os_ bn_ ?_
        refine os_ pkF_ ?_
        refine os_ mv_ ?_
        refine OD.wk (Wk.as_ (n := 76) (l' := [(11, _), (12, _)]) (S' := [⟨b4, 35, 5, [_, _, _, _, _]⟩]) rfl rfl ⟨lk, lk, trivial⟩) ?_
        refine OD.nil ?_
        refine CD.seq ?_
        refine sr_ ?_
        refine os_ mv_ ?_
        refine os_ un_ ?_
        refine nm_ [12, 74] ?_
        refine CD.cond ot (fun hc11 => ?_) (fun hc11 => ?_)
        ·have hc11' := hc11
         (try simp only [V.cnd, ne_eq] at hc11')
         refine sr_ ?_
         refine os_ mv_ ?_
         refine os_ mv_ ?_
         refine nm_ [8, 9] ?_
         refine CD.ret ?_
         refine r2_ ?_
         refine ⟨?_, rfl⟩
         unfold madeF okF outF
         simp_all
        ·have hc11' := hc11
         (try simp only [V.cnd, ne_eq] at hc11')
         refine CD.skip ?_
         refine sr_ ?_
         refine os_ mv_ ?_
         refine os_ mv_ ?_
         refine os_ mv_ ?_
         refine nm_ [8, 9] ?_
         refine CD.ret ?_
         refine r2_ ?_
         refine ⟨?_, rfl⟩
         unfold madeF okF outF
         simp_all
      ·have hc6' := hc6
       (try simp only [V.cnd, ne_eq] at hc6')
       refine CD.region ?_
       refine os_ bn_ ?_
       refine os_ mv_ ?_
       refine nm_ [2, 3, 10, 11, 12, 15, 50] ?_
       refine CD.cond ot (fun hc7 => ?_) (fun hc7 => ?_)
       ·have hc7' := hc7
        (try simp only [V.cnd, ne_eq] at hc7')
        refine CD.region ?_
        refine os_ mv_ ?_
        refine os_ mv_ ?_
        refine os_ mv_ ?_
        refine OD.callv (f := 56) (args := [_, _]) (all := [_, _]) (Sf := []) (wants_plain rfl) rfl rfl ot Tryz.call56 (is_vp a b) rfl ⟨ot, ot, trivial⟩ (perm_none _) ?_; rintro _ _ ⟨rfl, rfl⟩
        refine os_ mv_ ?_
        refine OD.split (t := 57) lk (fun hg57 => ?_) (fun hg57 => ?_)
        ·have hg57' := hg57; (try simp only [V.cnd, ne_eq] at hg57')
         refine sk_ ?_
         refine sk_ ?_
         refine os_ pkT_ ?_
         refine os_ mv_ ?_
         refine OD.wk (Wk.as_ (n := 76) (l' := [(11, _), (12, _)]) (S' := [⟨b4, 35, 5, [_, _, _, _, _]⟩]) rfl rfl ⟨lk, lk, trivial⟩) ?_
         refine OD.nil ?_
         refine CD.seq ?_
         refine sr_ ?_
         refine os_ mv_ ?_
         refine os_ un_ ?_
         refine nm_ [12, 74] ?_
         refine CD.condF ot (by first | rfl | assumption) ?_
         refine CD.skip ?_
         refine sr_ ?_
         refine os_ mv_ ?_
         refine os_ mv_ ?_
         refine os_ mv_ ?_
         refine nm_ [8, 9] ?_
         refine CD.ret ?_
         refine r2_ ?_
         refine ⟨?_, rfl⟩
         unfold madeF okF outF
         simp_all
        ·have hg57' := hg57; (try simp only [V.cnd, ne_eq] at hg57')
         refine os_ mv_ ?_
         refine os_ bn_ ?_
         refine os_ pkF_ ?_
         refine os_ mv_ ?_
         refine OD.wk (Wk.as_ (n := 76) (l' := [(11, _), (12, _)]) (S' := [⟨b4, 35, 5, [_, _, _, _, _]⟩]) rfl rfl ⟨lk, lk, trivial⟩) ?_
         refine OD.nil ?_
         refine CD.seq ?_
         refine sr_ ?_
         refine os_ mv_ ?_
         refine os_ un_ ?_
         refine nm_ [12, 74] ?_
         refine CD.cond ot (fun hc11 => ?_) (fun hc11 => ?_)
         ·have hc11' := hc11
          (try simp only [V.cnd, ne_eq] at hc11')
          refine sr_ ?_
          refine os_ mv_ ?_
          refine os_ mv_ ?_
          refine nm_ [8, 9] ?_
          refine CD.ret ?_
          refine r2_ ?_
          refine ⟨?_, rfl⟩
          unfold madeF okF outF
          simp_all
         ·have hc11' := hc11
          (try simp only [V.cnd, ne_eq] at hc11')
          refine CD.skip ?_
          refine sr_ ?_
          refine os_ mv_ ?_
          refine os_ mv_ ?_
          refine os_ mv_ ?_
          refine nm_ [8, 9] ?_
          refine CD.ret ?_
          refine r2_ ?_
          refine ⟨?_, rfl⟩
          unfold madeF okF outF
          simp_all
       ·have hc7' := hc7
        (try simp only [V.cnd, ne_eq] at hc7')
        refine CD.seq ?_
        refine sr_ ?_
        refine os_ bn_ ?_
        refine os_ mv_ ?_
        refine nm_ [2, 3, 10, 11, 12, 15, 61] ?_
        refine CD.cond ot (fun hc8 => ?_) (fun hc8 => ?_)
        ·have hc8' := hc8
         (try simp only [V.cnd, ne_eq] at hc8')
         refine CD.skip ?_
         refine CD.condT ot (by first | rfl | assumption) ?_
         refine CD.region ?_
         refine os_ mv_ ?_
         refine os_ mv_ ?_
         refine OD.callv (f := 56) (args := [_, _]) (all := [_, _]) (Sf := []) (wants_plain rfl) rfl rfl ot Tryz.call56 (is_vp a 2) rfl ⟨ot, opd_const, trivial⟩ (perm_none _) ?_; rintro _ _ ⟨rfl, rfl⟩
         refine os_ mv_ ?_
         refine OD.split (t := 68) lk (fun hg68 => ?_) (fun hg68 => ?_)
         ·have hg68' := hg68; (try simp only [V.cnd, ne_eq] at hg68')
          refine os_ mv_ ?_
          refine os_ mv_ ?_
          refine OD.callv (f := 56) (args := [_, _]) (all := [_, _]) (Sf := []) (wants_T rfl rfl rfl lk (by first | rfl | assumption)) rfl rfl ot Tryz.call56 (is_vp b 2) rfl ⟨ot, opd_const, trivial⟩ (perm_none _) ?_; rintro _ _ ⟨rfl, rfl⟩
          refine os_ pkT_ ?_
          refine os_ mv_ ?_
          refine os_ mv_ ?_
          refine OD.wk (Wk.as_ (n := 76) (l' := [(11, _), (12, _)]) (S' := [⟨b4, 35, 5, [_, _, _, _, _]⟩]) rfl rfl ⟨lk, lk, trivial⟩) ?_
          refine OD.nil ?_
          refine CD.seq ?_
          refine sr_ ?_
          refine os_ mv_ ?_
          refine os_ un_ ?_
          refine nm_ [12, 74] ?_
          refine CD.cond ot (fun hc11 => ?_) (fun hc11 => ?_)
          ·have hc11' := hc11
           (try simp only [V.cnd, ne_eq] at hc11')
           refine sr_ ?_
           refine os_ mv_ ?_
           refine os_ mv_ ?_
           refine nm_ [8, 9] ?_
           refine CD.ret ?_
           refine r2_ ?_
           refine ⟨?_, rfl⟩
           unfold madeF okF outF
           simp_all
          ·have hc11' := hc11
           (try simp only [V.cnd, ne_eq] at hc11')
           refine CD.skip ?_
           refine sr_ ?_
           refine os_ mv_ ?_
           refine os_ mv_ ?_
           refine os_ mv_ ?_
           refine nm_ [8, 9] ?_
           refine CD.ret ?_
           refine r2_ ?_
           refine ⟨?_, rfl⟩
           unfold madeF okF outF
           simp_all
         ·have hg68' := hg68; (try simp only [V.cnd, ne_eq] at hg68')
          refine sk_ ?_
          refine sk_ ?_
          refine sk_ ?_
          refine os_ pkF_ ?_
          refine os_ mv_ ?_
          refine os_ mv_ ?_
          refine OD.wk (Wk.as_ (n := 76) (l' := [(11, _), (12, _)]) (S' := [⟨b4, 35, 5, [_, _, _, _, _]⟩]) rfl rfl ⟨lk, lk, trivial⟩) ?_
          refine OD.nil ?_
          refine CD.seq ?_
          refine sr_ ?_
          refine os_ mv_ ?_
          refine os_ un_ ?_
          refine nm_ [12, 74] ?_
          refine CD.condT ot (by first | rfl | assumption) ?_
          refine sr_ ?_
          refine os_ mv_ ?_
          refine os_ mv_ ?_
          refine nm_ [8, 9] ?_
          refine CD.ret ?_
          refine r2_ ?_
          refine ⟨?_, rfl⟩
          unfold madeF okF outF
          simp_all
        ·have hc8' := hc8
         (try simp only [V.cnd, ne_eq] at hc8')
         refine sr_ ?_
         refine os_ bn_ ?_
         refine os_ mv_ ?_
         refine nm_ [2, 3, 10, 11, 12, 15, 61] ?_
         refine CD.cond ot (fun hc9 => ?_) (fun hc9 => ?_)
         ·have hc9' := hc9
          (try simp only [V.cnd, ne_eq] at hc9')
          refine CD.skip ?_
          refine CD.condT ot (by first | rfl | assumption) ?_
          refine CD.region ?_
          refine os_ mv_ ?_
          refine os_ mv_ ?_
          refine OD.callv (f := 56) (args := [_, _]) (all := [_, _]) (Sf := []) (wants_plain rfl) rfl rfl ot Tryz.call56 (is_vp a 2) rfl ⟨ot, opd_const, trivial⟩ (perm_none _) ?_; rintro _ _ ⟨rfl, rfl⟩
          refine os_ mv_ ?_
          refine OD.split (t := 68) lk (fun hg68 => ?_) (fun hg68 => ?_)
          ·have hg68' := hg68; (try simp only [V.cnd, ne_eq] at hg68')
           refine os_ mv_ ?_
           refine os_ mv_ ?_
           refine OD.callv (f := 56) (args := [_, _]) (all := [_, _]) (Sf := []) (wants_T rfl rfl rfl lk (by first | rfl | assumption)) rfl rfl ot Tryz.call56 (is_vp b 2) rfl ⟨ot, opd_const, trivial⟩ (perm_none _) ?_; rintro _ _ ⟨rfl, rfl⟩
           refine os_ pkT_ ?_
           refine os_ mv_ ?_
           refine os_ mv_ ?_
           refine OD.wk (Wk.as_ (n := 76) (l' := [(11, _), (12, _)]) (S' := [⟨b4, 35, 5, [_, _, _, _, _]⟩]) rfl rfl ⟨lk, lk, trivial⟩) ?_
           refine OD.nil ?_
           refine CD.seq ?_
           refine sr_ ?_
           refine os_ mv_ ?_
           refine os_ un_ ?_
           refine nm_ [12, 74] ?_
           refine CD.cond ot (fun hc11 => ?_) (fun hc11 => ?_)
           ·have hc11' := hc11
            (try simp only [V.cnd, ne_eq] at hc11')
            refine sr_ ?_
            refine os_ mv_ ?_
            refine os_ mv_ ?_
            refine nm_ [8, 9] ?_
            refine CD.ret ?_
            refine r2_ ?_
            refine ⟨?_, rfl⟩
            unfold madeF okF outF
            simp_all
           ·have hc11' := hc11
            (try simp only [V.cnd, ne_eq] at hc11')
            refine CD.skip ?_
            refine sr_ ?_
            refine os_ mv_ ?_
            refine os_ mv_ ?_
            refine os_ mv_ ?_
            refine nm_ [8, 9] ?_
            refine CD.ret ?_
            refine r2_ ?_
            refine ⟨?_, rfl⟩
            unfold madeF okF outF
            simp_all
          ·have hg68' := hg68; (try simp only [V.cnd, ne_eq] at hg68')
           refine sk_ ?_
           refine sk_ ?_
           refine sk_ ?_
           refine os_ pkF_ ?_
           refine os_ mv_ ?_
           refine os_ mv_ ?_
           refine OD.wk (Wk.as_ (n := 76) (l' := [(11, _), (12, _)]) (S' := [⟨b4, 35, 5, [_, _, _, _, _]⟩]) rfl rfl ⟨lk, lk, trivial⟩) ?_
           refine OD.nil ?_
           refine CD.seq ?_
           refine sr_ ?_
           refine os_ mv_ ?_
           refine os_ un_ ?_
           refine nm_ [12, 74] ?_
           refine CD.condT ot (by first | rfl | assumption) ?_
           refine sr_ ?_
           refine os_ mv_ ?_
           refine os_ mv_ ?_
           refine nm_ [8, 9] ?_
           refine CD.ret ?_
           refine r2_ ?_
           refine ⟨?_, rfl⟩
           unfold madeF okF outF
           simp_all
         ·have hc9' := hc9
          (try simp only [V.cnd, ne_eq] at hc9')
          refine CD.region ?_
          refine os_ bn_ ?_
          refine os_ mv_ ?_
          refine nm_ [2, 3, 10, 11, 12, 61] ?_
          refine CD.cond ot (fun hc10 => ?_) (fun hc10 => ?_)
          ·have hc10' := hc10
           (try simp only [V.cnd, ne_eq] at hc10')
           refine CD.region ?_
           refine os_ mv_ ?_
           refine os_ mv_ ?_
           refine OD.callv (f := 56) (args := [_, _]) (all := [_, _]) (Sf := []) (wants_plain rfl) rfl rfl ot Tryz.call56 (is_vp a 2) rfl ⟨ot, opd_const, trivial⟩ (perm_none _) ?_; rintro _ _ ⟨rfl, rfl⟩
           refine os_ mv_ ?_
           refine OD.split (t := 68) lk (fun hg68 => ?_) (fun hg68 => ?_)
           ·have hg68' := hg68; (try simp only [V.cnd, ne_eq] at hg68')
            refine os_ mv_ ?_
            refine os_ mv_ ?_
            refine OD.callv (f := 56) (args := [_, _]) (all := [_, _]) (Sf := []) (wants_T rfl rfl rfl lk (by first | rfl | assumption)) rfl rfl ot Tryz.call56 (is_vp b 2) rfl ⟨ot, opd_const, trivial⟩ (perm_none _) ?_; rintro _ _ ⟨rfl, rfl⟩
            refine os_ pkT_ ?_
            refine os_ mv_ ?_
            refine os_ mv_ ?_
            refine OD.wk (Wk.as_ (n := 76) (l' := [(11, _), (12, _)]) (S' := [⟨b4, 35, 5, [_, _, _, _, _]⟩]) rfl rfl ⟨lk, lk, trivial⟩) ?_
            refine OD.nil ?_
            refine CD.seq ?_
            refine sr_ ?_
            refine os_ mv_ ?_
            refine os_ un_ ?_
            refine nm_ [12, 74] ?_
            refine CD.cond ot (fun hc11 => ?_) (fun hc11 => ?_)
            ·have hc11' := hc11
             (try simp only [V.cnd, ne_eq] at hc11')
             refine sr_ ?_
             refine os_ mv_ ?_
             refine os_ mv_ ?_
             refine nm_ [8, 9] ?_
             refine CD.ret ?_
             refine r2_ ?_
             refine ⟨?_, rfl⟩
             unfold madeF okF outF
             simp_all
            ·have hc11' := hc11
             (try simp only [V.cnd, ne_eq] at hc11')
             refine CD.skip ?_
             refine sr_ ?_
             refine os_ mv_ ?_
             refine os_ mv_ ?_
             refine os_ mv_ ?_
             refine nm_ [8, 9] ?_
             refine CD.ret ?_
             refine r2_ ?_
             refine ⟨?_, rfl⟩
             unfold madeF okF outF
             simp_all
           ·have hg68' := hg68; (try simp only [V.cnd, ne_eq] at hg68')
            refine sk_ ?_
            refine sk_ ?_
            refine sk_ ?_
            refine os_ pkF_ ?_
            refine os_ mv_ ?_
            refine os_ mv_ ?_
            refine OD.wk (Wk.as_ (n := 76) (l' := [(11, _), (12, _)]) (S' := [⟨b4, 35, 5, [_, _, _, _, _]⟩]) rfl rfl ⟨lk, lk, trivial⟩) ?_
            refine OD.nil ?_
            refine CD.seq ?_
            refine sr_ ?_
            refine os_ mv_ ?_
            refine os_ un_ ?_
            refine nm_ [12, 74] ?_
            refine CD.condT ot (by first | rfl | assumption) ?_
            refine sr_ ?_
            refine os_ mv_ ?_
            refine os_ mv_ ?_
            refine nm_ [8, 9] ?_
            refine CD.ret ?_
            refine r2_ ?_
            refine ⟨?_, rfl⟩
            unfold madeF okF outF
            simp_all
          ·have hc10' := hc10
           (try simp only [V.cnd, ne_eq] at hc10')
           refine CD.skip ?_
           refine CD.seq ?_
           refine sr_ ?_
           refine os_ mv_ ?_
           refine os_ un_ ?_
           refine nm_ [12, 74] ?_
           refine CD.condF ot (by first | rfl | assumption) ?_
           refine CD.skip ?_
           refine sr_ ?_
           refine os_ mv_ ?_
           refine os_ mv_ ?_
           refine os_ mv_ ?_
           refine nm_ [8, 9] ?_
           refine CD.ret ?_
           refine r2_ ?_
           refine ⟨?_, rfl⟩
           unfold madeF okF outF
           simp_all

set_option maxHeartbeats 4000000 in
set_option maxRecDepth 100000 in
theorem kindcl_vc (l : List ColL) (hl : l.length ≤ 1000) (o : OpL) (a b a' b' : Int) (ha : a = a') (hb : b = b') (b2 : Nat) : VC Tryz.prog G 33 [.agg (cO o), .v (.int .i64 a'), .v (.int .i64 b'), .v (.pointer (some ⟨b2, 0, none⟩))] [⟨b2, 30, 1, [.list 2 (l.flatMap cC) l.length]⟩] (fun r S => r = twoI (madeF l o a b) ∧ S = [⟨b2, 30, 1, [.list 2 (l.flatMap cC) l.length]⟩]) := by
 refine VC.body Tryz.func33 rfl Tryz.ntmps33 (Nat.le_of_ble_eq_true rfl) fun X0 w0 S00 => ?_
 subst ha hb
 have hmv := made_vp (G := G) l hl o a b
 unfold cO at hmv ⊢
 unfold twoI at hmv ⊢
 refine sr_ ?_
 refine OD.box (ds := [_, _, _, _, _]) (wants_plain rfl) rfl rfl ot rfl rfl (fun b4 => ?_)
 refine os_ mv_ ?_
 refine os_ mv_ ?_
 refine OD.wk (Wk.as_ (n := 16) (l' := [(1, _), (2, _), (3, _), (4, _)]) (S' := [⟨b4, 35, 5, [_, _, _, _, _]⟩, ⟨_, _, _, [_]⟩]) rfl rfl ⟨lk, lk, lk, lk, trivial⟩) ?_
 refine OD.nil ?_
 refine sr_ ?_
 refine os_ (lab_ 0 [_, _, _, _, _]) ?_
 refine os_ (lb_ 1) ?_
 refine os_ mv_ ?_
 refine os_ mv_ ?_
 refine OD.callP (wants_plain rfl) rfl rfl rfl Tryz.call34 (hmv) ⟨ot, ot, ot, ot, trivial⟩ ?_
 refine os_ ex_ ?_
 refine os_ ex_ ?_
 refine os_ mv_ ?_
 refine os_ mv_ ?_
 refine OD.wk (Wk.as_ (n := 16) (l' := [(7, _), (8, _)]) (S' := [⟨b4, 35, 5, [_, _, _, _, _]⟩, ⟨_, _, _, [_]⟩]) rfl rfl ⟨lk, lk, trivial⟩) ?_
 refine OD.nil ?_
 refine CD.ret ?_
 refine ⟨.inr rfl, _, [⟨b2, 30, 1, [.list 2 (l.flatMap cC) l.length]⟩], (by repeat (first | exact List.Sublist.refl _ | apply List.Sublist.cons)), ret_two Tryz.results33 (res_tmp (Nat.le_of_ble_eq_true rfl) lk) (res_tmp (Nat.le_of_ble_eq_true rfl) lk), ?_⟩
 exact ⟨rfl, rfl⟩

theorem info3_Ex1 : (Tryz.prog.info? 3).map (fun i => (i.zero, i.size, i.bytes)) = some (some (.int .i64 0), 1, 8) := by kernel_rfl

set_option maxHeartbeats 4000000 in
set_option maxRecDepth 100000 in
theorem foldI_vc (l : List ColL) (hl : l.length ≤ 1000) (ops : List OpL) (h40 : ops.length ≤ 40) (hx : exprL 0 ops = 0) (b2 : Nat) : VC Tryz.prog G 32 [.list 5 (ops.flatMap cO) ops.length, .clo (.func 33) [.v (.pointer (some ⟨b2, 0, none⟩))]] [⟨b2, 30, 1, [.list 2 (l.flatMap cC) l.length]⟩] (fun r S => r = twoI (kindF l ops) ∧ S = [⟨b2, 30, 1, [.list 2 (l.flatMap cC) l.length]⟩]) := by
 refine VC.body Tryz.func32 rfl Tryz.ntmps32 (Nat.le_of_ble_eq_true rfl) fun X0 w0 S00 => ?_
 unfold twoI
 refine sr_ ?_
 refine os_ mv_ ?_
 refine os_ mv_ ?_
 refine nm_ [0, 1] ?_
 refine sr_ ?_
 refine os_ mv_ ?_
 refine nm_ [0, 1, 6] ?_
 refine sr_ ?_
 refine os_ mv_ ?_
 refine nm_ [0, 1, 6, 7] ?_
 refine CD.seq ?_
 refine sr_ ?_
 refine os_ mv_ ?_
 refine os_ ln_ ?_
 refine os_ mv_ ?_
 refine nm_ [1, 6, 7, 16, 17, 18] ?_
 refine CD.block ?_
 refine CD.wk (Wk.asS (n := 64) (l' := [(1, .clo (.func 33) [.v (.pointer (some ⟨b2, 0, none⟩))]), (6, .v (.int .i64 0)), (7, .v (.slice none (([])).length (0))), (16, .list 5 (ops.flatMap cO) ops.length), (17, .v (.int .i64 (ops.length : Nat))), (18, .v (.int .i64 ((0) : Nat)))]) (S' := (⟨b2, 30, 1, [.list 2 (l.flatMap cC) l.length]⟩ :: ([]))) rfl (by repeat (first | exact List.Sublist.refl _ | apply List.Sublist.cons_cons | apply List.Sublist.cons)) ⟨(by (repeat (first | exact look_hit | (apply look_at; focus (first | rfl | (simp; done) | (congr 2; omega) | (apply row_eq; rfl) | (apply row_eq; simp; done))) | (apply look_miss; focus rfl))); done), (by (repeat (first | exact look_hit | (apply look_at; focus (first | rfl | (simp; done) | (congr 2; omega) | (apply row_eq; rfl) | (apply row_eq; simp; done))) | (apply look_miss; focus rfl))); done), (by (repeat (first | exact look_hit | (apply look_at; focus (first | rfl | (simp; done) | (congr 2; omega) | (apply row_eq; rfl) | (apply row_eq; simp; done))) | (apply look_miss; focus rfl))); done), (by (repeat (first | exact look_hit | (apply look_at; focus (first | rfl | (simp; done) | (congr 2; omega) | (apply row_eq; rfl) | (apply row_eq; simp; done))) | (apply look_miss; focus rfl))); done), (by (repeat (first | exact look_hit | (apply look_at; focus (first | rfl | (simp; done) | (congr 2; omega) | (apply row_eq; rfl) | (apply row_eq; simp; done))) | (apply look_miss; focus rfl))); done), (by (repeat (first | exact look_hit | (apply look_at; focus (first | rfl | (simp; done) | (congr 2; omega) | (apply row_eq; rfl) | (apply row_eq; simp; done))) | (apply look_miss; focus rfl))); done), trivial⟩) (CD.loop (fun (gh__ : Nat × List Int × Option Addr × Nat × List Blk) y__ => match gh__ with | (i, st, adh, cph, Sh) => (i ≤ ops.length) ∧ (st.length ≤ i) ∧ (exprL ((st.length : Nat) : Int) (ops.drop i) = 0) ∧ (kindF l ops = foldG 0 (madeF l) (ops.drop i) st) ∧ (OwnL 3 1 ((st).flatMap cI) (st).length adh cph Sh) ∧ y__ = (⟨64, [(1, .clo (.func 33) [.v (.pointer (some ⟨b2, 0, none⟩))]), (6, .v (.int .i64 0)), (7, .v (.slice adh (st).length cph)), (16, .list 5 (ops.flatMap cO) ops.length), (17, .v (.int .i64 (ops.length : Nat))), (18, .v (.int .i64 (i : Nat)))], (⟨b2, 30, 1, [.list 2 (l.flatMap cC) l.length]⟩ :: Sh)⟩ : St)) (fun (gh__ : Nat × List Int × Option Addr × Nat × List Blk) => match gh__ with | (i, st, adh, cph, Sh) => ops.length - i) (0, [], none, 0, []) ⟨(Nat.zero_le _), (Nat.zero_le _), hx, rfl, (OwnL.cast ownL_nil (by first | rfl | simp)), rfl⟩ ?_)
 rintro ⟨i, st, adh, cph, Sh⟩ _ ⟨hi, hst, hex, hinv, hoh, rfl⟩
 refine sr_ ?_
 refine os_ bn_ ?_
 refine nm_ [1, 6, 7, 16, 17, 18, 19] ?_
 refine CD.seq ?_
 refine CD.cond ot (fun hc0 => ?_) (fun hc0 => ?_)
 ·have hc0' := hc0
  (try simp only [V.cnd, ne_eq] at hc0')
  have hlt : i < ops.length := by omega
  obtain ⟨he, hen⟩ := expr_next hlt hex
  obtain ⟨hpo, hk11, hlz, hnm⟩ := err_pops he
  have hpb := pops_bd ops[i].k
  have hnl : (st.take (st.length - (popsF ops[i].k).toNat) ++ [(madeF l ops[i] (argA 0 ops[i].k st) (argB 0 ops[i].k st)).1]).length = st.length + 1 - (popsF ops[i].k).toNat := by rw [List.length_append, List.length_take, List.length_singleton]; omega
  have hnx : exprL (((st.take (st.length - (popsF ops[i].k).toNat) ++ [(madeF l ops[i] (argA 0 ops[i].k st) (argB 0 ops[i].k st)).1]).length : Nat) : Int) (ops.drop (i + 1)) = 0 := by rw [hnl, show (((st.length + 1 - (popsF ops[i].k).toNat : Nat)) : Int) = (st.length : Int) + (1 - popsF ops[i].k) by omega]; exact hen
  refine CD.skip ?_
  refine CD.seq ?_
  refine CD.block ?_
  refine sr_ ?_
  refine os_ (ix_ 5) ?_
  refine os_ (la_ [_, _, _, _, _]) ?_
  refine OD.alloc (ds := [_, _, _, _, _]) (wants_plain rfl) rfl rfl Tryz.zeroValue35 rfl (fun b9 => ?_)
  refine OD.store (k := 0) (cs' := [_, _, _, _, _]) (wants_plain rfl) rfl rfl ot rfl rfl ot rfl rfl Tryz.sizeOf35 rfl rfl rfl ?_
  refine OD.wk (Wk.as_ (n := 64) (l' := [(1, _), (6, _), (7, _), (9, _), (16, _), (17, _), (18, _)]) (S' := (⟨b9, 35, 5, [_, _, _, _, _]⟩ :: ⟨b2, 30, 1, [_]⟩ :: Sh)) rfl rfl ⟨lk, lk, lk, lk, lk, lk, lk, trivial⟩) ?_
  refine OD.nil ?_
  refine sr_ ?_
  refine os_ mv_ ?_
  refine os_ mv_ ?_
  refine nm_ [1, 6, 7, 9, 10, 11, 16, 17, 18] ?_
  refine sr_ ?_
  refine os_ (fa_ 0) ?_
  refine os_ (lb_ 0) ?_
  refine OD.callP (wants_plain rfl) rfl rfl rfl Tryz.call27 (works_vp ops[i].k) ⟨ot, trivial⟩ ?_
  refine os_ mv_ ?_
  refine OD.wk (Wk.as_ (n := 64) (l' := [(1, _), (6, _), (7, _), (9, _), (10, _), (11, _), (12, _), (16, _), (17, _), (18, _)]) (S' := (⟨b9, 35, 5, [_, _, _, _, _]⟩ :: ⟨b2, 30, 1, [_]⟩ :: Sh)) rfl rfl ⟨lk, lk, lk, lk, lk, lk, lk, lk, lk, lk, trivial⟩) ?_
  refine OD.nil ?_
  refine sr_ ?_
  refine os_ mv_ ?_
  refine os_ ln_ ?_
  refine os_ mv_ ?_
  refine os_ bn_ ?_
  refine os_ mv_ ?_
  refine nm_ [1, 6, 7, 9, 10, 11, 12, 13, 16, 17, 18] ?_
  refine CD.seq ?_
  refine sr_ ?_
  refine os_ mv_ ?_
  refine os_ bn_ ?_
  refine nm_ [1, 6, 7, 9, 10, 11, 12, 13, 16, 17, 18, 30] ?_
  refine CD.cond ot (fun hc1 => ?_) (fun hc1 => ?_)
  ·have hc1' := hc1
   (try simp only [V.cnd, ne_eq] at hc1')
   obtain ⟨bh, rfl, hhle, hhcap, rfl⟩ := hoh.pos (by omega)
   have hat : (st.length - (popsF ops[i].k).toNat) < st.length := by omega
   have ha : argA 0 ops[i].k st = st[(st.length - (popsF ops[i].k).toNat)] := by unfold argA; rw [if_pos (by omega), List.getD_eq_getElem?_getD, List.getElem?_eq_getElem hat]; rfl
   refine CD.region ?_
   refine os_ mv_ ?_
   refine os_ mv_ ?_
   refine os_ (ix_ 1 (h := by first | exact .l (j := (st.length - (popsF ops[i].k).toNat)) (by omega) (by omega) | exact .r (j := (st.length - (popsF ops[i].k).toNat)) (by omega) (by omega))) ?_
   refine OD.still (wants_plain rfl) rfl (still_r1 (mk := Op.load 3) rfl ot (ld_row0 (k := 2) cI_len rfl rfl rfl Tryz.isAgg3 hat rfl)) ?_
   refine os_ mv_ ?_
   refine OD.wk (Wk.as_ (n := 64) (l' := [(1, _), (6, _), (7, _), (9, _), (10, _), (11, _), (12, _), (13, _), (16, _), (17, _), (18, _)]) (S' := (⟨b9, 35, 5, [_, _, _, _, _]⟩ :: ⟨b2, 30, 1, [_]⟩ :: [⟨bh, 3, cph * 1, List.flatMap cI st⟩])) rfl rfl ⟨lk, lk, lk, lk, lk, lk, lk, lk, lk, lk, lk, trivial⟩) ?_
   refine OD.nil ?_
   refine CD.seq ?_
   refine sr_ ?_
   refine os_ mv_ ?_
   refine os_ bn_ ?_
   refine nm_ [1, 6, 7, 9, 10, 11, 13, 16, 17, 18, 36] ?_
   refine CD.cond ot (fun hc2 => ?_) (fun hc2 => ?_)
   ·have hc2' := hc2
    (try simp only [V.cnd, ne_eq] at hc2')
    have hat1 : (st.length - (popsF ops[i].k).toNat) + 1 < st.length := by omega
    have hb : argB 0 ops[i].k st = st[(st.length - (popsF ops[i].k).toNat) + 1] := by unfold argB; rw [if_pos (by omega), List.getD_eq_getElem?_getD, List.getElem?_eq_getElem hat1]; rfl
    refine CD.region ?_
    refine os_ mv_ ?_
    refine os_ mv_ ?_
    refine os_ bn_ ?_
    refine os_ (ix_ 1 (h := by first | exact .l (j := (st.length - (popsF ops[i].k).toNat) + 1) (by omega) (by omega) | exact .r (j := (st.length - (popsF ops[i].k).toNat) + 1) (by omega) (by omega))) ?_
    refine OD.still (wants_plain rfl) rfl (still_r1 (mk := Op.load 3) rfl ot (ld_row0 (k := 2) cI_len rfl rfl rfl Tryz.isAgg3 hat1 rfl)) ?_
    refine os_ mv_ ?_
    refine OD.wk (Wk.as_ (n := 64) (l' := [(1, _), (6, _), (7, _), (9, _), (10, _), (11, _), (13, _), (16, _), (17, _), (18, _)]) (S' := (⟨b9, 35, 5, [_, _, _, _, _]⟩ :: ⟨b2, 30, 1, [_]⟩ :: [⟨bh, 3, cph * 1, List.flatMap cI st⟩])) rfl rfl ⟨lk, lk, lk, lk, lk, lk, lk, lk, lk, lk, trivial⟩) ?_
    refine OD.nil ?_
    refine sr_ ?_
    refine os_ mv_ ?_
    refine os_ (lab_ 0 [_, _, _, _, _]) ?_
    refine os_ mv_ ?_
    refine os_ mv_ ?_
    refine OD.callv (f := 33) (args := [_, _, _]) (all := [_, _, _, _]) (Sf := [⟨b2, 30, 1, [.list 2 (l.flatMap cC) l.length]⟩]) (wants_plain rfl) rfl rfl ot Tryz.call33 (kindcl_vc l hl ops[i] _ _ _ _ ha hb b2) rfl ⟨ot, ot, ot, trivial⟩ (perm_one (k := 1) rfl) ?_
    rintro _ _ ⟨rfl, rfl⟩
    refine os_ mv_ ?_
    refine os_ ex_ ?_
    refine os_ ex_ ?_
    refine os_ mv_ ?_
    refine os_ mv_ ?_
    refine OD.wk (Wk.as_ (n := 64) (l' := [(1, _), (6, _), (7, _), (13, _), (14, _), (15, _), (16, _), (17, _), (18, _)]) (S' := (⟨b2, 30, 1, [_]⟩ :: ⟨b9, 35, 5, [_, _, _, _, _]⟩ :: [⟨bh, 3, cph * 1, List.flatMap cI st⟩])) rfl rfl ⟨lk, lk, lk, lk, lk, lk, lk, lk, lk, trivial⟩) ?_
    refine OD.nil ?_
    refine CD.seq ?_
    refine sr_ ?_
    refine os_ mv_ ?_
    refine os_ bn_ ?_
    refine nm_ [1, 6, 7, 13, 14, 15, 16, 17, 18, 51] ?_
    refine CD.cond ot (fun hc3 => ?_) (fun hc3 => ?_)
    ·have hc3' := hc3
     (try simp only [V.cnd, ne_eq] at hc3')
     have hz : (madeF l ops[i] (argA 0 ops[i].k st) (argB 0 ops[i].k st)).2 ≠ 0 := by simpa using hc3
     have hres := hinv.trans (fold_no hlt hz)
     refine sr_ ?_
     refine os_ mv_ ?_
     refine os_ mv_ ?_
     refine os_ mv_ ?_
     refine os_ mv_ ?_
     refine nm_ [4, 5] ?_
     refine CD.ret ?_
     refine ⟨.inr rfl, _, [⟨b2, 30, 1, [.list 2 (l.flatMap cC) l.length]⟩], (by repeat (first | exact List.Sublist.refl _ | exact List.nil_sublist _ | apply List.Sublist.cons_cons | apply List.Sublist.cons)), ret_two Tryz.results32 (res_tmp (Nat.le_of_ble_eq_true rfl) lk) (res_tmp (Nat.le_of_ble_eq_true rfl) lk), ?_⟩
     rw [hres]; exact ⟨rfl, rfl⟩
    ·have hc3' := hc3
     (try simp only [V.cnd, ne_eq] at hc3')
     have hz : (madeF l ops[i] (argA 0 ops[i].k st) (argB 0 ops[i].k st)).2 = 0 := by simpa using hc3
     refine CD.skip ?_
     refine CD.cutL (k := (st.length - (popsF ops[i].k).toNat)) (ls := (st)) (Sq := [⟨bh, 3, cph * 1, List.flatMap cI st⟩]) cI_len (by omega) (ownL_row (g := cI) (ls := st) hhle hhcap) (perm_r11 (A := [_, _])) (fun Sc16 hoc16 => ?_)
     refine CD.perm (perm_q11 (A := [_, _])) ?_
     refine CD.region ?_
     refine os_ mv_ ?_
     refine os_ mv_ ?_
     first | refine OD.still (wants_plain rfl) rfl (still_oslice (n := st.length) (k := (List.take (st.length - (popsF ops[i].k).toNat) st).length) (cs := st.flatMap cI) rfl ot rfl ⟨_, _, ot, by rw [List.length_take]; omega⟩ Tryz.runUnderlying98 Tryz.sizeOf3 (by rw [List.length_take]; omega) hoh) ?_ | refine OD.still (wants_plain rfl) rfl (still_oslice (n := st.length) (k := (List.take (st.length - (popsF ops[i].k).toNat) st).length) (cs := st.flatMap cI) rfl ot rfl ⟨_, _, ot, by rw [List.length_take]; omega⟩ Tryz.runUnderlying98 Tryz.sizeOf3 (by rw [List.length_take]; omega) (ownL_row (e := 3) (g := cI) (ls := st) hhle hhcap)) ?_
     refine os_ mv_ ?_
     refine OD.bldS (pl := numD 0 [_]) (zvs := [.int .i64 0]) (ds := [_]) (wants_plain rfl) rfl rfl Tryz.zeroValue3 Tryz.runUnderlying98 Tryz.sizeOf3 rfl rfl (by kernel_rfl) ⟨rfl, ot, trivial⟩ (by exact rfl) (fill_full (by exact rfl) (by exact rfl) (by exact rfl)) (fun b58 => ?_)
     refine OD.give (k := 0) (t := 58) (sz := 1) (m := 1) rfl lk rfl rfl rfl (Nat.le_refl _) (by decide) ?_
     refine OD.appendG (ls := (List.take (st.length - (popsF ops[i].k).toNat) (st))) (new := [(madeF l ops[i] (argA 0 ops[i].k st) (argB 0 ops[i].k st)).1]) (Sq := Sc16) cI_len cI_one (wants_plain rfl) rfl rfl Tryz.underlying98 info3_Ex1 rfl (by decide) ot hoc16 (perm_r11 (A := [_, _])) ot (by simp) (by simp [maxLen]; omega) (by simp; omega) (fun b59 cp59 h159 h259 => ?_)
     refine OD.perm (perm_q11 (S1 := [⟨b59, 3, cp59 * 1, List.flatMap cI ((List.take (st.length - (popsF ops[i].k).toNat) (st)) ++ [(madeF l ops[i] (argA 0 ops[i].k st) (argB 0 ops[i].k st)).1])⟩]) (A := [_, _])) ?_
     refine os_ mv_ ?_
     refine OD.wk (Wk.as_ (n := 64) (l' := [(1, _), (6, _), (7, _), (16, _), (17, _), (18, _)]) (S' := (⟨b2, 30, 1, [_]⟩ :: ⟨b9, 35, 5, [_, _, _, _, _]⟩ :: [⟨b59, 3, cp59 * 1, List.flatMap cI ((List.take (st.length - (popsF ops[i].k).toNat) (st)) ++ [(madeF l ops[i] (argA 0 ops[i].k st) (argB 0 ops[i].k st)).1])⟩])) rfl rfl ⟨lk, lk, lk, lk, lk, lk, trivial⟩) ?_
     refine OD.nil ?_
     refine CD.region ?_
     refine os_ bn_ ?_
     refine os_ mv_ ?_
     refine nm_ [1, 6, 7, 16, 17, 18] ?_
     refine ⟨((i + 1), (st.take (st.length - (popsF ops[i].k).toNat) ++ [(madeF l ops[i] (argA 0 ops[i].k st) (argB 0 ops[i].k st)).1]), (some ⟨b59, 0, none⟩), cp59, [⟨b59, 3, cp59 * 1, List.flatMap cI ((List.take (st.length - (popsF ops[i].k).toNat) (st)) ++ [(madeF l ops[i] (argA 0 ops[i].k st) (argB 0 ops[i].k st)).1])⟩]), ⟨64, [(1, .clo (.func 33) [.v (.pointer (some ⟨b2, 0, none⟩))]), (6, .v (.int .i64 0)), (7, .v (.slice ((some ⟨b59, 0, none⟩)) (((st.take (st.length - (popsF ops[i].k).toNat) ++ [(madeF l ops[i] (argA 0 ops[i].k st) (argB 0 ops[i].k st)).1]))).length cp59)), (16, .list 5 (ops.flatMap cO) ops.length), (17, .v (.int .i64 (ops.length : Nat))), (18, .v (.int .i64 (((i + 1)) : Nat)))], (⟨b2, 30, 1, [.list 2 (l.flatMap cC) l.length]⟩ :: ([⟨b59, 3, cp59 * 1, List.flatMap cI ((List.take (st.length - (popsF ops[i].k).toNat) (st)) ++ [(madeF l ops[i] (argA 0 ops[i].k st) (argB 0 ops[i].k st)).1])⟩]))⟩, ?_, Wk.asS (n := 64) rfl (by repeat (first | exact List.Sublist.refl _ | apply List.Sublist.cons_cons | apply List.Sublist.cons)) ⟨(by (repeat (first | exact look_hit | (apply look_at; focus (first | rfl | (simp; done) | (congr 2; omega) | (apply row_eq; rfl) | (apply row_eq; simp; done))) | (apply look_miss; focus rfl))); done), (by (repeat (first | exact look_hit | (apply look_at; focus (first | rfl | (simp; done) | (congr 2; omega) | (apply row_eq; rfl) | (apply row_eq; simp; done))) | (apply look_miss; focus rfl))); done), (by (repeat (first | exact look_hit | (apply look_at; focus (first | rfl | (simp; done) | (congr 2; omega) | (apply row_eq; rfl) | (apply row_eq; simp; done))) | (apply look_miss; focus rfl))); done), (by (repeat (first | exact look_hit | (apply look_at; focus (first | rfl | (simp; done) | (congr 2; omega) | (apply row_eq; rfl) | (apply row_eq; simp; done))) | (apply look_miss; focus rfl))); done), (by (repeat (first | exact look_hit | (apply look_at; focus (first | rfl | (simp; done) | (congr 2; omega) | (apply row_eq; rfl) | (apply row_eq; simp; done))) | (apply look_miss; focus rfl))); done), (by (repeat (first | exact look_hit | (apply look_at; focus (first | rfl | (simp; done) | (congr 2; omega) | (apply row_eq; rfl) | (apply row_eq; simp; done))) | (apply look_miss; focus rfl))); done), trivial⟩, (by omega), (by rw [hnl]; omega), hnx, (hinv.trans (fold_go hlt hz)), (OwnL.cast (ownL_row h159 h259) (by rfl)), rfl⟩
     first | omega | (simp only []; omega)
   ·have hc2' := hc2
    (try simp only [V.cnd, ne_eq] at hc2')
    have hb : argB 0 ops[i].k st = 0 := by unfold argB; rw [if_neg (by omega)]
    refine CD.skip ?_
    refine sr_ ?_
    refine os_ mv_ ?_
    refine os_ (lab_ 0 [_, _, _, _, _]) ?_
    refine os_ mv_ ?_
    refine os_ mv_ ?_
    refine OD.callv (f := 33) (args := [_, _, _]) (all := [_, _, _, _]) (Sf := [⟨b2, 30, 1, [.list 2 (l.flatMap cC) l.length]⟩]) (wants_plain rfl) rfl rfl ot Tryz.call33 (kindcl_vc l hl ops[i] _ _ _ _ ha hb b2) rfl ⟨ot, ot, ot, trivial⟩ (perm_one (k := 1) rfl) ?_
    rintro _ _ ⟨rfl, rfl⟩
    refine os_ mv_ ?_
    refine os_ ex_ ?_
    refine os_ ex_ ?_
    refine os_ mv_ ?_
    refine os_ mv_ ?_
    refine OD.wk (Wk.as_ (n := 64) (l' := [(1, _), (6, _), (7, _), (13, _), (14, _), (15, _), (16, _), (17, _), (18, _)]) (S' := (⟨b2, 30, 1, [_]⟩ :: ⟨b9, 35, 5, [_, _, _, _, _]⟩ :: [⟨bh, 3, cph * 1, List.flatMap cI st⟩])) rfl rfl ⟨lk, lk, lk, lk, lk, lk, lk, lk, lk, trivial⟩) ?_
    refine OD.nil ?_
    refine CD.seq ?_
    refine sr_ ?_
    refine os_ mv_ ?_
    refine os_ bn_ ?_
    refine nm_ [1, 6, 7, 13, 14, 15, 16, 17, 18, 51] ?_
    refine CD.cond ot (fun hc3 => ?_) (fun hc3 => ?_)
    ·have hc3' := hc3
     (try simp only [V.cnd, ne_eq] at hc3')
     have hz : (madeF l ops[i] (argA 0 ops[i].k st) (argB 0 ops[i].k st)).2 ≠ 0 := by simpa using hc3
     have hres := hinv.trans (fold_no hlt hz)
     refine sr_ ?_
     refine os_ mv_ ?_
     refine os_ mv_ ?_
     refine os_ mv_ ?_
     refine os_ mv_ ?_
     refine nm_ [4, 5] ?_
     refine CD.ret ?_
     refine ⟨.inr rfl, _, [⟨b2, 30, 1, [.list 2 (l.flatMap cC) l.length]⟩], (by repeat (first | exact List.Sublist.refl _ | exact List.nil_sublist _ | apply List.Sublist.cons_cons | apply List.Sublist.cons)), ret_two Tryz.results32 (res_tmp (Nat.le_of_ble_eq_true rfl) lk) (res_tmp (Nat.le_of_ble_eq_true rfl) lk), ?_⟩
     rw [hres]; exact ⟨rfl, rfl⟩
    ·have hc3' := hc3
     (try simp only [V.cnd, ne_eq] at hc3')
     have hz : (madeF l ops[i] (argA 0 ops[i].k st) (argB 0 ops[i].k st)).2 = 0 := by simpa using hc3
     refine CD.skip ?_
     refine CD.cutL (k := (st.length - (popsF ops[i].k).toNat)) (ls := (st)) (Sq := [⟨bh, 3, cph * 1, List.flatMap cI st⟩]) cI_len (by omega) (ownL_row (g := cI) (ls := st) hhle hhcap) (perm_r11 (A := [_, _])) (fun Sc16 hoc16 => ?_)
     refine CD.perm (perm_q11 (A := [_, _])) ?_
     refine CD.region ?_
     refine os_ mv_ ?_
     refine os_ mv_ ?_
     first | refine OD.still (wants_plain rfl) rfl (still_oslice (n := st.length) (k := (List.take (st.length - (popsF ops[i].k).toNat) st).length) (cs := st.flatMap cI) rfl ot rfl ⟨_, _, ot, by rw [List.length_take]; omega⟩ Tryz.runUnderlying98 Tryz.sizeOf3 (by rw [List.length_take]; omega) hoh) ?_ | refine OD.still (wants_plain rfl) rfl (still_oslice (n := st.length) (k := (List.take (st.length - (popsF ops[i].k).toNat) st).length) (cs := st.flatMap cI) rfl ot rfl ⟨_, _, ot, by rw [List.length_take]; omega⟩ Tryz.runUnderlying98 Tryz.sizeOf3 (by rw [List.length_take]; omega) (ownL_row (e := 3) (g := cI) (ls := st) hhle hhcap)) ?_
     refine os_ mv_ ?_
     refine OD.bldS (pl := numD 0 [_]) (zvs := [.int .i64 0]) (ds := [_]) (wants_plain rfl) rfl rfl Tryz.zeroValue3 Tryz.runUnderlying98 Tryz.sizeOf3 rfl rfl (by kernel_rfl) ⟨rfl, ot, trivial⟩ (by exact rfl) (fill_full (by exact rfl) (by exact rfl) (by exact rfl)) (fun b58 => ?_)
     refine OD.give (k := 0) (t := 58) (sz := 1) (m := 1) rfl lk rfl rfl rfl (Nat.le_refl _) (by decide) ?_
     refine OD.appendG (ls := (List.take (st.length - (popsF ops[i].k).toNat) (st))) (new := [(madeF l ops[i] (argA 0 ops[i].k st) (argB 0 ops[i].k st)).1]) (Sq := Sc16) cI_len cI_one (wants_plain rfl) rfl rfl Tryz.underlying98 info3_Ex1 rfl (by decide) ot hoc16 (perm_r11 (A := [_, _])) ot (by simp) (by simp [maxLen]; omega) (by simp; omega) (fun b59 cp59 h159 h259 => ?_)
     refine OD.perm (perm_q11 (S1 := [⟨b59, 3, cp59 * 1, List.flatMap cI ((List.take (st.length - (popsF ops[i].k).toNat) (st)) ++ [(madeF l ops[i] (argA 0 ops[i].k st) (argB 0 ops[i].k st)).1])⟩]) (A := [_, _])) ?_
     refine os_ mv_ ?_
     refine OD.wk (Wk.as_ (n := 64) (l' := [(1, _), (6, _), (7, _), (16, _), (17, _), (18, _)]) (S' := (⟨b2, 30, 1, [_]⟩ :: ⟨b9, 35, 5, [_, _, _, _, _]⟩ :: [⟨b59, 3, cp59 * 1, List.flatMap cI ((List.take (st.length - (popsF ops[i].k).toNat) (st)) ++ [(madeF l ops[i] (argA 0 ops[i].k st) (argB 0 ops[i].k st)).1])⟩])) rfl rfl ⟨lk, lk, lk, lk, lk, lk, trivial⟩) ?_
     refine OD.nil ?_
     refine CD.region ?_
     refine os_ bn_ ?_
     refine os_ mv_ ?_
     refine nm_ [1, 6, 7, 16, 17, 18] ?_
     refine ⟨((i + 1), (st.take (st.length - (popsF ops[i].k).toNat) ++ [(madeF l ops[i] (argA 0 ops[i].k st) (argB 0 ops[i].k st)).1]), (some ⟨b59, 0, none⟩), cp59, [⟨b59, 3, cp59 * 1, List.flatMap cI ((List.take (st.length - (popsF ops[i].k).toNat) (st)) ++ [(madeF l ops[i] (argA 0 ops[i].k st) (argB 0 ops[i].k st)).1])⟩]), ⟨64, [(1, .clo (.func 33) [.v (.pointer (some ⟨b2, 0, none⟩))]), (6, .v (.int .i64 0)), (7, .v (.slice ((some ⟨b59, 0, none⟩)) (((st.take (st.length - (popsF ops[i].k).toNat) ++ [(madeF l ops[i] (argA 0 ops[i].k st) (argB 0 ops[i].k st)).1]))).length cp59)), (16, .list 5 (ops.flatMap cO) ops.length), (17, .v (.int .i64 (ops.length : Nat))), (18, .v (.int .i64 (((i + 1)) : Nat)))], (⟨b2, 30, 1, [.list 2 (l.flatMap cC) l.length]⟩ :: ([⟨b59, 3, cp59 * 1, List.flatMap cI ((List.take (st.length - (popsF ops[i].k).toNat) (st)) ++ [(madeF l ops[i] (argA 0 ops[i].k st) (argB 0 ops[i].k st)).1])⟩]))⟩, ?_, Wk.asS (n := 64) rfl (by repeat (first | exact List.Sublist.refl _ | apply List.Sublist.cons_cons | apply List.Sublist.cons)) ⟨(by (repeat (first | exact look_hit | (apply look_at; focus (first | rfl | (simp; done) | (congr 2; omega) | (apply row_eq; rfl) | (apply row_eq; simp; done))) | (apply look_miss; focus rfl))); done), (by (repeat (first | exact look_hit | (apply look_at; focus (first | rfl | (simp; done) | (congr 2; omega) | (apply row_eq; rfl) | (apply row_eq; simp; done))) | (apply look_miss; focus rfl))); done), (by (repeat (first | exact look_hit | (apply look_at; focus (first | rfl | (simp; done) | (congr 2; omega) | (apply row_eq; rfl) | (apply row_eq; simp; done))) | (apply look_miss; focus rfl))); done), (by (repeat (first | exact look_hit | (apply look_at; focus (first | rfl | (simp; done) | (congr 2; omega) | (apply row_eq; rfl) | (apply row_eq; simp; done))) | (apply look_miss; focus rfl))); done), (by (repeat (first | exact look_hit | (apply look_at; focus (first | rfl | (simp; done) | (congr 2; omega) | (apply row_eq; rfl) | (apply row_eq; simp; done))) | (apply look_miss; focus rfl))); done), (by (repeat (first | exact look_hit | (apply look_at; focus (first | rfl | (simp; done) | (congr 2; omega) | (apply row_eq; rfl) | (apply row_eq; simp; done))) | (apply look_miss; focus rfl))); done), trivial⟩, (by omega), (by rw [hnl]; omega), hnx, (hinv.trans (fold_go hlt hz)), (OwnL.cast (ownL_row h159 h259) (by rfl)), rfl⟩
     first | omega | (simp only []; omega)
  ·have hc1' := hc1
   (try simp only [V.cnd, ne_eq] at hc1')
   have ha : argA 0 ops[i].k st = 0 := by unfold argA; rw [if_neg (by omega)]
   refine CD.skip ?_
   refine CD.seq ?_
   refine sr_ ?_
   refine os_ mv_ ?_
   refine os_ bn_ ?_
   refine nm_ [1, 6, 7, 9, 10, 11, 13, 16, 17, 18, 36] ?_
   refine CD.cond ot (fun hc2 => ?_) (fun hc2 => ?_)
   ·exact absurd hc2 (by simp at *; omega)
   ·have hc2' := hc2
    (try simp only [V.cnd, ne_eq] at hc2')
    have hb : argB 0 ops[i].k st = 0 := by unfold argB; rw [if_neg (by omega)]
    refine CD.skip ?_
    refine sr_ ?_
    refine os_ mv_ ?_
    refine os_ (lab_ 0 [_, _, _, _, _]) ?_
    refine os_ mv_ ?_
    refine os_ mv_ ?_
    refine OD.callv (f := 33) (args := [_, _, _]) (all := [_, _, _, _]) (Sf := [⟨b2, 30, 1, [.list 2 (l.flatMap cC) l.length]⟩]) (wants_plain rfl) rfl rfl ot Tryz.call33 (kindcl_vc l hl ops[i] _ _ _ _ ha hb b2) rfl ⟨ot, ot, ot, trivial⟩ (perm_one (k := 1) rfl) ?_
    rintro _ _ ⟨rfl, rfl⟩
    refine os_ mv_ ?_
    refine os_ ex_ ?_
    refine os_ ex_ ?_
    refine os_ mv_ ?_
    refine os_ mv_ ?_
    refine OD.wk (Wk.as_ (n := 64) (l' := [(1, _), (6, _), (7, _), (13, _), (14, _), (15, _), (16, _), (17, _), (18, _)]) (S' := (⟨b2, 30, 1, [_]⟩ :: ⟨b9, 35, 5, [_, _, _, _, _]⟩ :: Sh)) rfl rfl ⟨lk, lk, lk, lk, lk, lk, lk, lk, lk, trivial⟩) ?_
    refine OD.nil ?_
    refine CD.seq ?_
    refine sr_ ?_
    refine os_ mv_ ?_
    refine os_ bn_ ?_
    refine nm_ [1, 6, 7, 13, 14, 15, 16, 17, 18, 51] ?_
    refine CD.cond ot (fun hc3 => ?_) (fun hc3 => ?_)
    ·have hc3' := hc3
     (try simp only [V.cnd, ne_eq] at hc3')
     have hz : (madeF l ops[i] (argA 0 ops[i].k st) (argB 0 ops[i].k st)).2 ≠ 0 := by simpa using hc3
     have hres := hinv.trans (fold_no hlt hz)
     refine sr_ ?_
     refine os_ mv_ ?_
     refine os_ mv_ ?_
     refine os_ mv_ ?_
     refine os_ mv_ ?_
     refine nm_ [4, 5] ?_
     refine CD.ret ?_
     refine ⟨.inr rfl, _, [⟨b2, 30, 1, [.list 2 (l.flatMap cC) l.length]⟩], (by repeat (first | exact List.Sublist.refl _ | exact List.nil_sublist _ | apply List.Sublist.cons_cons | apply List.Sublist.cons)), ret_two Tryz.results32 (res_tmp (Nat.le_of_ble_eq_true rfl) lk) (res_tmp (Nat.le_of_ble_eq_true rfl) lk), ?_⟩
     rw [hres]; exact ⟨rfl, rfl⟩
    ·have hc3' := hc3
     (try simp only [V.cnd, ne_eq] at hc3')
     have hz : (madeF l ops[i] (argA 0 ops[i].k st) (argB 0 ops[i].k st)).2 = 0 := by simpa using hc3
     refine CD.skip ?_
     refine CD.cutL (k := (st.length - (popsF ops[i].k).toNat)) (ls := (st)) (Sq := Sh) cI_len (by omega) hoh (perm_r11 (A := [_, _])) (fun Sc16 hoc16 => ?_)
     refine CD.perm (perm_q11 (A := [_, _])) ?_
     refine CD.region ?_
     refine os_ mv_ ?_
     refine os_ mv_ ?_
     first | refine OD.still (wants_plain rfl) rfl (still_oslice (n := st.length) (k := (List.take (st.length - (popsF ops[i].k).toNat) st).length) (cs := st.flatMap cI) rfl ot rfl ⟨_, _, ot, by rw [List.length_take]; omega⟩ Tryz.runUnderlying98 Tryz.sizeOf3 (by rw [List.length_take]; omega) hoh) ?_ | refine OD.still (wants_plain rfl) rfl (still_oslice (n := st.length) (k := (List.take (st.length - (popsF ops[i].k).toNat) st).length) (cs := st.flatMap cI) rfl ot rfl ⟨_, _, ot, by rw [List.length_take]; omega⟩ Tryz.runUnderlying98 Tryz.sizeOf3 (by rw [List.length_take]; omega) (ownL_row (e := 3) (g := cI) (ls := st) hhle hhcap)) ?_
     refine os_ mv_ ?_
     refine OD.bldS (pl := numD 0 [_]) (zvs := [.int .i64 0]) (ds := [_]) (wants_plain rfl) rfl rfl Tryz.zeroValue3 Tryz.runUnderlying98 Tryz.sizeOf3 rfl rfl (by kernel_rfl) ⟨rfl, ot, trivial⟩ (by exact rfl) (fill_full (by exact rfl) (by exact rfl) (by exact rfl)) (fun b58 => ?_)
     refine OD.give (k := 0) (t := 58) (sz := 1) (m := 1) rfl lk rfl rfl rfl (Nat.le_refl _) (by decide) ?_
     refine OD.appendG (ls := (List.take (st.length - (popsF ops[i].k).toNat) (st))) (new := [(madeF l ops[i] (argA 0 ops[i].k st) (argB 0 ops[i].k st)).1]) (Sq := Sc16) cI_len cI_one (wants_plain rfl) rfl rfl Tryz.underlying98 info3_Ex1 rfl (by decide) ot hoc16 (perm_r11 (A := [_, _])) ot (by simp) (by simp [maxLen]; omega) (by simp; omega) (fun b59 cp59 h159 h259 => ?_)
     refine OD.perm (perm_q11 (S1 := [⟨b59, 3, cp59 * 1, List.flatMap cI ((List.take (st.length - (popsF ops[i].k).toNat) (st)) ++ [(madeF l ops[i] (argA 0 ops[i].k st) (argB 0 ops[i].k st)).1])⟩]) (A := [_, _])) ?_
     refine os_ mv_ ?_
     refine OD.wk (Wk.as_ (n := 64) (l' := [(1, _), (6, _), (7, _), (16, _), (17, _), (18, _)]) (S' := (⟨b2, 30, 1, [_]⟩ :: ⟨b9, 35, 5, [_, _, _, _, _]⟩ :: [⟨b59, 3, cp59 * 1, List.flatMap cI ((List.take (st.length - (popsF ops[i].k).toNat) (st)) ++ [(madeF l ops[i] (argA 0 ops[i].k st) (argB 0 ops[i].k st)).1])⟩])) rfl rfl ⟨lk, lk, lk, lk, lk, lk, trivial⟩) ?_
     refine OD.nil ?_
     refine CD.region ?_
     refine os_ bn_ ?_
     refine os_ mv_ ?_
     refine nm_ [1, 6, 7, 16, 17, 18] ?_
     refine ⟨((i + 1), (st.take (st.length - (popsF ops[i].k).toNat) ++ [(madeF l ops[i] (argA 0 ops[i].k st) (argB 0 ops[i].k st)).1]), (some ⟨b59, 0, none⟩), cp59, [⟨b59, 3, cp59 * 1, List.flatMap cI ((List.take (st.length - (popsF ops[i].k).toNat) (st)) ++ [(madeF l ops[i] (argA 0 ops[i].k st) (argB 0 ops[i].k st)).1])⟩]), ⟨64, [(1, .clo (.func 33) [.v (.pointer (some ⟨b2, 0, none⟩))]), (6, .v (.int .i64 0)), (7, .v (.slice ((some ⟨b59, 0, none⟩)) (((st.take (st.length - (popsF ops[i].k).toNat) ++ [(madeF l ops[i] (argA 0 ops[i].k st) (argB 0 ops[i].k st)).1]))).length cp59)), (16, .list 5 (ops.flatMap cO) ops.length), (17, .v (.int .i64 (ops.length : Nat))), (18, .v (.int .i64 (((i + 1)) : Nat)))], (⟨b2, 30, 1, [.list 2 (l.flatMap cC) l.length]⟩ :: ([⟨b59, 3, cp59 * 1, List.flatMap cI ((List.take (st.length - (popsF ops[i].k).toNat) (st)) ++ [(madeF l ops[i] (argA 0 ops[i].k st) (argB 0 ops[i].k st)).1])⟩]))⟩, ?_, Wk.asS (n := 64) rfl (by repeat (first | exact List.Sublist.refl _ | apply List.Sublist.cons_cons | apply List.Sublist.cons)) ⟨(by (repeat (first | exact look_hit | (apply look_at; focus (first | rfl | (simp; done) | (congr 2; omega) | (apply row_eq; rfl) | (apply row_eq; simp; done))) | (apply look_miss; focus rfl))); done), (by (repeat (first | exact look_hit | (apply look_at; focus (first | rfl | (simp; done) | (congr 2; omega) | (apply row_eq; rfl) | (apply row_eq; simp; done))) | (apply look_miss; focus rfl))); done), (by (repeat (first | exact look_hit | (apply look_at; focus (first | rfl | (simp; done) | (congr 2; omega) | (apply row_eq; rfl) | (apply row_eq; simp; done))) | (apply look_miss; focus rfl))); done), (by (repeat (first | exact look_hit | (apply look_at; focus (first | rfl | (simp; done) | (congr 2; omega) | (apply row_eq; rfl) | (apply row_eq; simp; done))) | (apply look_miss; focus rfl))); done), (by (repeat (first | exact look_hit | (apply look_at; focus (first | rfl | (simp; done) | (congr 2; omega) | (apply row_eq; rfl) | (apply row_eq; simp; done))) | (apply look_miss; focus rfl))); done), (by (repeat (first | exact look_hit | (apply look_at; focus (first | rfl | (simp; done) | (congr 2; omega) | (apply row_eq; rfl) | (apply row_eq; simp; done))) | (apply look_miss; focus rfl))); done), trivial⟩, (by omega), (by rw [hnl]; omega), hnx, (hinv.trans (fold_go hlt hz)), (OwnL.cast (ownL_row h159 h259) (by rfl)), rfl⟩
     first | omega | (simp only []; omega)
 ·have hc0' := hc0
  (try simp only [V.cnd, ne_eq] at hc0')
  have h1 := expr_one (by omega) hex
  have hst1 : 0 < st.length := by omega
  obtain ⟨bh, rfl, hhle, hhcap, rfl⟩ := hoh.pos (by omega)
  have hres := hinv.trans (fold_end (by omega))
  have hgd : st.getD 0 0 = st[0] := by rw [List.getD_eq_getElem?_getD, List.getElem?_eq_getElem hst1]; rfl
  rw [hgd] at hres
  refine CD.exit ?_
  refine sr_ ?_
  refine os_ mv_ ?_
  refine OD.still (wants_plain rfl) rfl (still_r2 (mk := Op.indexAddr 98) rfl ot opd_const (by first | exact ix_list (j := 0) Tryz.runUnderlying98 Tryz.sizeOf3 rfl (by first | omega | decide) | exact ix_row (j := 0) Tryz.runUnderlying98 Tryz.sizeOf3 rfl (by first | omega | decide))) ?_
  refine OD.still (wants_plain rfl) rfl (still_r1 (mk := Op.load 3) rfl ot (ld_row0 (k := 1) cI_len rfl rfl rfl Tryz.isAgg3 hst1 rfl)) ?_
  refine os_ mv_ ?_
  refine os_ mv_ ?_
  refine OD.wk (Wk.as_ (n := 64) (l' := [(4, _), (5, _)]) (S' := (⟨b2, 30, 1, [_]⟩ :: [⟨bh, 3, cph * 1, List.flatMap cI st⟩])) rfl rfl ⟨lk, lk, trivial⟩) ?_
  refine OD.nil ?_
  refine CD.ret ?_
  refine ⟨.inr rfl, _, [⟨b2, 30, 1, [.list 2 (l.flatMap cC) l.length]⟩], (by repeat (first | exact List.Sublist.refl _ | exact List.nil_sublist _ | apply List.Sublist.cons_cons | apply List.Sublist.cons)), ret_two Tryz.results32 (res_tmp (Nat.le_of_ble_eq_true rfl) lk) (res_tmp (Nat.le_of_ble_eq_true rfl) lk), ?_⟩
  rw [hres]; exact ⟨rfl, rfl⟩

set_option maxHeartbeats 4000000 in
set_option maxRecDepth 100000 in
theorem kindOf_vp (l : List ColL) (hl : l.length ≤ 1000) (ops : List OpL) (hx : exprF ops = 0) : VP Tryz.prog G 19 [.list 2 (l.flatMap cC) l.length, .list 5 (ops.flatMap cO) ops.length] (twoI (kindF l ops)) := by
 refine VC.body Tryz.func19 rfl Tryz.ntmps19 (Nat.le_of_ble_eq_true rfl) fun X0 w0 S00 => ?_
 obtain ⟨h40, hx0⟩ := expr_ok hx
 have hfv := fun b2 => foldI_vc (G := G) l hl ops h40 hx0 b2
 unfold twoI at hfv ⊢
 refine sr_ ?_
 refine OD.box (ds := [_]) (wants_plain rfl) rfl rfl ot rfl rfl (fun b2 => ?_)
 refine os_ mv_ ?_
 refine os_ mv_ ?_
 refine OD.wk (Wk.as_ (n := 11) (l' := [(1, _), (2, _)]) (S' := [⟨b2, 30, 1, [_]⟩]) rfl rfl ⟨lk, lk, trivial⟩) ?_
 refine OD.nil ?_
 refine sr_ ?_
 refine os_ mv_ ?_
 refine OD.still (wants_plain rfl) rfl (still_fn (ds := [_]) rfl ⟨ot, trivial⟩) ?_
 refine OD.call (wants_plain rfl) rfl rfl rfl Tryz.call32 (hfv b2) ⟨ot, ot, trivial⟩ (perm_one (k := 0) rfl) ?_
 rintro _ _ ⟨rfl, rfl⟩
 refine os_ ex_ ?_
 refine os_ ex_ ?_
 refine os_ mv_ ?_
 refine os_ mv_ ?_
 refine OD.wk (Wk.as_ (n := 11) (l' := [(4, _), (5, _)]) (S' := [⟨b2, 30, 1, [_]⟩]) rfl rfl ⟨lk, lk, trivial⟩) ?_
 refine OD.nil ?_
 refine CD.ret ?_
 refine ⟨.inr rfl, _, [], List.nil_sublist _, ret_two Tryz.results19 (res_tmp (Nat.le_of_ble_eq_true rfl) lk) (res_tmp (Nat.le_of_ble_eq_true rfl) lk), ?_⟩
 exact ⟨rfl, rfl⟩

set_option maxHeartbeats 4000000 in
set_option maxRecDepth 100000 in
theorem chk_vp (hm : (3, marksC) ∈ G) (hw : (0, wordsC) ∈ G) (ht : (1, typesC) ∈ G) (l : List ColL) (hl : l.length ≤ 1000) (hok : ∀ c ∈ l, c.n.size ≤ maxLen) (ops : List OpL) (ho : ∀ o ∈ ops, o.nm.size ≤ maxLen) : VP Tryz.prog G 18 [.list 2 (l.flatMap cC) l.length, .list 5 (ops.flatMap cO) ops.length] (.v (.int .i64 (if colsF l ≠ 0 then colsF l else exprF ops))) := by
 refine VC.body Tryz.func18 rfl Tryz.ntmps18 (Nat.le_of_ble_eq_true rfl) fun X0 w0 S00 => ?_
 have hmx : maxLen = 9223372036854775807 := rfl
 refine sr_ ?_
 refine os_ mv_ ?_
 refine nm_ [0, 1] ?_
 refine CD.seq ?_
 refine sr_ ?_
 refine os_ mv_ ?_
 refine OD.callP (wants_plain rfl) rfl rfl rfl Tryz.call20 (Cols_vp hm hw ht l (by omega) hok) ⟨ot, trivial⟩ ?_
 refine os_ mv_ ?_
 refine OD.wk (Wk.as_ (n := 13) (l' := [(1, _), (5, _)]) (S' := []) rfl rfl ⟨lk, lk, trivial⟩) ?_
 refine OD.nil ?_
 refine sr_ ?_
 refine os_ mv_ ?_
 refine os_ bn_ ?_
 refine nm_ [1, 5, 9] ?_
 refine CD.cond ot (fun hc0 => ?_) (fun hc0 => ?_)
 ·have hc0' := hc0
  (try simp only [V.cnd, ne_eq] at hc0')
  refine sr_ ?_
  refine os_ mv_ ?_
  refine os_ mv_ ?_
  refine nm_ [4] ?_
  refine CD.ret ?_
  refine r1_ ?_
  refine ⟨vi ?_, rfl⟩
  simp_all
 ·have hc0' := hc0
  (try simp only [V.cnd, ne_eq] at hc0')
  refine CD.skip ?_
  refine sr_ ?_
  refine os_ mv_ ?_
  refine OD.callP (wants_plain rfl) rfl rfl rfl Tryz.call31 (expr_vp hm hw ops ho) ⟨ot, trivial⟩ ?_
  refine os_ mv_ ?_
  refine OD.wk (Wk.as_ (n := 13) (l' := [(4, _)]) (S' := []) rfl rfl ⟨lk, trivial⟩) ?_
  refine OD.nil ?_
  refine CD.ret ?_
  refine ⟨.inr rfl, _, [], List.nil_sublist _, ret_one Tryz.results18 (res_tmp (Nat.le_of_ble_eq_true rfl) lk), ?_⟩
  refine ⟨vi ?_, rfl⟩
  simp_all

set_option maxHeartbeats 4000000 in
set_option maxRecDepth 100000 in
theorem kind_vp (hm : (3, marksC) ∈ G) (hw : (0, wordsC) ∈ G) (ht : (1, typesC) ∈ G) (l : List ColL) (hl : l.length ≤ 1000) (hok : ∀ c ∈ l, c.n.size ≤ maxLen) (ops : List OpL) (ho : ∀ o ∈ ops, o.nm.size ≤ maxLen) : VP Tryz.prog G 9 [.list 2 (l.flatMap cC) l.length, .list 5 (ops.flatMap cO) ops.length] (twoI (kindR l ops)) := by
 refine VC.body Tryz.func9 rfl Tryz.ntmps9 (Nat.le_of_ble_eq_true rfl) fun X0 w0 S00 => ?_
 have hcv := chk_vp hm hw ht l hl hok ops ho
 have hkv := fun hx => kindOf_vp (G := G) l hl ops hx
 unfold twoI at hkv ⊢
 refine sr_ ?_
 refine os_ mv_ ?_
 refine os_ mv_ ?_
 refine nm_ [0, 1] ?_
 refine CD.seq ?_
 refine sr_ ?_
 refine os_ mv_ ?_
 refine os_ mv_ ?_
 refine OD.callP (wants_plain rfl) rfl rfl rfl Tryz.call18 (hcv) ⟨ot, ot, trivial⟩ ?_
 refine os_ mv_ ?_
 refine OD.wk (Wk.as_ (n := 18) (l' := [(0, _), (1, _), (6, _)]) (S' := []) rfl rfl ⟨lk, lk, lk, trivial⟩) ?_
 refine OD.nil ?_
 refine sr_ ?_
 refine os_ mv_ ?_
 refine os_ bn_ ?_
 refine nm_ [0, 1, 6, 11] ?_
 refine CD.cond ot (fun hc0 => ?_) (fun hc0 => ?_)
 ·have hc0' := hc0
  (try simp only [V.cnd, ne_eq] at hc0')
  have hres : kindR l ops = (0, if colsF l ≠ 0 then colsF l else exprF ops) := by unfold kindR; split <;> simp_all
  refine sr_ ?_
  refine os_ mv_ ?_
  refine os_ mv_ ?_
  refine os_ mv_ ?_
  refine nm_ [4, 5] ?_
  refine CD.ret ?_
  refine r2_ ?_
  rw [hres]; exact ⟨rfl, rfl⟩
 ·have hc0' := hc0
  (try simp only [V.cnd, ne_eq] at hc0')
  have h0 : colsF l = 0 ∧ exprF ops = 0 := by split at hc0 <;> simp_all
  have hres : kindR l ops = kindF l ops := by unfold kindR; simp [h0]
  refine CD.skip ?_
  refine sr_ ?_
  refine os_ mv_ ?_
  refine os_ mv_ ?_
  refine OD.callP (wants_plain rfl) rfl rfl rfl Tryz.call19 (hkv h0.2) ⟨ot, ot, trivial⟩ ?_
  refine os_ ex_ ?_
  refine os_ ex_ ?_
  refine os_ mv_ ?_
  refine os_ mv_ ?_
  refine OD.wk (Wk.as_ (n := 18) (l' := [(4, _), (5, _)]) (S' := []) rfl rfl ⟨lk, lk, trivial⟩) ?_
  refine OD.nil ?_
  refine CD.ret ?_
  refine ⟨.inr rfl, _, [], List.nil_sublist _, ret_two Tryz.results9 (res_tmp (Nat.le_of_ble_eq_true rfl) lk) (res_tmp (Nat.le_of_ble_eq_true rfl) lk), ?_⟩
  rw [hres]; exact ⟨rfl, rfl⟩

end Go.Proofs.YtfooincnmobemaaGreatDoor.Ex
