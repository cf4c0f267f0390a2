/-
  What the proof of BoundsNone leans on, part 4 of 6: walks of the program's functions at the level of values, and plain facts of what they compute.
-/
import Derived.Test.YtfooincnmobemaaDoorPBoundsNone3
namespace Go.Proofs.YtfooincnmobemaaDoor.Ex
open Go.RowKit V Pk Vl Go.Proofs.YtfooincnmobemaaDoor.Nm Go.Proofs.YtfooincnmobemaaDoor.Pc
set_option linter.unusedVariables false
set_option linter.unusedSimpArgs false

theorem idxG_bd {α : Type} (p : α → Bool) (ls : List α) : -1 ≤ idxG p ls ∧ idxG p ls < ls.length := by
 unfold idxG
 cases h : ls.findIdx? p with
 | none => simp; omega
 | some i => have := (List.findIdx?_eq_some_iff_findIdx_eq.1 h).1; simp; omega
/-- A column's place. -/
def colAt (l : List ColL) (nm : ByteArray) : Int := idxG (fun c => c.n.toList == nm.toList) l
def isF (a b : Int) : Bool := a == b || a == 0
def okF (k a b : Int) : Bool :=
 if k = 3 ∨ k = 4 then isF a 1 && isF b 1 else if k = 5 then isF a 1 else if k = 6 ∨ k = 7 then isF a b || b == 0 else if k = 8 ∨ k = 9 ∨ k = 10 then isF a 2 && isF b 2 else true
def outF (k : Int) : Int := if k = 8 ∨ k = 9 ∨ k = 10 then 2 else 1
def kindAt (l : List ColL) (nm : ByteArray) : Int × Int := if colAt l nm < 0 then (0, 8) else ((l.getD (colAt l nm).toNat ⟨⟨#[]⟩, 0⟩).k, 0)
/-- The kind of what an op makes; what is wrong. -/
def madeF (l : List ColL) (o : OpL) (a b : Int) : Int × Int :=
  if o.k = 1 then (o.v.k, 0) else if o.k = 2 then kindAt l o.nm else if okF o.k a b = true then (outF o.k, 0) else (0, 4)
def argA {α : Type} (z : α) (k : Int) (st : List α) : α := if 0 < popsF k then st.getD (st.length - (popsF k).toNat) z else z
def argB {α : Type} (z : α) (k : Int) (st : List α) : α := if 1 < popsF k then st.getD (st.length - (popsF k).toNat + 1) z else z
/-- Ops, folded over a stack. -/
def foldG {α : Type} (z : α) (f : OpL → α → α → α × Int) : List OpL → List α → α × Int
  | [], st => (st.getD 0 z, 0)
  | o :: r, st =>
    if (f o (argA z o.k st) (argB z o.k st)).2 ≠ 0 then (z, (f o (argA z o.k st) (argB z o.k st)).2)
    else foldG z f r (st.take (st.length - (popsF o.k).toNat) ++ [(f o (argA z o.k st) (argB z o.k st)).1])
theorem fold_no {α : Type} {z : α} {f : OpL → α → α → α × Int} {l : List OpL} {i : Nat} {st : List α} (hi : i < l.length) (h : (f l[i] (argA z l[i].k st) (argB z l[i].k st)).2 ≠ 0) :
  foldG z f (l.drop i) st = (z, (f l[i] (argA z l[i].k st) (argB z l[i].k st)).2) := by rw [List.drop_eq_getElem_cons hi, foldG, if_pos h]
theorem fold_go {α : Type} {z : α} {f : OpL → α → α → α × Int} {l : List OpL} {i : Nat} {st : List α} (hi : i < l.length) (h : (f l[i] (argA z l[i].k st) (argB z l[i].k st)).2 = 0) :
  foldG z f (l.drop i) st = foldG z f (l.drop (i + 1)) (st.take (st.length - (popsF l[i].k).toNat) ++ [(f l[i] (argA z l[i].k st) (argB z l[i].k st)).1]) := by
 rw [List.drop_eq_getElem_cons hi, foldG, if_neg (by rw [h]; simp)]
theorem fold_end {α : Type} {z : α} {f : OpL → α → α → α × Int} {l : List OpL} {i : Nat} {st : List α} (hi : ¬ i < l.length) : foldG z f (l.drop i) st = (st.getD 0 z, 0) := by
 rw [List.drop_of_length_le (by omega)]; rfl
theorem expr_next {l : List OpL} {i : Nat} {h : Int} (hi : i < l.length) (h0 : exprL h (l.drop i) = 0) : opErr h l[i] = 0 ∧ exprL (h + (1 - popsF l[i].k)) (l.drop (i + 1)) = 0 := by
 rw [List.drop_eq_getElem_cons hi, exprL] at h0
 by_cases he : opErr h l[i] = 0
 ·rw [if_pos he] at h0; exact ⟨he, h0⟩
 ·rw [if_neg he] at h0; exact absurd h0 he
theorem expr_one {l : List OpL} {i : Nat} {h : Int} (hi : ¬ i < l.length) (h0 : exprL h (l.drop i) = 0) : h = 1 := by
 rw [List.drop_of_length_le (by omega), exprL] at h0
 split at h0
 ·assumption
 ·cases h0
theorem err_pops {h : Int} {o : OpL} (he : opErr h o = 0) : popsF o.k ≤ h ∧ (1 ≤ o.k ∧ o.k ≤ 11) ∧ litF o.v = 0 ∧ (o.k = 2 → nameF o.nm = 0) := by
 unfold opErr at he
 split at he
 ·cases he
 ·split at he
  ·rename_i h2; exact absurd he h2
  ·split at he
   ·cases he
   ·split at he
    ·rename_i h4; exact absurd he h4.2
    ·split at he
     ·cases he
     ·rename_i q1 q2 q3 q4 q5
      refine ⟨by omega, by omega, by simpa using q2, fun hk => ?_⟩
      by_cases hn : nameF o.nm = 0
      ·exact hn
      ·exact absurd ⟨hk, hn⟩ q4
def kindF (l : List ColL) (ops : List OpL) : Int × Int := foldG 0 (madeF l) ops []
/-- What expr.Kind answers. -/
def kindR (l : List ColL) (ops : List OpL) : Int × Int := if colsF l ≠ 0 then (0, colsF l) else if exprF ops ≠ 0 then (0, exprF ops) else kindF l ops
def twoI (r : Int × Int) : D := .tup [.v (.int .i64 r.1), .v (.int .i64 r.2)]
def cI (n : Int) : List D := [.v (.int .i64 n)]
theorem cI_len (n : Int) : (cI n).length = 1 := rfl
theorem cI_one (n : Int) : (cI n).all V.one = true := rfl
theorem expr_ok {ops : List OpL} (h : exprF ops = 0) : ops.length ≤ 40 ∧ exprL 0 ops = 0 := by
 unfold exprF at h
 split at h
 ·cases h
 ·exact ⟨by omega, h⟩
variable {G : List (Nat × List Value)}

set_option maxHeartbeats 4000000 in
set_option maxRecDepth 100000 in
theorem works_vp (k : Int) : VP Tryd.prog G 46 [.v (.int .i64 k)] (.v (.int .i64 (popsF k))) := by
 refine VC.body Tryd.func46 rfl Tryd.ntmps46 (Nat.le_of_ble_eq_true rfl) fun X0 w0 S00 => ?_
 refine CD.seq ?_
 refine CD.region ?_
 refine OD.still (wants_plain rfl) rfl (still_as rfl opd_const) ?_
 refine OD.wk (Wk.as_ (n := 10) (l' := [(0, _)]) (S' := []) rfl rfl ⟨lk, trivial⟩) ?_
 refine OD.nil ?_
 refine CD.seq ?_
 refine CD.seq ?_
 refine CD.region ?_
 refine OD.still (wants_plain rfl) rfl (still_mv rfl ot) ?_
 refine OD.wk (Wk.as_ (n := 10) (l' := [(3, _)]) (S' := []) rfl rfl ⟨lk, trivial⟩) ?_
 refine OD.nil ?_
 refine CD.block ?_
 refine CD.seq ?_
 refine CD.seq ?_
 refine CD.region ?_
 refine OD.still (wants_plain rfl) rfl (still_bin rfl ot opd_const bin_eql) ?_
 refine OD.still (wants_plain rfl) rfl (still_as rfl ot) ?_
 refine OD.wk (Wk.as_ (n := 10) (l' := [(3, _), (4, _)]) (S' := []) rfl rfl ⟨lk, lk, trivial⟩) ?_
 refine OD.nil ?_
 refine CD.cond ot (fun hc0 => ?_) (fun hc0 => ?_)
 ·have hc0' := hc0
  (try simp only [V.cnd, ne_eq] at hc0')
  refine CD.skip ?_
  refine CD.condT ot (by first | rfl | assumption) ?_
  refine CD.seq ?_
  refine CD.region ?_
  refine OD.still (wants_plain rfl) rfl (still_as rfl opd_const) ?_
  refine OD.wk (Wk.as_ (n := 10) (l' := [(2, _)]) (S' := []) rfl rfl ⟨lk, trivial⟩) ?_
  refine OD.nil ?_
  refine CD.ret ?_
  refine ⟨.inr rfl, _, [], List.nil_sublist _, ret_one Tryd.results46 (res_tmp (Nat.le_of_ble_eq_true rfl) lk), ?_⟩
  refine ⟨vi ?_, rfl⟩
  unfold popsF
  simp_all
 ·have hc0' := hc0
  (try simp only [V.cnd, ne_eq] at hc0')
  refine CD.region ?_
  refine OD.still (wants_plain rfl) rfl (still_bin rfl ot opd_const bin_eql) ?_
  refine OD.still (wants_plain rfl) rfl (still_as rfl ot) ?_
  refine OD.wk (Wk.as_ (n := 10) (l' := [(3, _), (4, _)]) (S' := []) rfl rfl ⟨lk, lk, trivial⟩) ?_
  refine OD.nil ?_
  refine CD.cond ot (fun hc1 => ?_) (fun hc1 => ?_)
  ·have hc1' := hc1
   (try simp only [V.cnd, ne_eq] at hc1')
   refine CD.seq ?_
   refine CD.region ?_
   refine OD.still (wants_plain rfl) rfl (still_as rfl opd_const) ?_
   refine OD.wk (Wk.as_ (n := 10) (l' := [(2, _)]) (S' := []) rfl rfl ⟨lk, trivial⟩) ?_
   refine OD.nil ?_
   refine CD.ret ?_
   refine ⟨.inr rfl, _, [], List.nil_sublist _, ret_one Tryd.results46 (res_tmp (Nat.le_of_ble_eq_true rfl) lk), ?_⟩
   refine ⟨vi ?_, rfl⟩
   unfold popsF
   simp_all
  ·have hc1' := hc1
   (try simp only [V.cnd, ne_eq] at hc1')
   refine CD.seq ?_
   refine CD.seq ?_
   refine CD.region ?_
   refine OD.still (wants_plain rfl) rfl (still_bin rfl ot opd_const bin_eql) ?_
   refine OD.still (wants_plain rfl) rfl (still_as rfl ot) ?_
   refine OD.wk (Wk.as_ (n := 10) (l' := [(3, _), (7, _)]) (S' := []) rfl rfl ⟨lk, lk, trivial⟩) ?_
   refine OD.nil ?_
   refine CD.cond ot (fun hc2 => ?_) (fun hc2 => ?_)
   ·have hc2' := hc2
    (try simp only [V.cnd, ne_eq] at hc2')
    refine CD.skip ?_
    refine CD.condT ot (by first | rfl | assumption) ?_
    refine CD.seq ?_
    refine CD.region ?_
    refine OD.still (wants_plain rfl) rfl (still_as rfl opd_const) ?_
    refine OD.wk (Wk.as_ (n := 10) (l' := [(2, _)]) (S' := []) rfl rfl ⟨lk, trivial⟩) ?_
    refine OD.nil ?_
    refine CD.ret ?_
    refine ⟨.inr rfl, _, [], List.nil_sublist _, ret_one Tryd.results46 (res_tmp (Nat.le_of_ble_eq_true rfl) lk), ?_⟩
    refine ⟨vi ?_, rfl⟩
    unfold popsF
    simp_all
   ·have hc2' := hc2
    (try simp only [V.cnd, ne_eq] at hc2')
    refine CD.region ?_
    refine OD.still (wants_plain rfl) rfl (still_bin rfl ot opd_const bin_eql) ?_
    refine OD.still (wants_plain rfl) rfl (still_as rfl ot) ?_
    refine OD.wk (Wk.as_ (n := 10) (l' := [(7, _)]) (S' := []) rfl rfl ⟨lk, trivial⟩) ?_
    refine OD.nil ?_
    refine CD.cond ot (fun hc3 => ?_) (fun hc3 => ?_)
    ·have hc3' := hc3
     (try simp only [V.cnd, ne_eq] at hc3')
     refine CD.seq ?_
     refine CD.region ?_
     refine OD.still (wants_plain rfl) rfl (still_as rfl opd_const) ?_
     refine OD.wk (Wk.as_ (n := 10) (l' := [(2, _)]) (S' := []) rfl rfl ⟨lk, trivial⟩) ?_
     refine OD.nil ?_
     refine CD.ret ?_
     refine ⟨.inr rfl, _, [], List.nil_sublist _, ret_one Tryd.results46 (res_tmp (Nat.le_of_ble_eq_true rfl) lk), ?_⟩
     refine ⟨vi ?_, rfl⟩
     unfold popsF
     simp_all
    ·have hc3' := hc3
     (try simp only [V.cnd, ne_eq] at hc3')
     refine CD.skip ?_
     refine CD.seq ?_
     refine CD.region ?_
     refine OD.still (wants_plain rfl) rfl (still_as rfl opd_const) ?_
     refine OD.wk (Wk.as_ (n := 10) (l' := [(2, _)]) (S' := []) rfl rfl ⟨lk, trivial⟩) ?_
     refine OD.nil ?_
     refine CD.ret ?_
     refine ⟨.inr rfl, _, [], List.nil_sublist _, ret_one Tryd.results46 (res_tmp (Nat.le_of_ble_eq_true rfl) lk), ?_⟩
     refine ⟨vi ?_, rfl⟩
     unfold popsF
     simp_all

set_option maxHeartbeats 4000000 in
set_option maxRecDepth 100000 in
theorem findcl_vc (c : ColL) (nm : ByteArray) (b : Nat) : VC Tryd.prog G 64 [.agg (cC c), .v (.pointer (some ⟨b, 0, none⟩))] [⟨b, 9, 1, [.v (.string nm)]⟩] (fun r S => r = .v (.bool (c.n.toList == nm.toList)) ∧ S = [⟨b, 9, 1, [.v (.string nm)]⟩]) := by
 refine VC.body Tryd.func64 rfl Tryd.ntmps64 (Nat.le_of_ble_eq_true rfl) fun X0 w0 S00 => ?_
 unfold cC
 refine CD.seq ?_
 refine CD.region ?_
 refine OD.box (ds := [_, _]) (wants_plain rfl) rfl rfl ot rfl rfl (fun b2 => ?_)
 refine OD.still (wants_plain rfl) rfl (still_as rfl opd_const) ?_
 refine OD.wk (Wk.as_ (n := 8) (l' := [(1, _), (2, _)]) (S' := [⟨b2, 58, 2, [_, _]⟩, ⟨_, _, _, [_]⟩]) rfl rfl ⟨lk, lk, trivial⟩) ?_
 refine OD.nil ?_
 refine CD.seq ?_
 refine CD.region ?_
 refine OD.still (wants_plain rfl) rfl (still_r1 (mk := fun y => Op.fieldAddr 58 y 0) rfl ot (by first | exact fa_ptr (off := 0) Tryd.runUnderlying58 rfl Tryd.sizeOf9 rfl | exact fa_iptr (off := 0) Tryd.runUnderlying58 rfl Tryd.sizeOf9 rfl)) ?_
 refine OD.still (wants_plain rfl) rfl (still_r1 (mk := Op.load 9) rfl ot (by first | exact ld_blk (k := 0) rfl rfl Tryd.isAgg9 rfl | exact ld_i Tryd.isAgg9 rfl)) ?_
 refine OD.still (wants_plain rfl) rfl (still_r1 (mk := Op.load 9) rfl ot (by first | exact ld_blk (k := 1) rfl rfl Tryd.isAgg9 rfl | exact ld_i Tryd.isAgg9 rfl)) ?_
 refine OD.still (wants_plain rfl) rfl (still_bin rfl ot ot bin_seql) ?_
 refine OD.still (wants_plain rfl) rfl (still_as rfl ot) ?_
 refine OD.wk (Wk.as_ (n := 8) (l' := [(3, _)]) (S' := [⟨b2, 58, 2, [_, _]⟩, ⟨_, _, _, [_]⟩]) rfl rfl ⟨lk, trivial⟩) ?_
 refine OD.nil ?_
 refine CD.ret ?_
 refine ⟨.inr rfl, _, [⟨b, 9, 1, [.v (.string nm)]⟩], (by repeat (first | exact List.Sublist.refl _ | apply List.Sublist.cons)), ret_one Tryd.results64 (res_tmp (Nat.le_of_ble_eq_true rfl) lk), ?_⟩
 exact ⟨rfl, rfl⟩

set_option maxHeartbeats 4000000 in
set_option maxRecDepth 100000 in
theorem find_vp (l : List ColL) (hl : l.length ≤ 1000) (nm : ByteArray) : VP Tryd.prog G 47 [.list 2 (l.flatMap cC) l.length, .v (.string nm)] (.v (.int .i64 (colAt l nm))) := by
 refine VC.body Tryd.func47 rfl Tryd.ntmps47 (Nat.le_of_ble_eq_true rfl) fun X0 w0 S00 => ?_
 refine CD.seq ?_
 refine CD.region ?_
 refine OD.box (ds := [_]) (wants_plain rfl) rfl rfl ot rfl rfl (fun b3 => ?_)
 refine OD.still (wants_plain rfl) rfl (still_as rfl opd_const) ?_
 refine OD.wk (Wk.as_ (n := 8) (l' := [(0, _), (3, _)]) (S' := [⟨b3, 9, 1, [_]⟩]) rfl rfl ⟨lk, lk, trivial⟩) ?_
 refine OD.nil ?_
 refine CD.seq ?_
 refine CD.region ?_
 refine OD.still (wants_plain rfl) rfl (still_mv rfl ot) ?_
 refine OD.still (wants_plain rfl) rfl (still_fn (ds := [_]) rfl ⟨ot, trivial⟩) ?_
 refine OD.call (wants_plain rfl) rfl rfl rfl Tryd.call63 (index_vc l 64 [.v (.pointer (some ⟨b3, 0, none⟩))] _ (fun c => c.n.toList == nm.toList) Tryd.call64 (fun h _ => findcl_vc h nm b3) (by omega)) ⟨ot, ot, trivial⟩ (perm_one (k := 0) rfl) ?_; rintro _ S2 ⟨rfl, hS2⟩; rw [hS2]; clear hS2
 refine OD.still (wants_plain rfl) rfl (still_as rfl ot) ?_
 refine OD.wk (Wk.as_ (n := 8) (l' := [(4, _)]) (S' := [⟨b3, 9, 1, [_]⟩]) rfl rfl ⟨lk, trivial⟩) ?_
 refine OD.nil ?_
 refine CD.ret ?_
 refine ⟨.inr rfl, _, [], List.nil_sublist _, ret_one Tryd.results47 (res_tmp (Nat.le_of_ble_eq_true rfl) lk), ?_⟩
 exact ⟨rfl, rfl⟩

set_option maxHeartbeats 4000000 in
set_option maxRecDepth 100000 in
theorem is_vp (a b : Int) : VP Tryd.prog G 62 [.v (.int .i64 a), .v (.int .i64 b)] (.v (.bool (isF a b))) := by
 refine VC.body Tryd.func62 rfl Tryd.ntmps62 (Nat.le_of_ble_eq_true rfl) fun X0 w0 S00 => ?_
 refine CD.seq ?_
 refine CD.region ?_
 refine OD.still (wants_plain rfl) rfl (still_as rfl opd_const) ?_
 refine OD.wk (Wk.as_ (n := 12) (l' := [(0, _), (1, _)]) (S' := []) rfl rfl ⟨lk, lk, trivial⟩) ?_
 refine OD.nil ?_
 refine CD.seq ?_
 refine CD.region ?_
 refine OD.still (wants_plain rfl) rfl (still_mv rfl ot) ?_
 refine OD.still (wants_plain rfl) rfl (still_mv rfl ot) ?_
 refine OD.still (wants_plain rfl) rfl (still_bin rfl ot ot bin_eql) ?_
 refine OD.still (wants_plain rfl) rfl (still_mv rfl ot) ?_
 refine OD.split (t := 8) lk (fun hg8 => ?_) (fun hg8 => ?_)
 ·have hg8' := hg8; (try simp only [V.cnd, ne_eq] at hg8')
  refine OD.skip (wants_F rfl rfl rfl lk (by first | rfl | assumption)) rfl ?_
  refine OD.skip (wants_F rfl rfl rfl lk (by first | rfl | assumption)) rfl ?_
  refine OD.still (wants_plain rfl) rfl (still_pickT rfl ot (by first | rfl | assumption) opd_const) ?_
  refine OD.still (wants_plain rfl) rfl (still_as rfl ot) ?_
  refine OD.wk (Wk.as_ (n := 12) (l' := [(4, _)]) (S' := []) rfl rfl ⟨lk, trivial⟩) ?_
  refine OD.nil ?_
  refine CD.ret ?_
  refine ⟨.inr rfl, _, [], List.nil_sublist _, ret_one Tryd.results62 (res_tmp (Nat.le_of_ble_eq_true rfl) lk), ?_⟩
  refine ⟨vb ?_, rfl⟩
  unfold isF
  simp_all
 ·have hg8' := hg8; (try simp only [V.cnd, ne_eq] at hg8')
  refine OD.still (wants_T rfl rfl rfl lk (by first | rfl | assumption)) rfl (still_mv rfl ot) ?_
  refine OD.still (wants_T rfl rfl rfl lk (by first | rfl | assumption)) rfl (still_bin rfl ot opd_const bin_eql) ?_
  refine OD.still (wants_plain rfl) rfl (still_pickF rfl ot (by first | rfl | assumption) ot) ?_
  refine OD.still (wants_plain rfl) rfl (still_as rfl ot) ?_
  refine OD.wk (Wk.as_ (n := 12) (l' := [(4, _)]) (S' := []) rfl rfl ⟨lk, trivial⟩) ?_
  refine OD.nil ?_
  refine CD.ret ?_
  refine ⟨.inr rfl, _, [], List.nil_sublist _, ret_one Tryd.results62 (res_tmp (Nat.le_of_ble_eq_true rfl) lk), ?_⟩
  refine ⟨vb ?_, rfl⟩
  unfold isF
  simp_all

set_option maxHeartbeats 4000000 in
set_option maxRecDepth 100000 in
theorem made_vp (l : List ColL) (hl : l.length ≤ 1000) (o : OpL) (a b : Int) : VP Tryd.prog G 43 [.agg (cO o), .list 2 (l.flatMap cC) l.length, .v (.int .i64 a), .v (.int .i64 b)] (twoI (madeF l o a b)) := by
 refine VC.body Tryd.func43 rfl Tryd.ntmps43 (Nat.le_of_ble_eq_true rfl) fun X0 w0 S00 => ?_
 unfold cO twoI
 have hbd := idxG_bd (fun c : ColL => c.n.toList == o.nm.toList) l
 have hcd : colAt l o.nm = idxG (fun c : ColL => c.n.toList == o.nm.toList) l := rfl
 rw [← hcd] at hbd
 clear hcd
 refine CD.seq ?_
 refine CD.region ?_
 refine OD.box (ds := [_, _, _, _, _]) (wants_plain rfl) rfl rfl ot rfl rfl (fun b4 => ?_)
 refine OD.still (wants_plain rfl) rfl (still_as rfl opd_const) ?_
 refine OD.still (wants_plain rfl) rfl (still_as rfl opd_const) ?_
 refine OD.wk (Wk.as_ (n := 76) (l' := [(1, _), (2, _), (3, _), (4, _)]) (S' := [⟨b4, 40, 5, [_, _, _, _, _]⟩]) rfl rfl ⟨lk, lk, lk, lk, trivial⟩) ?_
 refine OD.nil ?_
 refine CD.seq ?_
 refine CD.region ?_
 refine OD.still (wants_plain rfl) rfl (still_as rfl opd_func) ?_
 refine OD.wk (Wk.as_ (n := 76) (l' := [(1, _), (2, _), (3, _), (4, _), (10, _)]) (S' := [⟨b4, 40, 5, [_, _, _, _, _]⟩]) rfl rfl ⟨lk, lk, lk, lk, lk, trivial⟩) ?_
 refine OD.nil ?_
 refine CD.seq ?_
 refine CD.region ?_
 refine OD.still (wants_plain rfl) rfl (still_as rfl opd_const) ?_
 refine OD.still (wants_plain rfl) rfl (still_as rfl opd_const) ?_
 refine OD.wk (Wk.as_ (n := 76) (l' := [(1, _), (2, _), (3, _), (4, _), (10, _), (11, _), (12, _)]) (S' := [⟨b4, 40, 5, [_, _, _, _, _]⟩]) rfl rfl ⟨lk, lk, lk, lk, lk, lk, lk, trivial⟩) ?_
 refine OD.nil ?_
 refine CD.seq ?_
 refine CD.seq ?_
 refine CD.region ?_
 refine OD.still (wants_plain rfl) rfl (still_r1 (mk := fun y => Op.fieldAddr 40 y 0) rfl ot (by first | exact fa_ptr (off := 0) Tryd.runUnderlying40 rfl Tryd.sizeOf3 rfl | exact fa_iptr (off := 0) Tryd.runUnderlying40 rfl Tryd.sizeOf3 rfl)) ?_
 refine OD.still (wants_plain rfl) rfl (still_r1 (mk := Op.load 3) rfl ot (by first | exact ld_blk (k := 0) rfl rfl Tryd.isAgg3 rfl | exact ld_fm cC_len Tryd.isAgg3 (by first | assumption | omega) rfl | exact ld_fm0 cC_len Tryd.isAgg3 (by first | assumption | omega) rfl | exact ld_row (k := 0) cC_len rfl rfl rfl Tryd.isAgg3 (by first | assumption | omega) rfl | exact ld_row0 (k := 0) cC_len rfl rfl rfl Tryd.isAgg3 (by first | assumption | omega) rfl | exact ld_i Tryd.isAgg3 rfl)) ?_
 refine OD.wk (Wk.as_ (n := 76) (l' := [(1, _), (2, _), (3, _), (4, _), (10, _), (11, _), (12, _), (15, _)]) (S' := [⟨b4, 40, 5, [_, _, _, _, _]⟩]) rfl rfl ⟨lk, lk, lk, lk, lk, lk, lk, lk, trivial⟩) ?_
 refine OD.nil ?_
 refine CD.block ?_
 refine CD.seq ?_
 refine CD.region ?_
 refine OD.still (wants_plain rfl) rfl (still_bin rfl ot opd_const bin_eql) ?_
 refine OD.still (wants_plain rfl) rfl (still_as rfl ot) ?_
 refine OD.wk (Wk.as_ (n := 76) (l' := [(1, _), (2, _), (3, _), (4, _), (10, _), (11, _), (12, _), (15, _), (16, _)]) (S' := [⟨b4, 40, 5, [_, _, _, _, _]⟩]) rfl rfl ⟨lk, lk, lk, lk, lk, lk, lk, lk, lk, trivial⟩) ?_
 refine OD.nil ?_
 refine CD.cond ot (fun hc0 => ?_) (fun hc0 => ?_)
 ·have hc0' := hc0
  (try simp only [V.cnd, ne_eq] at hc0')
  refine CD.seq ?_
  refine CD.region ?_
  refine OD.still (wants_plain rfl) rfl (still_r1 (mk := fun y => Op.fieldAddr 40 y 1) rfl ot (by first | exact fa_ptr (off := 1) Tryd.runUnderlying40 rfl Tryd.sizeOf33 rfl | exact fa_iptr (off := 1) Tryd.runUnderlying40 rfl Tryd.sizeOf33 rfl)) ?_
  refine OD.still (wants_plain rfl) rfl (still_r1 (mk := fun y => Op.fieldAddr 33 y 0) rfl ot (by first | exact fa_ptr (off := 0) Tryd.runUnderlying33 rfl Tryd.sizeOf3 rfl | exact fa_iptr (off := 0) Tryd.runUnderlying33 rfl Tryd.sizeOf3 rfl)) ?_
  refine OD.still (wants_plain rfl) rfl (still_r1 (mk := Op.load 3) rfl ot (by first | exact ld_blk (k := 0) rfl rfl Tryd.isAgg3 rfl | exact ld_fm cC_len Tryd.isAgg3 (by first | assumption | omega) rfl | exact ld_fm0 cC_len Tryd.isAgg3 (by first | assumption | omega) rfl | exact ld_row (k := 0) cC_len rfl rfl rfl Tryd.isAgg3 (by first | assumption | omega) rfl | exact ld_row0 (k := 0) cC_len rfl rfl rfl Tryd.isAgg3 (by first | assumption | omega) rfl | exact ld_i Tryd.isAgg3 rfl)) ?_
  refine OD.still (wants_plain rfl) rfl (still_as rfl ot) ?_
  refine OD.still (wants_plain rfl) rfl (still_as rfl opd_const) ?_
  refine OD.wk (Wk.as_ (n := 76) (l' := [(8, _), (9, _)]) (S' := [⟨b4, 40, 5, [_, _, _, _, _]⟩]) rfl rfl ⟨lk, lk, trivial⟩) ?_
  refine OD.nil ?_
  refine CD.ret ?_
  refine ⟨.inr rfl, _, [], List.nil_sublist _, ret_two Tryd.results43 (res_tmp (Nat.le_of_ble_eq_true rfl) lk) (res_tmp (Nat.le_of_ble_eq_true rfl) lk), ?_⟩
  refine ⟨?_, rfl⟩
  unfold madeF okF outF
  simp_all
 ·have hc0' := hc0
  (try simp only [V.cnd, ne_eq] at hc0')
  refine CD.seq ?_
  refine CD.region ?_
  refine OD.still (wants_plain rfl) rfl (still_bin rfl ot opd_const bin_eql) ?_
  refine OD.still (wants_plain rfl) rfl (still_as rfl ot) ?_
  refine OD.wk (Wk.as_ (n := 76) (l' := [(1, _), (2, _), (3, _), (4, _), (10, _), (11, _), (12, _), (15, _), (21, _)]) (S' := [⟨b4, 40, 5, [_, _, _, _, _]⟩]) rfl rfl ⟨lk, lk, lk, lk, lk, lk, lk, lk, lk, trivial⟩) ?_
  refine OD.nil ?_
  refine CD.cond ot (fun hc1 => ?_) (fun hc1 => ?_)
  ·have hc1' := hc1
   (try simp only [V.cnd, ne_eq] at hc1')
   refine CD.seq ?_
   refine CD.region ?_
   refine OD.still (wants_plain rfl) rfl (still_mv rfl ot) ?_
   refine OD.still (wants_plain rfl) rfl (still_r1 (mk := fun y => Op.fieldAddr 40 y 2) rfl ot (by first | exact fa_ptr (off := 4) Tryd.runUnderlying40 rfl Tryd.sizeOf9 rfl | exact fa_iptr (off := 4) Tryd.runUnderlying40 rfl Tryd.sizeOf9 rfl)) ?_
   refine OD.still (wants_plain rfl) rfl (still_r1 (mk := Op.load 9) rfl ot (by first | exact ld_blk (k := 0) rfl rfl Tryd.isAgg9 rfl | exact ld_fm cC_len Tryd.isAgg9 (by first | assumption | omega) rfl | exact ld_fm0 cC_len Tryd.isAgg9 (by first | assumption | omega) rfl | exact ld_row (k := 0) cC_len rfl rfl rfl Tryd.isAgg9 (by first | assumption | omega) rfl | exact ld_row0 (k := 0) cC_len rfl rfl rfl Tryd.isAgg9 (by first | assumption | omega) rfl | exact ld_i Tryd.isAgg9 rfl)) ?_
   refine OD.callP (wants_plain rfl) rfl rfl rfl Tryd.call47 (find_vp l hl o.nm) ⟨ot, ot, trivial⟩ ?_
   refine OD.still (wants_plain rfl) rfl (still_as rfl ot) ?_
   refine OD.wk (Wk.as_ (n := 76) (l' := [(1, _), (13, _)]) (S' := [⟨b4, 40, 5, [_, _, _, _, _]⟩]) rfl rfl ⟨lk, lk, trivial⟩) ?_
   refine OD.nil ?_
   refine CD.seq ?_
   refine CD.seq ?_
   refine CD.region ?_
   refine OD.still (wants_plain rfl) rfl (still_mv rfl ot) ?_
   refine OD.still (wants_plain rfl) rfl (still_bin rfl ot opd_const bin_lss) ?_
   refine OD.wk (Wk.as_ (n := 76) (l' := [(1, _), (13, _), (28, _)]) (S' := [⟨b4, 40, 5, [_, _, _, _, _]⟩]) rfl rfl ⟨lk, lk, lk, trivial⟩) ?_
   refine OD.nil ?_
   refine CD.cond ot (fun hc2 => ?_) (fun hc2 => ?_)
   ·have hc2' := hc2
    (try simp only [V.cnd, ne_eq] at hc2')
    have hka : kindAt l o.nm = (0, 8) := by unfold kindAt; rw [if_pos (by omega)]
    refine CD.seq ?_
    refine CD.region ?_
    refine OD.still (wants_plain rfl) rfl (still_as rfl opd_const) ?_
    refine OD.still (wants_plain rfl) rfl (still_as rfl opd_const) ?_
    refine OD.wk (Wk.as_ (n := 76) (l' := [(8, _), (9, _)]) (S' := [⟨b4, 40, 5, [_, _, _, _, _]⟩]) rfl rfl ⟨lk, lk, trivial⟩) ?_
    refine OD.nil ?_
    refine CD.ret ?_
    refine ⟨.inr rfl, _, [], List.nil_sublist _, ret_two Tryd.results43 (res_tmp (Nat.le_of_ble_eq_true rfl) lk) (res_tmp (Nat.le_of_ble_eq_true rfl) lk), ?_⟩
    refine ⟨?_, rfl⟩
    unfold madeF okF outF
    simp_all
   ·have hc2' := hc2
    (try simp only [V.cnd, ne_eq] at hc2')
    have hci : (colAt l o.nm).toNat < l.length := by omega
    have hka : kindAt l o.nm = (l[(colAt l o.nm).toNat].k, 0) := by unfold kindAt; rw [if_neg (by omega), List.getD_eq_getElem?_getD, List.getElem?_eq_getElem hci]; rfl
    refine CD.skip ?_
    refine CD.seq ?_
    refine CD.region ?_
    refine OD.still (wants_plain rfl) rfl (still_mv rfl ot) ?_
    refine OD.still (wants_plain rfl) rfl (still_mv rfl ot) ?_
    refine OD.still (wants_plain rfl) rfl (still_r2 (mk := Op.indexAddr 30) rfl ot ot (by first | exact ix_list Tryd.runUnderlying30 Tryd.sizeOf58 rfl (by first | assumption | omega) | exact ix_list (j := Int.toNat _) Tryd.runUnderlying30 Tryd.sizeOf58 (Int.toNat_of_nonneg (by omega)).symm (by omega) | exact ix_row Tryd.runUnderlying30 Tryd.sizeOf58 rfl (by first | assumption | omega) | exact ix_row (j := Int.toNat _) Tryd.runUnderlying30 Tryd.sizeOf58 (Int.toNat_of_nonneg (by omega)).symm (by omega))) ?_
    refine OD.still (wants_plain rfl) rfl (still_r1 (mk := fun y => Op.fieldAddr 58 y 1) rfl ot (by first | exact fa_ptr (off := 1) Tryd.runUnderlying58 rfl Tryd.sizeOf3 rfl | exact fa_iptr (off := 1) Tryd.runUnderlying58 rfl Tryd.sizeOf3 rfl)) ?_
    refine OD.still (wants_plain rfl) rfl (still_r1 (mk := Op.load 3) rfl ot (by first | exact ld_blk (k := 0) rfl rfl Tryd.isAgg3 rfl | exact ld_fm cC_len Tryd.isAgg3 (by first | assumption | omega) rfl | exact ld_fm0 cC_len Tryd.isAgg3 (by first | assumption | omega) rfl | exact ld_row (k := 0) cC_len rfl rfl rfl Tryd.isAgg3 (by first | assumption | omega) rfl | exact ld_row0 (k := 0) cC_len rfl rfl rfl Tryd.isAgg3 (by first | assumption | omega) rfl | exact ld_i Tryd.isAgg3 rfl)) ?_
    refine OD.still (wants_plain rfl) rfl (still_as rfl ot) ?_
    refine OD.still (wants_plain rfl) rfl (still_as rfl opd_const) ?_
    refine OD.wk (Wk.as_ (n := 76) (l' := [(8, _), (9, _)]) (S' := [⟨b4, 40, 5, [_, _, _, _, _]⟩]) rfl rfl ⟨lk, lk, trivial⟩) ?_
    refine OD.nil ?_
    refine CD.ret ?_
    refine ⟨.inr rfl, _, [], List.nil_sublist _, ret_two Tryd.results43 (res_tmp (Nat.le_of_ble_eq_true rfl) lk) (res_tmp (Nat.le_of_ble_eq_true rfl) lk), ?_⟩
    refine ⟨?_, rfl⟩
    unfold madeF okF outF
    simp_all
  ·have hc1' := hc1
   (try simp only [V.cnd, ne_eq] at hc1')
   refine CD.seq ?_
   refine CD.seq ?_
   refine CD.region ?_
   refine OD.still (wants_plain rfl) rfl (still_bin rfl ot opd_const bin_eql) ?_
   refine OD.still (wants_plain rfl) rfl (still_as rfl ot) ?_
   refine OD.wk (Wk.as_ (n := 76) (l' := [(2, _), (3, _), (10, _), (11, _), (12, _), (15, _), (34, _)]) (S' := [⟨b4, 40, 5, [_, _, _, _, _]⟩]) rfl rfl ⟨lk, lk, lk, lk, lk, lk, lk, trivial⟩) ?_
   refine OD.nil ?_
   refine CD.cond ot (fun hc3 => ?_) (fun hc3 => ?_)
   ·have hc3' := hc3
    (try simp only [V.cnd, ne_eq] at hc3')
    refine CD.skip ?_
    refine CD.condT ot (by first | rfl | assumption) ?_
    refine CD.region ?_
    refine OD.still (wants_plain rfl) rfl (still_mv rfl ot) ?_
    refine OD.still (wants_plain rfl) rfl (still_mv rfl ot) ?_
    refine OD.callv (f := 62) (args := [_, _]) (all := [_, _]) (Sf := []) (wants_plain rfl) rfl rfl ot Tryd.call62 (is_vp a 1) rfl ⟨ot, opd_const, trivial⟩ (perm_none _) ?_; rintro _ _ ⟨rfl, rfl⟩
    refine OD.still (wants_plain rfl) rfl (still_mv rfl ot) ?_
    refine OD.split (t := 40) lk (fun hg40 => ?_) (fun hg40 => ?_)
    ·have hg40' := hg40; (try simp only [V.cnd, ne_eq] at hg40')
     refine OD.still (wants_T rfl rfl rfl lk (by first | rfl | assumption)) rfl (still_mv rfl ot) ?_
     refine OD.still (wants_T rfl rfl rfl lk (by first | rfl | assumption)) rfl (still_mv rfl ot) ?_
     refine OD.callv (f := 62) (args := [_, _]) (all := [_, _]) (Sf := []) (wants_T rfl rfl rfl lk (by first | rfl | assumption)) rfl rfl ot Tryd.call62 (is_vp b 1) rfl ⟨ot, opd_const, trivial⟩ (perm_none _) ?_; rintro _ _ ⟨rfl, rfl⟩
     refine OD.still (wants_plain rfl) rfl (still_pickT rfl ot (by first | rfl | assumption) ot) ?_
     refine OD.still (wants_plain rfl) rfl (still_as rfl ot) ?_
     refine OD.wk (Wk.as_ (n := 76) (l' := [(11, _), (12, _)]) (S' := [⟨b4, 40, 5, [_, _, _, _, _]⟩]) rfl rfl ⟨lk, lk, trivial⟩) ?_
     refine OD.nil ?_
     refine CD.seq ?_
     refine CD.seq ?_
     refine CD.region ?_
     refine OD.still (wants_plain rfl) rfl (still_mv rfl ot) ?_
     refine OD.still (wants_plain rfl) rfl (still_un rfl ot un_not) ?_
     refine OD.wk (Wk.as_ (n := 76) (l' := [(12, _), (74, _)]) (S' := [⟨b4, 40, 5, [_, _, _, _, _]⟩]) rfl rfl ⟨lk, lk, trivial⟩) ?_
     refine OD.nil ?_
     refine CD.cond ot (fun hc11 => ?_) (fun hc11 => ?_)
     ·have hc11' := hc11
      (try simp only [V.cnd, ne_eq] at hc11')
      refine CD.seq ?_
      refine CD.region ?_
      refine OD.still (wants_plain rfl) rfl (still_as rfl opd_const) ?_
      refine OD.still (wants_plain rfl) rfl (still_as rfl opd_const) ?_
      refine OD.wk (Wk.as_ (n := 76) (l' := [(8, _), (9, _)]) (S' := [⟨b4, 40, 5, [_, _, _, _, _]⟩]) rfl rfl ⟨lk, lk, trivial⟩) ?_
      refine OD.nil ?_
      refine CD.ret ?_
      refine ⟨.inr rfl, _, [], List.nil_sublist _, ret_two Tryd.results43 (res_tmp (Nat.le_of_ble_eq_true rfl) lk) (res_tmp (Nat.le_of_ble_eq_true rfl) lk), ?_⟩
      refine ⟨?_, rfl⟩
      unfold madeF okF outF
      simp_all
     ·have hc11' := hc11
      (try simp only [V.cnd, ne_eq] at hc11')
      refine CD.skip ?_
      refine CD.seq ?_
      refine CD.region ?_
      refine OD.still (wants_plain rfl) rfl (still_mv rfl ot) ?_
      refine OD.still (wants_plain rfl) rfl (still_as rfl ot) ?_
      refine OD.still (wants_plain rfl) rfl (still_as rfl opd_const) ?_
      refine OD.wk (Wk.as_ (n := 76) (l' := [(8, _), (9, _)]) (S' := [⟨b4, 40, 5, [_, _, _, _, _]⟩]) rfl rfl ⟨lk, lk, trivial⟩) ?_
      refine OD.nil ?_
      refine CD.ret ?_
      refine ⟨.inr rfl, _, [], List.nil_sublist _, ret_two Tryd.results43 (res_tmp (Nat.le_of_ble_eq_true rfl) lk) (res_tmp (Nat.le_of_ble_eq_true rfl) lk), ?_⟩
      refine ⟨?_, rfl⟩
      unfold madeF okF outF
      simp_all
    ·have hg40' := hg40; (try simp only [V.cnd, ne_eq] at hg40')
     refine OD.skip (wants_F rfl rfl rfl lk (by first | rfl | assumption)) rfl ?_
     refine OD.skip (wants_F rfl rfl rfl lk (by first | rfl | assumption)) rfl ?_
     refine OD.skip (wants_F rfl rfl rfl lk (by first | rfl | assumption)) rfl ?_
     refine OD.still (wants_plain rfl) rfl (still_pickF rfl ot (by first | rfl | assumption) opd_const) ?_
     refine OD.still (wants_plain rfl) rfl (still_as rfl ot) ?_
     refine OD.wk (Wk.as_ (n := 76) (l' := [(11, _), (12, _)]) (S' := [⟨b4, 40, 5, [_, _, _, _, _]⟩]) rfl rfl ⟨lk, lk, trivial⟩) ?_
     refine OD.nil ?_
     refine CD.seq ?_
     refine CD.seq ?_
     refine CD.region ?_
     refine OD.still (wants_plain rfl) rfl (still_mv rfl ot) ?_
     refine OD.still (wants_plain rfl) rfl (still_un rfl ot un_not) ?_
     refine OD.wk (Wk.as_ (n := 76) (l' := [(12, _), (74, _)]) (S' := [⟨b4, 40, 5, [_, _, _, _, _]⟩]) rfl rfl ⟨lk, lk, trivial⟩) ?_
     refine OD.nil ?_
     refine CD.condT ot (by first | rfl | assumption) ?_
     refine CD.seq ?_
     refine CD.region ?_
     refine OD.still (wants_plain rfl) rfl (still_as rfl opd_const) ?_
     refine OD.still (wants_plain rfl) rfl (still_as rfl opd_const) ?_
     refine OD.wk (Wk.as_ (n := 76) (l' := [(8, _), (9, _)]) (S' := [⟨b4, 40, 5, [_, _, _, _, _]⟩]) rfl rfl ⟨lk, lk, trivial⟩) ?_
     refine OD.nil ?_
     refine CD.ret ?_
     refine ⟨.inr rfl, _, [], List.nil_sublist _, ret_two Tryd.results43 (res_tmp (Nat.le_of_ble_eq_true rfl) lk) (res_tmp (Nat.le_of_ble_eq_true rfl) lk), ?_⟩
     refine ⟨?_, rfl⟩
     unfold madeF okF outF
     simp_all
   ·have hc3' := hc3
    (try simp only [V.cnd, ne_eq] at hc3')
    refine CD.region ?_
    refine OD.still (wants_plain rfl) rfl (still_bin rfl ot opd_const bin_eql) ?_
    refine OD.still (wants_plain rfl) rfl (still_as rfl ot) ?_
    refine OD.wk (Wk.as_ (n := 76) (l' := [(2, _), (3, _), (10, _), (11, _), (12, _), (15, _), (34, _)]) (S' := [⟨b4, 40, 5, [_, _, _, _, _]⟩]) rfl rfl ⟨lk, lk, lk, lk, lk, lk, lk, trivial⟩) ?_
    refine OD.nil ?_
    refine CD.cond ot (fun hc4 => ?_) (fun hc4 => ?_)
    ·have hc4' := hc4
     (try simp only [V.cnd, ne_eq] at hc4')
     refine CD.region ?_
     refine OD.still (wants_plain rfl) rfl (still_mv rfl ot) ?_
     refine OD.still (wants_plain rfl) rfl (still_mv rfl ot) ?_
     refine OD.callv (f := 62) (args := [_, _]) (all := [_, _]) (Sf := []) (wants_plain rfl) rfl rfl ot Tryd.call62 (is_vp a 1) rfl ⟨ot, opd_const, trivial⟩ (perm_none _) ?_; rintro _ _ ⟨rfl, rfl⟩
     refine OD.still (wants_plain rfl) rfl (still_mv rfl ot) ?_
     refine OD.split (t := 40) lk (fun hg40 => ?_) (fun hg40 => ?_)
     ·have hg40' := hg40; (try simp only [V.cnd, ne_eq] at hg40')
      refine OD.still (wants_T rfl rfl rfl lk (by first | rfl | assumption)) rfl (still_mv rfl ot) ?_
      refine OD.still (wants_T rfl rfl rfl lk (by first | rfl | assumption)) rfl (still_mv rfl ot) ?_
      refine OD.callv (f := 62) (args := [_, _]) (all := [_, _]) (Sf := []) (wants_T rfl rfl rfl lk (by first | rfl | assumption)) rfl rfl ot Tryd.call62 (is_vp b 1) rfl ⟨ot, opd_const, trivial⟩ (perm_none _) ?_; rintro _ _ ⟨rfl, rfl⟩
      refine OD.still (wants_plain rfl) rfl (still_pickT rfl ot (by first | rfl | assumption) ot) ?_
      refine OD.still (wants_plain rfl) rfl (still_as rfl ot) ?_
      refine OD.wk (Wk.as_ (n := 76) (l' := [(11, _), (12, _)]) (S' := [⟨b4, 40, 5, [_, _, _, _, _]⟩]) rfl rfl ⟨lk, lk, trivial⟩) ?_
      refine OD.nil ?_
      refine CD.seq ?_
      refine CD.seq ?_
      refine CD.region ?_
      refine OD.still (wants_plain rfl) rfl (still_mv rfl ot) ?_
      refine OD.still (wants_plain rfl) rfl (still_un rfl ot un_not) ?_
      refine OD.wk (Wk.as_ (n := 76) (l' := [(12, _), (74, _)]) (S' := [⟨b4, 40, 5, [_, _, _, _, _]⟩]) rfl rfl ⟨lk, lk, trivial⟩) ?_
      refine OD.nil ?_
      refine CD.cond ot (fun hc11 => ?_) (fun hc11 => ?_)
      ·have hc11' := hc11
       (try simp only [V.cnd, ne_eq] at hc11')
       refine CD.seq ?_
       refine CD.region ?_
       refine OD.still (wants_plain rfl) rfl (still_as rfl opd_const) ?_
       refine OD.still (wants_plain rfl) rfl (still_as rfl opd_const) ?_
       refine OD.wk (Wk.as_ (n := 76) (l' := [(8, _), (9, _)]) (S' := [⟨b4, 40, 5, [_, _, _, _, _]⟩]) rfl rfl ⟨lk, lk, trivial⟩) ?_
       refine OD.nil ?_
       refine CD.ret ?_
       refine ⟨.inr rfl, _, [], List.nil_sublist _, ret_two Tryd.results43 (res_tmp (Nat.le_of_ble_eq_true rfl) lk) (res_tmp (Nat.le_of_ble_eq_true rfl) lk), ?_⟩
       refine ⟨?_, rfl⟩
       unfold madeF okF outF
       simp_all
      ·have hc11' := hc11
       (try simp only [V.cnd, ne_eq] at hc11')
       refine CD.skip ?_
       refine CD.seq ?_
       refine CD.region ?_
       refine OD.still (wants_plain rfl) rfl (still_mv rfl ot) ?_
       refine OD.still (wants_plain rfl) rfl (still_as rfl ot) ?_
       refine OD.still (wants_plain rfl) rfl (still_as rfl opd_const) ?_
       refine OD.wk (Wk.as_ (n := 76) (l' := [(8, _), (9, _)]) (S' := [⟨b4, 40, 5, [_, _, _, _, _]⟩]) rfl rfl ⟨lk, lk, trivial⟩) ?_
       refine OD.nil ?_
       refine CD.ret ?_
       refine ⟨.inr rfl, _, [], List.nil_sublist _, ret_two Tryd.results43 (res_tmp (Nat.le_of_ble_eq_true rfl) lk) (res_tmp (Nat.le_of_ble_eq_true rfl) lk), ?_⟩
       refine ⟨?_, rfl⟩
       unfold madeF okF outF
       simp_all
     ·have hg40' := hg40; (try simp only [V.cnd, ne_eq] at hg40')
      refine OD.skip (wants_F rfl rfl rfl lk (by first | rfl | assumption)) rfl ?_
      refine OD.skip (wants_F rfl rfl rfl lk (by first | rfl | assumption)) rfl ?_
      refine OD.skip (wants_F rfl rfl rfl lk (by first | rfl | assumption)) rfl ?_
      refine OD.still (wants_plain rfl) rfl (still_pickF rfl ot (by first | rfl | assumption) opd_const) ?_
      refine OD.still (wants_plain rfl) rfl (still_as rfl ot) ?_
      refine OD.wk (Wk.as_ (n := 76) (l' := [(11, _), (12, _)]) (S' := [⟨b4, 40, 5, [_, _, _, _, _]⟩]) rfl rfl ⟨lk, lk, trivial⟩) ?_
      refine OD.nil ?_
      refine CD.seq ?_
      refine CD.seq ?_
      refine CD.region ?_
      refine OD.still (wants_plain rfl) rfl (still_mv rfl ot) ?_
      refine OD.still (wants_plain rfl) rfl (still_un rfl ot un_not) ?_
      refine OD.wk (Wk.as_ (n := 76) (l' := [(12, _), (74, _)]) (S' := [⟨b4, 40, 5, [_, _, _, _, _]⟩]) rfl rfl ⟨lk, lk, trivial⟩) ?_
      refine OD.nil ?_
      refine CD.condT ot (by first | rfl | assumption) ?_
      refine CD.seq ?_
      refine CD.region ?_
      refine OD.still (wants_plain rfl) rfl (still_as rfl opd_const) ?_
      refine OD.still (wants_plain rfl) rfl (still_as rfl opd_const) ?_
      refine OD.wk (Wk.as_ (n := 76) (l' := [(8, _), (9, _)]) (S' := [⟨b4, 40, 5, [_, _, _, _, _]⟩]) rfl rfl ⟨lk, lk, trivial⟩) ?_
      refine OD.nil ?_
      refine CD.ret ?_
      refine ⟨.inr rfl, _, [], List.nil_sublist _, ret_two Tryd.results43 (res_tmp (Nat.le_of_ble_eq_true rfl) lk) (res_tmp (Nat.le_of_ble_eq_true rfl) lk), ?_⟩
      refine ⟨?_, rfl⟩
      unfold madeF okF outF
      simp_all
    ·have hc4' := hc4
     (try simp only [V.cnd, ne_eq] at hc4')
     refine CD.seq ?_
     refine CD.region ?_
     refine OD.still (wants_plain rfl) rfl (still_bin rfl ot opd_const bin_eql) ?_
     refine OD.still (wants_plain rfl) rfl (still_as rfl ot) ?_
     refine OD.wk (Wk.as_ (n := 76) (l' := [(2, _), (3, _), (10, _), (11, _), (12, _), (15, _), (45, _)]) (S' := [⟨b4, 40, 5, [_, _, _, _, _]⟩]) rfl rfl ⟨lk, lk, lk, lk, lk, lk, lk, trivial⟩) ?_
     refine OD.nil ?_
     refine CD.cond ot (fun hc5 => ?_) (fun hc5 => ?_)
     ·have hc5' := hc5
      (try simp only [V.cnd, ne_eq] at hc5')
      refine CD.region ?_
      refine OD.still (wants_plain rfl) rfl (still_mv rfl ot) ?_
      refine OD.still (wants_plain rfl) rfl (still_mv rfl ot) ?_
      refine OD.callv (f := 62) (args := [_, _]) (all := [_, _]) (Sf := []) (wants_plain rfl) rfl rfl ot Tryd.call62 (is_vp a 1) rfl ⟨ot, opd_const, trivial⟩ (perm_none _) ?_; rintro _ _ ⟨rfl, rfl⟩
      refine OD.still (wants_plain rfl) rfl (still_as rfl ot) ?_
      refine OD.wk (Wk.as_ (n := 76) (l' := [(11, _), (12, _)]) (S' := [⟨b4, 40, 5, [_, _, _, _, _]⟩]) rfl rfl ⟨lk, lk, trivial⟩) ?_
      refine OD.nil ?_
      refine CD.seq ?_
      refine CD.seq ?_
      refine CD.region ?_
      refine OD.still (wants_plain rfl) rfl (still_mv rfl ot) ?_
      refine OD.still (wants_plain rfl) rfl (still_un rfl ot un_not) ?_
      refine OD.wk (Wk.as_ (n := 76) (l' := [(12, _), (74, _)]) (S' := [⟨b4, 40, 5, [_, _, _, _, _]⟩]) rfl rfl ⟨lk, lk, trivial⟩) ?_
      refine OD.nil ?_
      refine CD.cond ot (fun hc11 => ?_) (fun hc11 => ?_)
      ·have hc11' := hc11
       (try simp only [V.cnd, ne_eq] at hc11')
       refine CD.seq ?_
       refine CD.region ?_
       refine OD.still (wants_plain rfl) rfl (still_as rfl opd_const) ?_
       refine OD.still (wants_plain rfl) rfl (still_as rfl opd_const) ?_
       refine OD.wk (Wk.as_ (n := 76) (l' := [(8, _), (9, _)]) (S' := [⟨b4, 40, 5, [_, _, _, _, _]⟩]) rfl rfl ⟨lk, lk, trivial⟩) ?_
       refine OD.nil ?_
       refine CD.ret ?_
       refine ⟨.inr rfl, _, [], List.nil_sublist _, ret_two Tryd.results43 (res_tmp (Nat.le_of_ble_eq_true rfl) lk) (res_tmp (Nat.le_of_ble_eq_true rfl) lk), ?_⟩
       refine ⟨?_, rfl⟩
       unfold madeF okF outF
       simp_all
      ·have hc11' := hc11
       (try simp only [V.cnd, ne_eq] at hc11')
       refine CD.skip ?_
       refine CD.seq ?_
       refine CD.region ?_
       refine OD.still (wants_plain rfl) rfl (still_mv rfl ot) ?_
       refine OD.still (wants_plain rfl) rfl (still_as rfl ot) ?_
       refine OD.still (wants_plain rfl) rfl (still_as rfl opd_const) ?_
       refine OD.wk (Wk.as_ (n := 76) (l' := [(8, _), (9, _)]) (S' := [⟨b4, 40, 5, [_, _, _, _, _]⟩]) rfl rfl ⟨lk, lk, trivial⟩) ?_
       refine OD.nil ?_
       refine CD.ret ?_
       refine ⟨.inr rfl, _, [], List.nil_sublist _, ret_two Tryd.results43 (res_tmp (Nat.le_of_ble_eq_true rfl) lk) (res_tmp (Nat.le_of_ble_eq_true rfl) lk), ?_⟩
       refine ⟨?_, rfl⟩
       unfold madeF okF outF
       simp_all
     ·have hc5' := hc5
      (try simp only [V.cnd, ne_eq] at hc5')
      refine CD.seq ?_
      refine CD.seq ?_
      refine CD.region ?_
      refine OD.still (wants_plain rfl) rfl (still_bin rfl ot opd_const bin_eql) ?_
      refine OD.still (wants_plain rfl) rfl (still_as rfl ot) ?_
      refine OD.wk (Wk.as_ (n := 76) (l' := [(2, _), (3, _), (10, _), (11, _), (12, _), (15, _), (50, _)]) (S' := [⟨b4, 40, 5, [_, _, _, _, _]⟩]) rfl rfl ⟨lk, lk, lk, lk, lk, lk, lk, trivial⟩) ?_
      refine OD.nil ?_
      refine CD.cond ot (fun hc6 => ?_) (fun hc6 => ?_)
      ·have hc6' := hc6
       (try simp only [V.cnd, ne_eq] at hc6')
       refine CD.skip ?_
       refine CD.condT ot (by first | rfl | assumption) ?_
       refine CD.region ?_
       refine OD.still (wants_plain rfl) rfl (still_mv rfl ot) ?_
       refine OD.still (wants_plain rfl) rfl (still_mv rfl ot) ?_
       refine OD.still (wants_plain rfl) rfl (still_mv rfl ot) ?_
       refine OD.callv (f := 62) (args := [_, _]) (all := [_, _]) (Sf := []) (wants_plain rfl) rfl rfl ot Tryd.call62 (is_vp a b) rfl ⟨ot, ot, trivial⟩ (perm_none _) ?_; rintro _ _ ⟨rfl, rfl⟩
       refine OD.still (wants_plain rfl) rfl (still_mv rfl ot) ?_
       refine OD.split (t := 57) lk (fun hg57 => ?_) (fun hg57 => ?_)
       ·have hg57' := hg57; (try simp only [V.cnd, ne_eq] at hg57')
        refine OD.skip (wants_F rfl rfl rfl lk (by first | rfl | assumption)) rfl ?_
        refine OD.skip (wants_F rfl rfl rfl lk (by first | rfl | assumption)) rfl ?_
        refine OD.still (wants_plain rfl) rfl (still_pickT rfl ot (by first | rfl | assumption) opd_const) ?_
        refine OD.still (wants_plain rfl) rfl (still_as rfl ot) ?_
        refine OD.wk (Wk.as_ (n := 76) (l' := [(11, _), (12, _)]) (S' := [⟨b4, 40, 5, [_, _, _, _, _]⟩]) rfl rfl ⟨lk, lk, trivial⟩) ?_
        refine OD.nil ?_
        refine CD.seq ?_
        refine CD.seq ?_
        refine CD.region ?_
        refine OD.still (wants_plain rfl) rfl (still_mv rfl ot) ?_
        refine OD.still (wants_plain rfl) rfl (still_un rfl ot un_not) ?_
        refine OD.wk (Wk.as_ (n := 76) (l' := [(12, _), (74, _)]) (S' := [⟨b4, 40, 5, [_, _, _, _, _]⟩]) rfl rfl ⟨lk, lk, trivial⟩) ?_
        refine OD.nil ?_
        refine CD.condF ot (by first | rfl | assumption) ?_
        refine CD.skip ?_
        refine CD.seq ?_
        refine CD.region ?_
        refine OD.still (wants_plain rfl) rfl (still_mv rfl ot) ?_
        refine OD.still (wants_plain rfl) rfl (still_as rfl ot) ?_
        refine OD.still (wants_plain rfl) rfl (still_as rfl opd_const) ?_
        refine OD.wk (Wk.as_ (n := 76) (l' := [(8, _), (9, _)]) (S' := [⟨b4, 40, 5, [_, _, _, _, _]⟩]) rfl rfl ⟨lk, lk, trivial⟩) ?_
        refine OD.nil ?_
        refine CD.ret ?_
        refine ⟨.inr rfl, _, [], List.nil_sublist _, ret_two Tryd.results43 (res_tmp (Nat.le_of_ble_eq_true rfl) lk) (res_tmp (Nat.le_of_ble_eq_true rfl) lk), ?_⟩
        refine ⟨?_, rfl⟩
        unfold madeF okF outF
        simp_all
       ·have hg57' := hg57; (try simp only [V.cnd, ne_eq] at hg57')
        refine OD.still (wants_T rfl rfl rfl lk (by first | rfl | assumption)) rfl (still_mv rfl ot) ?_
        refine OD.still (wants_T rfl rfl rfl lk (by first | rfl | assumption)) rfl (still_bin rfl ot opd_const bin_eql) ?_
        refine OD.still (wants_plain rfl) rfl (still_pickF rfl ot (by first | rfl | assumption) ot) ?_
        refine OD.still (wants_plain rfl) rfl (still_as rfl ot) ?_
        refine OD.wk (Wk.as_ (n := 76) (l' := [(11, _), (12, _)]) (S' := [⟨b4, 40, 5, [_, _, _, _, _]⟩]) rfl rfl ⟨lk, lk, trivial⟩) ?_
        refine OD.nil ?_
        refine CD.seq ?_
        refine CD.seq ?_
        refine CD.region ?_
        refine OD.still (wants_plain rfl) rfl (still_mv rfl ot) ?_
        refine OD.still (wants_plain rfl) rfl (still_un rfl ot un_not) ?_
        refine OD.wk (Wk.as_ (n := 76) (l' := [(12, _), (74, _)]) (S' := [⟨b4, 40, 5, [_, _, _, _, _]⟩]) rfl rfl ⟨lk, lk, trivial⟩) ?_
        refine OD.nil ?_
        refine CD.cond ot (fun hc11 => ?_) (fun hc11 => ?_)
        ·have hc11' := hc11
         (try simp only [V.cnd, ne_eq] at hc11')
         refine CD.seq ?_
         refine CD.region ?_
         refine OD.still (wants_plain rfl) rfl (still_as rfl opd_const) ?_
         refine OD.still (wants_plain rfl) rfl (still_as rfl opd_const) ?_
         refine OD.wk (Wk.as_ (n := 76) (l' := [(8, _), (9, _)]) (S' := [⟨b4, 40, 5, [_, _, _, _, _]⟩]) rfl rfl ⟨lk, lk, trivial⟩) ?_
         refine OD.nil ?_
         refine CD.ret ?_
         refine ⟨.inr rfl, _, [], List.nil_sublist _, ret_two Tryd.results43 (res_tmp (Nat.le_of_ble_eq_true rfl) lk) (res_tmp (Nat.le_of_ble_eq_true rfl) lk), ?_⟩
         refine ⟨?_, rfl⟩
         unfold madeF okF outF
         simp_all
        ·have hc11' := hc11
         (try simp only [V.cnd, ne_eq] at hc11')
         refine CD.skip ?_
         refine CD.seq ?_
         refine CD.region ?_
         refine OD.still (wants_plain rfl) rfl (still_mv rfl ot) ?_
         refine OD.still (wants_plain rfl) rfl (still_as rfl ot) ?_
         refine OD.still (wants_plain rfl) rfl (still_as rfl opd_const) ?_
         refine OD.wk (Wk.as_ (n := 76) (l' := [(8, _), (9, _)]) (S' := [⟨b4, 40, 5, [_, _, _, _, _]⟩]) rfl rfl ⟨lk, lk, trivial⟩) ?_
         refine OD.nil ?_
         refine CD.ret ?_
         refine ⟨.inr rfl, _, [], List.nil_sublist _, ret_two Tryd.results43 (res_tmp (Nat.le_of_ble_eq_true rfl) lk) (res_tmp (Nat.le_of_ble_eq_true rfl) lk), ?_⟩
         refine ⟨?_, rfl⟩
         unfold madeF okF outF
         simp_all
      ·have hc6' := hc6
       (try simp only [V.cnd, ne_eq] at hc6')
       refine CD.region ?_
       refine OD.still (wants_plain rfl) rfl (still_bin rfl ot opd_const bin_eql) ?_
       refine OD.still (wants_plain rfl) rfl (still_as rfl ot) ?_
       refine OD.wk (Wk.as_ (n := 76) (l' := [(2, _), (3, _), (10, _), (11, _), (12, _), (15, _), (50, _)]) (S' := [⟨b4, 40, 5, [_, _, _, _, _]⟩]) rfl rfl ⟨lk, lk, lk, lk, lk, lk, lk, trivial⟩) ?_
       refine OD.nil ?_
       refine CD.cond ot (fun hc7 => ?_) (fun hc7 => ?_)
       ·have hc7' := hc7
        (try simp only [V.cnd, ne_eq] at hc7')
        refine CD.region ?_
        refine OD.still (wants_plain rfl) rfl (still_mv rfl ot) ?_
        refine OD.still (wants_plain rfl) rfl (still_mv rfl ot) ?_
        refine OD.still (wants_plain rfl) rfl (still_mv rfl ot) ?_
        refine OD.callv (f := 62) (args := [_, _]) (all := [_, _]) (Sf := []) (wants_plain rfl) rfl rfl ot Tryd.call62 (is_vp a b) rfl ⟨ot, ot, trivial⟩ (perm_none _) ?_; rintro _ _ ⟨rfl, rfl⟩
        refine OD.still (wants_plain rfl) rfl (still_mv rfl ot) ?_
        refine OD.split (t := 57) lk (fun hg57 => ?_) (fun hg57 => ?_)
        ·have hg57' := hg57; (try simp only [V.cnd, ne_eq] at hg57')
         refine OD.skip (wants_F rfl rfl rfl lk (by first | rfl | assumption)) rfl ?_
         refine OD.skip (wants_F rfl rfl rfl lk (by first | rfl | assumption)) rfl ?_
         refine OD.still (wants_plain rfl) rfl (still_pickT rfl ot (by first | rfl | assumption) opd_const) ?_
         refine OD.still (wants_plain rfl) rfl (still_as rfl ot) ?_
         refine OD.wk (Wk.as_ (n := 76) (l' := [(11, _), (12, _)]) (S' := [⟨b4, 40, 5, [_, _, _, _, _]⟩]) rfl rfl ⟨lk, lk, trivial⟩) ?_
         refine OD.nil ?_
         refine CD.seq ?_
         refine CD.seq ?_
         refine CD.region ?_
         refine OD.still (wants_plain rfl) rfl (still_mv rfl ot) ?_
         refine OD.still (wants_plain rfl) rfl (still_un rfl ot un_not) ?_
         refine OD.wk (Wk.as_ (n := 76) (l' := [(12, _), (74, _)]) (S' := [⟨b4, 40, 5, [_, _, _, _, _]⟩]) rfl rfl ⟨lk, lk, trivial⟩) ?_
         refine OD.nil ?_
         refine CD.condF ot (by first | rfl | assumption) ?_
         refine CD.skip ?_
         refine CD.seq ?_
         refine CD.region ?_
         refine OD.still (wants_plain rfl) rfl (still_mv rfl ot) ?_
         refine OD.still (wants_plain rfl) rfl (still_as rfl ot) ?_
         refine OD.still (wants_plain rfl) rfl (still_as rfl opd_const) ?_
         refine OD.wk (Wk.as_ (n := 76) (l' := [(8, _), (9, _)]) (S' := [⟨b4, 40, 5, [_, _, _, _, _]⟩]) rfl rfl ⟨lk, lk, trivial⟩) ?_
         refine OD.nil ?_
         refine CD.ret ?_
         refine ⟨.inr rfl, _, [], List.nil_sublist _, ret_two Tryd.results43 (res_tmp (Nat.le_of_ble_eq_true rfl) lk) (res_tmp (Nat.le_of_ble_eq_true rfl) lk), ?_⟩
         refine ⟨?_, rfl⟩
         unfold madeF okF outF
         simp_all
        ·have hg57' := hg57; (try simp only [V.cnd, ne_eq] at hg57')
         refine OD.still (wants_T rfl rfl rfl lk (by first | rfl | assumption)) rfl (still_mv rfl ot) ?_
         refine OD.still (wants_T rfl rfl rfl lk (by first | rfl | assumption)) rfl (still_bin rfl ot opd_const bin_eql) ?_
         refine OD.still (wants_plain rfl) rfl (still_pickF rfl ot (by first | rfl | assumption) ot) ?_
         refine OD.still (wants_plain rfl) rfl (still_as rfl ot) ?_
         refine OD.wk (Wk.as_ (n := 76) (l' := [(11, _), (12, _)]) (S' := [⟨b4, 40, 5, [_, _, _, _, _]⟩]) rfl rfl ⟨lk, lk, trivial⟩) ?_
         refine OD.nil ?_
         refine CD.seq ?_
         refine CD.seq ?_
         refine CD.region ?_
         refine OD.still (wants_plain rfl) rfl (still_mv rfl ot) ?_
         refine OD.still (wants_plain rfl) rfl (still_un rfl ot un_not) ?_
         refine OD.wk (Wk.as_ (n := 76) (l' := [(12, _), (74, _)]) (S' := [⟨b4, 40, 5, [_, _, _, _, _]⟩]) rfl rfl ⟨lk, lk, trivial⟩) ?_
         refine OD.nil ?_
         refine CD.cond ot (fun hc11 => ?_) (fun hc11 => ?_)
         ·have hc11' := hc11
          (try simp only [V.cnd, ne_eq] at hc11')
          refine CD.seq ?_
          refine CD.region ?_
          refine OD.still (wants_plain rfl) rfl (still_as rfl opd_const) ?_
          refine OD.still (wants_plain rfl) rfl (still_as rfl opd_const) ?_
          refine OD.wk (Wk.as_ (n := 76) (l' := [(8, _), (9, _)]) (S' := [⟨b4, 40, 5, [_, _, _, _, _]⟩]) rfl rfl ⟨lk, lk, trivial⟩) ?_
          refine OD.nil ?_
          refine CD.ret ?_
          refine ⟨.inr rfl, _, [], List.nil_sublist _, ret_two Tryd.results43 (res_tmp (Nat.le_of_ble_eq_true rfl) lk) (res_tmp (Nat.le_of_ble_eq_true rfl) lk), ?_⟩
          refine ⟨?_, rfl⟩
          unfold madeF okF outF
          simp_all
         ·have hc11' := hc11
          (try simp only [V.cnd, ne_eq] at hc11')
          refine CD.skip ?_
          refine CD.seq ?_
          refine CD.region ?_
          refine OD.still (wants_plain rfl) rfl (still_mv rfl ot) ?_
          refine OD.still (wants_plain rfl) rfl (still_as rfl ot) ?_
          refine OD.still (wants_plain rfl) rfl (still_as rfl opd_const) ?_
          refine OD.wk (Wk.as_ (n := 76) (l' := [(8, _), (9, _)]) (S' := [⟨b4, 40, 5, [_, _, _, _, _]⟩]) rfl rfl ⟨lk, lk, trivial⟩) ?_
          refine OD.nil ?_
          refine CD.ret ?_
          refine ⟨.inr rfl, _, [], List.nil_sublist _, ret_two Tryd.results43 (res_tmp (Nat.le_of_ble_eq_true rfl) lk) (res_tmp (Nat.le_of_ble_eq_true rfl) lk), ?_⟩
          refine ⟨?_, rfl⟩
          unfold madeF okF outF
          simp_all
       ·have hc7' := hc7
        (try simp only [V.cnd, ne_eq] at hc7')
        refine CD.seq ?_
        refine CD.seq ?_
        refine CD.region ?_
        refine OD.still (wants_plain rfl) rfl (still_bin rfl ot opd_const bin_eql) ?_
        refine OD.still (wants_plain rfl) rfl (still_as rfl ot) ?_
        refine OD.wk (Wk.as_ (n := 76) (l' := [(2, _), (3, _), (10, _), (11, _), (12, _), (15, _), (61, _)]) (S' := [⟨b4, 40, 5, [_, _, _, _, _]⟩]) rfl rfl ⟨lk, lk, lk, lk, lk, lk, lk, trivial⟩) ?_
        refine OD.nil ?_
        refine CD.cond ot (fun hc8 => ?_) (fun hc8 => ?_)
        ·have hc8' := hc8
         (try simp only [V.cnd, ne_eq] at hc8')
         refine CD.skip ?_
         refine CD.condT ot (by first | rfl | assumption) ?_
         refine CD.region ?_
         refine OD.still (wants_plain rfl) rfl (still_mv rfl ot) ?_
         refine OD.still (wants_plain rfl) rfl (still_mv rfl ot) ?_
         refine OD.callv (f := 62) (args := [_, _]) (all := [_, _]) (Sf := []) (wants_plain rfl) rfl rfl ot Tryd.call62 (is_vp a 2) rfl ⟨ot, opd_const, trivial⟩ (perm_none _) ?_; rintro _ _ ⟨rfl, rfl⟩
         refine OD.still (wants_plain rfl) rfl (still_mv rfl ot) ?_
         refine OD.split (t := 68) lk (fun hg68 => ?_) (fun hg68 => ?_)
         ·have hg68' := hg68; (try simp only [V.cnd, ne_eq] at hg68')
          refine OD.still (wants_T rfl rfl rfl lk (by first | rfl | assumption)) rfl (still_mv rfl ot) ?_
          refine OD.still (wants_T rfl rfl rfl lk (by first | rfl | assumption)) rfl (still_mv rfl ot) ?_
          refine OD.callv (f := 62) (args := [_, _]) (all := [_, _]) (Sf := []) (wants_T rfl rfl rfl lk (by first | rfl | assumption)) rfl rfl ot Tryd.call62 (is_vp b 2) rfl ⟨ot, opd_const, trivial⟩ (perm_none _) ?_; rintro _ _ ⟨rfl, rfl⟩
          refine OD.still (wants_plain rfl) rfl (still_pickT rfl ot (by first | rfl | assumption) ot) ?_
          refine OD.still (wants_plain rfl) rfl (still_as rfl ot) ?_
          refine OD.still (wants_plain rfl) rfl (still_as rfl opd_const) ?_
          refine OD.wk (Wk.as_ (n := 76) (l' := [(11, _), (12, _)]) (S' := [⟨b4, 40, 5, [_, _, _, _, _]⟩]) rfl rfl ⟨lk, lk, trivial⟩) ?_
          refine OD.nil ?_
          refine CD.seq ?_
          refine CD.seq ?_
          refine CD.region ?_
          refine OD.still (wants_plain rfl) rfl (still_mv rfl ot) ?_
          refine OD.still (wants_plain rfl) rfl (still_un rfl ot un_not) ?_
          refine OD.wk (Wk.as_ (n := 76) (l' := [(12, _), (74, _)]) (S' := [⟨b4, 40, 5, [_, _, _, _, _]⟩]) rfl rfl ⟨lk, lk, trivial⟩) ?_
          refine OD.nil ?_
          refine CD.cond ot (fun hc11 => ?_) (fun hc11 => ?_)
          ·have hc11' := hc11
           (try simp only [V.cnd, ne_eq] at hc11')
           refine CD.seq ?_
           refine CD.region ?_
           refine OD.still (wants_plain rfl) rfl (still_as rfl opd_const) ?_
           refine OD.still (wants_plain rfl) rfl (still_as rfl opd_const) ?_
           refine OD.wk (Wk.as_ (n := 76) (l' := [(8, _), (9, _)]) (S' := [⟨b4, 40, 5, [_, _, _, _, _]⟩]) rfl rfl ⟨lk, lk, trivial⟩) ?_
           refine OD.nil ?_
           refine CD.ret ?_
           refine ⟨.inr rfl, _, [], List.nil_sublist _, ret_two Tryd.results43 (res_tmp (Nat.le_of_ble_eq_true rfl) lk) (res_tmp (Nat.le_of_ble_eq_true rfl) lk), ?_⟩
           refine ⟨?_, rfl⟩
           unfold madeF okF outF
           simp_all
          ·have hc11' := hc11
           (try simp only [V.cnd, ne_eq] at hc11')
           refine CD.skip ?_
           refine CD.seq ?_
           refine CD.region ?_
           refine OD.still (wants_plain rfl) rfl (still_mv rfl ot) ?_
           refine OD.still (wants_plain rfl) rfl (still_as rfl ot) ?_
           refine OD.still (wants_plain rfl) rfl (still_as rfl opd_const) ?_
           refine OD.wk (Wk.as_ (n := 76) (l' := [(8, _), (9, _)]) (S' := [⟨b4, 40, 5, [_, _, _, _, _]⟩]) rfl rfl ⟨lk, lk, trivial⟩) ?_
           refine OD.nil ?_
           refine CD.ret ?_
           refine ⟨.inr rfl, _, [], List.nil_sublist _, ret_two Tryd.results43 (res_tmp (Nat.le_of_ble_eq_true rfl) lk) (res_tmp (Nat.le_of_ble_eq_true rfl) lk), ?_⟩
           refine ⟨?_, rfl⟩
           unfold madeF okF outF
           simp_all
         ·have hg68' := hg68; (try simp only [V.cnd, ne_eq] at hg68')
          refine OD.skip (wants_F rfl rfl rfl lk (by first | rfl | assumption)) rfl ?_
          refine OD.skip (wants_F rfl rfl rfl lk (by first | rfl | assumption)) rfl ?_
          refine OD.skip (wants_F rfl rfl rfl lk (by first | rfl | assumption)) rfl ?_
          refine OD.still (wants_plain rfl) rfl (still_pickF rfl ot (by first | rfl | assumption) opd_const) ?_
          refine OD.still (wants_plain rfl) rfl (still_as rfl ot) ?_
          refine OD.still (wants_plain rfl) rfl (still_as rfl opd_const) ?_
          refine OD.wk (Wk.as_ (n := 76) (l' := [(11, _), (12, _)]) (S' := [⟨b4, 40, 5, [_, _, _, _, _]⟩]) rfl rfl ⟨lk, lk, trivial⟩) ?_
          refine OD.nil ?_
          refine CD.seq ?_
          refine CD.seq ?_
          refine CD.region ?_
          refine OD.still (wants_plain rfl) rfl (still_mv rfl ot) ?_
          refine OD.still (wants_plain rfl) rfl (still_un rfl ot un_not) ?_
          refine OD.wk (Wk.as_ (n := 76) (l' := [(12, _), (74, _)]) (S' := [⟨b4, 40, 5, [_, _, _, _, _]⟩]) rfl rfl ⟨lk, lk, trivial⟩) ?_
          refine OD.nil ?_
          refine CD.condT ot (by first | rfl | assumption) ?_
          refine CD.seq ?_
          refine CD.region ?_
          refine OD.still (wants_plain rfl) rfl (still_as rfl opd_const) ?_
          refine OD.still (wants_plain rfl) rfl (still_as rfl opd_const) ?_
          refine OD.wk (Wk.as_ (n := 76) (l' := [(8, _), (9, _)]) (S' := [⟨b4, 40, 5, [_, _, _, _, _]⟩]) rfl rfl ⟨lk, lk, trivial⟩) ?_
          refine OD.nil ?_
          refine CD.ret ?_
          refine ⟨.inr rfl, _, [], List.nil_sublist _, ret_two Tryd.results43 (res_tmp (Nat.le_of_ble_eq_true rfl) lk) (res_tmp (Nat.le_of_ble_eq_true rfl) lk), ?_⟩
          refine ⟨?_, rfl⟩
          unfold madeF okF outF
          simp_all
        ·have hc8' := hc8
         (try simp only [V.cnd, ne_eq] at hc8')
         refine CD.seq ?_
         refine CD.region ?_
         refine OD.still (wants_plain rfl) rfl (still_bin rfl ot opd_const bin_eql) ?_
         refine OD.still (wants_plain rfl) rfl (still_as rfl ot) ?_
         refine OD.wk (Wk.as_ (n := 76) (l' := [(2, _), (3, _), (10, _), (11, _), (12, _), (15, _), (61, _)]) (S' := [⟨b4, 40, 5, [_, _, _, _, _]⟩]) rfl rfl ⟨lk, lk, lk, lk, lk, lk, lk, trivial⟩) ?_
         refine OD.nil ?_
         refine CD.cond ot (fun hc9 => ?_) (fun hc9 => ?_)
         ·have hc9' := hc9
          (try simp only [V.cnd, ne_eq] at hc9')
          refine CD.skip ?_
          refine CD.condT ot (by first | rfl | assumption) ?_
          refine CD.region ?_
          refine OD.still (wants_plain rfl) rfl (still_mv rfl ot) ?_
          refine OD.still (wants_plain rfl) rfl (still_mv rfl ot) ?_
          refine OD.callv (f := 62) (args := [_, _]) (all := [_, _]) (Sf := []) (wants_plain rfl) rfl rfl ot Tryd.call62 (is_vp a 2) rfl ⟨ot, opd_const, trivial⟩ (perm_none _) ?_; rintro _ _ ⟨rfl, rfl⟩
          refine OD.still (wants_plain rfl) rfl (still_mv rfl ot) ?_
          refine OD.split (t := 68) lk (fun hg68 => ?_) (fun hg68 => ?_)
          ·have hg68' := hg68; (try simp only [V.cnd, ne_eq] at hg68')
           refine OD.still (wants_T rfl rfl rfl lk (by first | rfl | assumption)) rfl (still_mv rfl ot) ?_
           refine OD.still (wants_T rfl rfl rfl lk (by first | rfl | assumption)) rfl (still_mv rfl ot) ?_
           refine OD.callv (f := 62) (args := [_, _]) (all := [_, _]) (Sf := []) (wants_T rfl rfl rfl lk (by first | rfl | assumption)) rfl rfl ot Tryd.call62 (is_vp b 2) rfl ⟨ot, opd_const, trivial⟩ (perm_none _) ?_; rintro _ _ ⟨rfl, rfl⟩
           refine OD.still (wants_plain rfl) rfl (still_pickT rfl ot (by first | rfl | assumption) ot) ?_
           refine OD.still (wants_plain rfl) rfl (still_as rfl ot) ?_
           refine OD.still (wants_plain rfl) rfl (still_as rfl opd_const) ?_
           refine OD.wk (Wk.as_ (n := 76) (l' := [(11, _), (12, _)]) (S' := [⟨b4, 40, 5, [_, _, _, _, _]⟩]) rfl rfl ⟨lk, lk, trivial⟩) ?_
           refine OD.nil ?_
           refine CD.seq ?_
           refine CD.seq ?_
           refine CD.region ?_
           refine OD.still (wants_plain rfl) rfl (still_mv rfl ot) ?_
           refine OD.still (wants_plain rfl) rfl (still_un rfl ot un_not) ?_
           refine OD.wk (Wk.as_ (n := 76) (l' := [(12, _), (74, _)]) (S' := [⟨b4, 40, 5, [_, _, _, _, _]⟩]) rfl rfl ⟨lk, lk, trivial⟩) ?_
           refine OD.nil ?_
           refine CD.cond ot (fun hc11 => ?_) (fun hc11 => ?_)
           ·have hc11' := hc11
            (try simp only [V.cnd, ne_eq] at hc11')
            refine CD.seq ?_
            refine CD.region ?_
            refine OD.still (wants_plain rfl) rfl (still_as rfl opd_const) ?_
            refine OD.still (wants_plain rfl) rfl (still_as rfl opd_const) ?_
            refine OD.wk (Wk.as_ (n := 76) (l' := [(8, _), (9, _)]) (S' := [⟨b4, 40, 5, [_, _, _, _, _]⟩]) rfl rfl ⟨lk, lk, trivial⟩) ?_
            refine OD.nil ?_
            refine CD.ret ?_
            refine ⟨.inr rfl, _, [], List.nil_sublist _, ret_two Tryd.results43 (res_tmp (Nat.le_of_ble_eq_true rfl) lk) (res_tmp (Nat.le_of_ble_eq_true rfl) lk), ?_⟩
            refine ⟨?_, rfl⟩
            unfold madeF okF outF
            simp_all
           ·have hc11' := hc11
            (try simp only [V.cnd, ne_eq] at hc11')
            refine CD.skip ?_
            refine CD.seq ?_
            refine CD.region ?_
            refine OD.still (wants_plain rfl) rfl (still_mv rfl ot) ?_
            refine OD.still (wants_plain rfl) rfl (still_as rfl ot) ?_
            refine OD.still (wants_plain rfl) rfl (still_as rfl opd_const) ?_
            refine OD.wk (Wk.as_ (n := 76) (l' := [(8, _), (9, _)]) (S' := [⟨b4, 40, 5, [_, _, _, _, _]⟩]) rfl rfl ⟨lk, lk, trivial⟩) ?_
            refine OD.nil ?_
            refine CD.ret ?_
            refine ⟨.inr rfl, _, [], List.nil_sublist _, ret_two Tryd.results43 (res_tmp (Nat.le_of_ble_eq_true rfl) lk) (res_tmp (Nat.le_of_ble_eq_true rfl) lk), ?_⟩
            refine ⟨?_, rfl⟩
            unfold madeF okF outF
            simp_all
          ·have hg68' := hg68; (try simp only [V.cnd, ne_eq] at hg68')
           refine OD.skip (wants_F rfl rfl rfl lk (by first | rfl | assumption)) rfl ?_
           refine OD.skip (wants_F rfl rfl rfl lk (by first | rfl | assumption)) rfl ?_
           refine OD.skip (wants_F rfl rfl rfl lk (by first | rfl | assumption)) rfl ?_
           refine OD.still (wants_plain rfl) rfl (still_pickF rfl ot (by first | rfl | assumption) opd_const) ?_
           refine OD.still (wants_plain rfl) rfl (still_as rfl ot) ?_
           refine OD.still (wants_plain rfl) rfl (still_as rfl opd_const) ?_
           refine OD.wk (Wk.as_ (n := 76) (l' := [(11, _), (12, _)]) (S' := [⟨b4, 40, 5, [_, _, _, _, _]⟩]) rfl rfl ⟨lk, lk, trivial⟩) ?_
           refine OD.nil ?_
           refine CD.seq ?_
           refine CD.seq ?_
           refine CD.region ?_
           refine OD.still (wants_plain rfl) rfl (still_mv rfl ot) ?_
           refine OD.still (wants_plain rfl) rfl (still_un rfl ot un_not) ?_
           refine OD.wk (Wk.as_ (n := 76) (l' := [(12, _), (74, _)]) (S' := [⟨b4, 40, 5, [_, _, _, _, _]⟩]) rfl rfl ⟨lk, lk, trivial⟩) ?_
           refine OD.nil ?_
           refine CD.condT ot (by first | rfl | assumption) ?_
           refine CD.seq ?_
           refine CD.region ?_
           refine OD.still (wants_plain rfl) rfl (still_as rfl opd_const) ?_
           refine OD.still (wants_plain rfl) rfl (still_as rfl opd_const) ?_
           refine OD.wk (Wk.as_ (n := 76) (l' := [(8, _), (9, _)]) (S' := [⟨b4, 40, 5, [_, _, _, _, _]⟩]) rfl rfl ⟨lk, lk, trivial⟩) ?_
           refine OD.nil ?_
           refine CD.ret ?_
           refine ⟨.inr rfl, _, [], List.nil_sublist _, ret_two Tryd.results43 (res_tmp (Nat.le_of_ble_eq_true rfl) lk) (res_tmp (Nat.le_of_ble_eq_true rfl) lk), ?_⟩
           refine ⟨?_, rfl⟩
           unfold madeF okF outF
           simp_all
         ·have hc9' := hc9
          (try simp only [V.cnd, ne_eq] at hc9')
          refine CD.region ?_
          refine OD.still (wants_plain rfl) rfl (still_bin rfl ot opd_const bin_eql) ?_
          refine OD.still (wants_plain rfl) rfl (still_as rfl ot) ?_
          refine OD.wk (Wk.as_ (n := 76) (l' := [(2, _), (3, _), (10, _), (11, _), (12, _), (61, _)]) (S' := [⟨b4, 40, 5, [_, _, _, _, _]⟩]) rfl rfl ⟨lk, lk, lk, lk, lk, lk, trivial⟩) ?_
          refine OD.nil ?_
          refine CD.cond ot (fun hc10 => ?_) (fun hc10 => ?_)
          ·have hc10' := hc10
           (try simp only [V.cnd, ne_eq] at hc10')
           refine CD.region ?_
           refine OD.still (wants_plain rfl) rfl (still_mv rfl ot) ?_
           refine OD.still (wants_plain rfl) rfl (still_mv rfl ot) ?_
           refine OD.callv (f := 62) (args := [_, _]) (all := [_, _]) (Sf := []) (wants_plain rfl) rfl rfl ot Tryd.call62 (is_vp a 2) rfl ⟨ot, opd_const, trivial⟩ (perm_none _) ?_; rintro _ _ ⟨rfl, rfl⟩
           refine OD.still (wants_plain rfl) rfl (still_mv rfl ot) ?_
           refine OD.split (t := 68) lk (fun hg68 => ?_) (fun hg68 => ?_)
           ·have hg68' := hg68; (try simp only [V.cnd, ne_eq] at hg68')
            refine OD.still (wants_T rfl rfl rfl lk (by first | rfl | assumption)) rfl (still_mv rfl ot) ?_
            refine OD.still (wants_T rfl rfl rfl lk (by first | rfl | assumption)) rfl (still_mv rfl ot) ?_
            refine OD.callv (f := 62) (args := [_, _]) (all := [_, _]) (Sf := []) (wants_T rfl rfl rfl lk (by first | rfl | assumption)) rfl rfl ot Tryd.call62 (is_vp b 2) rfl ⟨ot, opd_const, trivial⟩ (perm_none _) ?_; rintro _ _ ⟨rfl, rfl⟩
            refine OD.still (wants_plain rfl) rfl (still_pickT rfl ot (by first | rfl | assumption) ot) ?_
            refine OD.still (wants_plain rfl) rfl (still_as rfl ot) ?_
            refine OD.still (wants_plain rfl) rfl (still_as rfl opd_const) ?_
            refine OD.wk (Wk.as_ (n := 76) (l' := [(11, _), (12, _)]) (S' := [⟨b4, 40, 5, [_, _, _, _, _]⟩]) rfl rfl ⟨lk, lk, trivial⟩) ?_
            refine OD.nil ?_
            refine CD.seq ?_
            refine CD.seq ?_
            refine CD.region ?_
            refine OD.still (wants_plain rfl) rfl (still_mv rfl ot) ?_
            refine OD.still (wants_plain rfl) rfl (still_un rfl ot un_not) ?_
            refine OD.wk (Wk.as_ (n := 76) (l' := [(12, _), (74, _)]) (S' := [⟨b4, 40, 5, [_, _, _, _, _]⟩]) rfl rfl ⟨lk, lk, trivial⟩) ?_
            refine OD.nil ?_
            refine CD.cond ot (fun hc11 => ?_) (fun hc11 => ?_)
            ·have hc11' := hc11
             (try simp only [V.cnd, ne_eq] at hc11')
             refine CD.seq ?_
             refine CD.region ?_
             refine OD.still (wants_plain rfl) rfl (still_as rfl opd_const) ?_
             refine OD.still (wants_plain rfl) rfl (still_as rfl opd_const) ?_
             refine OD.wk (Wk.as_ (n := 76) (l' := [(8, _), (9, _)]) (S' := [⟨b4, 40, 5, [_, _, _, _, _]⟩]) rfl rfl ⟨lk, lk, trivial⟩) ?_
             refine OD.nil ?_
             refine CD.ret ?_
             refine ⟨.inr rfl, _, [], List.nil_sublist _, ret_two Tryd.results43 (res_tmp (Nat.le_of_ble_eq_true rfl) lk) (res_tmp (Nat.le_of_ble_eq_true rfl) lk), ?_⟩
             refine ⟨?_, rfl⟩
             unfold madeF okF outF
             simp_all
            ·have hc11' := hc11
             (try simp only [V.cnd, ne_eq] at hc11')
             refine CD.skip ?_
             refine CD.seq ?_
             refine CD.region ?_
             refine OD.still (wants_plain rfl) rfl (still_mv rfl ot) ?_
             refine OD.still (wants_plain rfl) rfl (still_as rfl ot) ?_
             refine OD.still (wants_plain rfl) rfl (still_as rfl opd_const) ?_
             refine OD.wk (Wk.as_ (n := 76) (l' := [(8, _), (9, _)]) (S' := [⟨b4, 40, 5, [_, _, _, _, _]⟩]) rfl rfl ⟨lk, lk, trivial⟩) ?_
             refine OD.nil ?_
             refine CD.ret ?_
             refine ⟨.inr rfl, _, [], List.nil_sublist _, ret_two Tryd.results43 (res_tmp (Nat.le_of_ble_eq_true rfl) lk) (res_tmp (Nat.le_of_ble_eq_true rfl) lk), ?_⟩
             refine ⟨?_, rfl⟩
             unfold madeF okF outF
             simp_all
           ·have hg68' := hg68; (try simp only [V.cnd, ne_eq] at hg68')
            refine OD.skip (wants_F rfl rfl rfl lk (by first | rfl | assumption)) rfl ?_
            refine OD.skip (wants_F rfl rfl rfl lk (by first | rfl | assumption)) rfl ?_
            refine OD.skip (wants_F rfl rfl rfl lk (by first | rfl | assumption)) rfl ?_
            refine OD.still (wants_plain rfl) rfl (still_pickF rfl ot (by first | rfl | assumption) opd_const) ?_
            refine OD.still (wants_plain rfl) rfl (still_as rfl ot) ?_
            refine OD.still (wants_plain rfl) rfl (still_as rfl opd_const) ?_
            refine OD.wk (Wk.as_ (n := 76) (l' := [(11, _), (12, _)]) (S' := [⟨b4, 40, 5, [_, _, _, _, _]⟩]) rfl rfl ⟨lk, lk, trivial⟩) ?_
            refine OD.nil ?_
            refine CD.seq ?_
            refine CD.seq ?_
            refine CD.region ?_
            refine OD.still (wants_plain rfl) rfl (still_mv rfl ot) ?_
            refine OD.still (wants_plain rfl) rfl (still_un rfl ot un_not) ?_
            refine OD.wk (Wk.as_ (n := 76) (l' := [(12, _), (74, _)]) (S' := [⟨b4, 40, 5, [_, _, _, _, _]⟩]) rfl rfl ⟨lk, lk, trivial⟩) ?_
            refine OD.nil ?_
            refine CD.condT ot (by first | rfl | assumption) ?_
            refine CD.seq ?_
            refine CD.region ?_
            refine OD.still (wants_plain rfl) rfl (still_as rfl opd_const) ?_
            refine OD.still (wants_plain rfl) rfl (still_as rfl opd_const) ?_
            refine OD.wk (Wk.as_ (n := 76) (l' := [(8, _), (9, _)]) (S' := [⟨b4, 40, 5, [_, _, _, _, _]⟩]) rfl rfl ⟨lk, lk, trivial⟩) ?_
            refine OD.nil ?_
            refine CD.ret ?_
            refine ⟨.inr rfl, _, [], List.nil_sublist _, ret_two Tryd.results43 (res_tmp (Nat.le_of_ble_eq_true rfl) lk) (res_tmp (Nat.le_of_ble_eq_true rfl) lk), ?_⟩
            refine ⟨?_, rfl⟩
            unfold madeF okF outF
            simp_all
          ·have hc10' := hc10
           (try simp only [V.cnd, ne_eq] at hc10')
           refine CD.skip ?_
           refine CD.seq ?_
           refine CD.seq ?_
           refine CD.region ?_
           refine OD.still (wants_plain rfl) rfl (still_mv rfl ot) ?_
           refine OD.still (wants_plain rfl) rfl (still_un rfl ot un_not) ?_
           refine OD.wk (Wk.as_ (n := 76) (l' := [(12, _), (74, _)]) (S' := [⟨b4, 40, 5, [_, _, _, _, _]⟩]) rfl rfl ⟨lk, lk, trivial⟩) ?_
           refine OD.nil ?_
           refine CD.condF ot (by first | rfl | assumption) ?_
           refine CD.skip ?_
           refine CD.seq ?_
           refine CD.region ?_
           refine OD.still (wants_plain rfl) rfl (still_mv rfl ot) ?_
           refine OD.still (wants_plain rfl) rfl (still_as rfl ot) ?_
           refine OD.still (wants_plain rfl) rfl (still_as rfl opd_const) ?_
           refine OD.wk (Wk.as_ (n := 76) (l' := [(8, _), (9, _)]) (S' := [⟨b4, 40, 5, [_, _, _, _, _]⟩]) rfl rfl ⟨lk, lk, trivial⟩) ?_
           refine OD.nil ?_
           refine CD.ret ?_
           refine ⟨.inr rfl, _, [], List.nil_sublist _, ret_two Tryd.results43 (res_tmp (Nat.le_of_ble_eq_true rfl) lk) (res_tmp (Nat.le_of_ble_eq_true rfl) lk), ?_⟩
           refine ⟨?_, rfl⟩
           unfold madeF okF outF
           simp_all

set_option maxHeartbeats 4000000 in
set_option maxRecDepth 100000 in
theorem kindcl_vc (l : List ColL) (hl : l.length ≤ 1000) (o : OpL) (a b a' b' : Int) (ha : a = a') (hb : b = b') (b2 : Nat) : VC Tryd.prog G 42 [.agg (cO o), .v (.int .i64 a'), .v (.int .i64 b'), .v (.pointer (some ⟨b2, 0, none⟩))] [⟨b2, 30, 1, [.list 2 (l.flatMap cC) l.length]⟩] (fun r S => r = twoI (madeF l o a b) ∧ S = [⟨b2, 30, 1, [.list 2 (l.flatMap cC) l.length]⟩]) := by
 refine VC.body Tryd.func42 rfl Tryd.ntmps42 (Nat.le_of_ble_eq_true rfl) fun X0 w0 S00 => ?_
 subst ha hb
 have hmv := made_vp (G := G) l hl o a b
 unfold cO at hmv ⊢
 unfold twoI at hmv ⊢
 refine CD.seq ?_
 refine CD.region ?_
 refine OD.box (ds := [_, _, _, _, _]) (wants_plain rfl) rfl rfl ot rfl rfl (fun b4 => ?_)
 refine OD.still (wants_plain rfl) rfl (still_as rfl opd_const) ?_
 refine OD.still (wants_plain rfl) rfl (still_as rfl opd_const) ?_
 refine OD.wk (Wk.as_ (n := 16) (l' := [(1, _), (2, _), (3, _), (4, _)]) (S' := [⟨b4, 40, 5, [_, _, _, _, _]⟩, ⟨_, _, _, [_]⟩]) rfl rfl ⟨lk, lk, lk, lk, trivial⟩) ?_
 refine OD.nil ?_
 refine CD.seq ?_
 refine CD.region ?_
 refine OD.still (wants_plain rfl) rfl (still_r1 (mk := Op.load 40) rfl ot (by first | exact ld_blks (k := 0) (ds := [_, _, _, _, _]) rfl rfl Tryd.isAgg40 Tryd.sizeOf40 rfl rfl | exact ld_is (ds := [_, _, _, _, _]) Tryd.isAgg40 Tryd.sizeOf40 rfl rfl)) ?_
 refine OD.still (wants_plain rfl) rfl (still_r1 (mk := Op.load 30) rfl ot (by first | exact ld_blk (k := 1) rfl rfl Tryd.isAgg30 rfl | exact ld_i Tryd.isAgg30 rfl)) ?_
 refine OD.still (wants_plain rfl) rfl (still_mv rfl ot) ?_
 refine OD.still (wants_plain rfl) rfl (still_mv rfl ot) ?_
 refine OD.callP (wants_plain rfl) rfl rfl rfl Tryd.call43 (hmv) ⟨ot, ot, ot, ot, trivial⟩ ?_
 refine OD.still (wants_plain rfl) rfl (still_extract rfl ot rfl) ?_
 refine OD.still (wants_plain rfl) rfl (still_extract rfl ot rfl) ?_
 refine OD.still (wants_plain rfl) rfl (still_as rfl ot) ?_
 refine OD.still (wants_plain rfl) rfl (still_as rfl ot) ?_
 refine OD.wk (Wk.as_ (n := 16) (l' := [(7, _), (8, _)]) (S' := [⟨b4, 40, 5, [_, _, _, _, _]⟩, ⟨_, _, _, [_]⟩]) rfl rfl ⟨lk, lk, trivial⟩) ?_
 refine OD.nil ?_
 refine CD.ret ?_
 refine ⟨.inr rfl, _, [⟨b2, 30, 1, [.list 2 (l.flatMap cC) l.length]⟩], (by repeat (first | exact List.Sublist.refl _ | apply List.Sublist.cons)), ret_two Tryd.results42 (res_tmp (Nat.le_of_ble_eq_true rfl) lk) (res_tmp (Nat.le_of_ble_eq_true rfl) lk), ?_⟩
 exact ⟨rfl, rfl⟩

theorem info3_Ex1 : (Tryd.prog.info? 3).map (fun i => (i.zero, i.size, i.bytes)) = some (some (.int .i64 0), 1, 8) := by kernel_rfl

set_option maxHeartbeats 4000000 in
set_option maxRecDepth 100000 in
theorem foldI_vc (l : List ColL) (hl : l.length ≤ 1000) (ops : List OpL) (h40 : ops.length ≤ 40) (hx : exprL 0 ops = 0) (b2 : Nat) : VC Tryd.prog G 41 [.list 5 (ops.flatMap cO) ops.length, .clo (.func 42) [.v (.pointer (some ⟨b2, 0, none⟩))]] [⟨b2, 30, 1, [.list 2 (l.flatMap cC) l.length]⟩] (fun r S => r = twoI (kindF l ops) ∧ S = [⟨b2, 30, 1, [.list 2 (l.flatMap cC) l.length]⟩]) := by
 refine VC.body Tryd.func41 rfl Tryd.ntmps41 (Nat.le_of_ble_eq_true rfl) fun X0 w0 S00 => ?_
 unfold twoI
 refine CD.seq ?_
 refine CD.region ?_
 refine OD.still (wants_plain rfl) rfl (still_as rfl opd_const) ?_
 refine OD.still (wants_plain rfl) rfl (still_as rfl opd_const) ?_
 refine OD.wk (Wk.as_ (n := 64) (l' := [(0, _), (1, _)]) (S' := [⟨b2, 30, 1, [_]⟩]) rfl rfl ⟨lk, lk, trivial⟩) ?_
 refine OD.nil ?_
 refine CD.seq ?_
 refine CD.region ?_
 refine OD.still (wants_plain rfl) rfl (still_as rfl opd_const) ?_
 refine OD.wk (Wk.as_ (n := 64) (l' := [(0, _), (1, _), (6, _)]) (S' := [⟨b2, 30, 1, [_]⟩]) rfl rfl ⟨lk, lk, lk, trivial⟩) ?_
 refine OD.nil ?_
 refine CD.seq ?_
 refine CD.region ?_
 refine OD.still (wants_plain rfl) rfl (still_as rfl opd_const) ?_
 refine OD.wk (Wk.as_ (n := 64) (l' := [(0, _), (1, _), (6, _), (7, _)]) (S' := (⟨b2, 30, 1, [_]⟩ :: [])) rfl rfl ⟨lk, lk, lk, lk, trivial⟩) ?_
 refine OD.nil ?_
 refine CD.seq ?_
 refine CD.seq ?_
 refine CD.region ?_
 refine OD.still (wants_plain rfl) rfl (still_mv rfl ot) ?_
 refine OD.still (wants_plain rfl) rfl (still_r1 (mk := fun y => .call { callee := .builtin .len, args := #[y], argTypes := #[25] }) rfl ot (by first | exact len_list rfl Tryd.runUnderlying25 | exact len_row rfl Tryd.runUnderlying25)) ?_
 refine OD.still (wants_plain rfl) rfl (still_mv rfl opd_const) ?_
 refine OD.wk (Wk.as_ (n := 64) (l' := [(1, _), (6, _), (7, _), (16, _), (17, _), (18, _)]) (S' := (⟨b2, 30, 1, [_]⟩ :: [])) rfl rfl ⟨lk, lk, lk, lk, lk, lk, trivial⟩) ?_
 refine OD.nil ?_
 refine CD.block ?_
 refine CD.wk (Wk.asS (n := 64) (l' := [(1, .clo (.func 42) [.v (.pointer (some ⟨b2, 0, none⟩))]), (6, .v (.int .i64 0)), (7, .v (.slice none (([])).length (0))), (16, .list 5 (ops.flatMap cO) ops.length), (17, .v (.int .i64 (ops.length : Nat))), (18, .v (.int .i64 ((0) : Nat)))]) (S' := (⟨b2, 30, 1, [.list 2 (l.flatMap cC) l.length]⟩ :: ([]))) rfl (by repeat (first | exact List.Sublist.refl _ | apply List.Sublist.cons_cons | apply List.Sublist.cons)) ⟨(by (repeat (first | exact look_hit | (apply look_at; focus (first | rfl | (simp; done) | (congr 2; omega) | (apply row_eq; rfl) | (apply row_eq; simp; done))) | (apply look_miss; focus rfl))); done), (by (repeat (first | exact look_hit | (apply look_at; focus (first | rfl | (simp; done) | (congr 2; omega) | (apply row_eq; rfl) | (apply row_eq; simp; done))) | (apply look_miss; focus rfl))); done), (by (repeat (first | exact look_hit | (apply look_at; focus (first | rfl | (simp; done) | (congr 2; omega) | (apply row_eq; rfl) | (apply row_eq; simp; done))) | (apply look_miss; focus rfl))); done), (by (repeat (first | exact look_hit | (apply look_at; focus (first | rfl | (simp; done) | (congr 2; omega) | (apply row_eq; rfl) | (apply row_eq; simp; done))) | (apply look_miss; focus rfl))); done), (by (repeat (first | exact look_hit | (apply look_at; focus (first | rfl | (simp; done) | (congr 2; omega) | (apply row_eq; rfl) | (apply row_eq; simp; done))) | (apply look_miss; focus rfl))); done), (by (repeat (first | exact look_hit | (apply look_at; focus (first | rfl | (simp; done) | (congr 2; omega) | (apply row_eq; rfl) | (apply row_eq; simp; done))) | (apply look_miss; focus rfl))); done), trivial⟩) (CD.loop (fun (gh__ : Nat × List Int × Option Addr × Nat × List Blk) y__ => match gh__ with | (i, st, adh, cph, Sh) => (i ≤ ops.length) ∧ (st.length ≤ i) ∧ (exprL ((st.length : Nat) : Int) (ops.drop i) = 0) ∧ (kindF l ops = foldG 0 (madeF l) (ops.drop i) st) ∧ (OwnL 3 1 ((st).flatMap cI) (st).length adh cph Sh) ∧ y__ = (⟨64, [(1, .clo (.func 42) [.v (.pointer (some ⟨b2, 0, none⟩))]), (6, .v (.int .i64 0)), (7, .v (.slice adh (st).length cph)), (16, .list 5 (ops.flatMap cO) ops.length), (17, .v (.int .i64 (ops.length : Nat))), (18, .v (.int .i64 (i : Nat)))], (⟨b2, 30, 1, [.list 2 (l.flatMap cC) l.length]⟩ :: Sh)⟩ : St)) (fun (gh__ : Nat × List Int × Option Addr × Nat × List Blk) => match gh__ with | (i, st, adh, cph, Sh) => ops.length - i) (0, [], none, 0, []) ⟨(Nat.zero_le _), (Nat.zero_le _), hx, rfl, (OwnL.cast ownL_nil (by first | rfl | simp)), rfl⟩ ?_)
 rintro ⟨i, st, adh, cph, Sh⟩ _ ⟨hi, hst, hex, hinv, hoh, rfl⟩
 refine CD.seq ?_
 refine CD.region ?_
 refine OD.still (wants_plain rfl) rfl (still_bin rfl ot ot bin_lss) ?_
 refine OD.wk (Wk.as_ (n := 64) (l' := [(1, _), (6, _), (7, _), (16, _), (17, _), (18, _), (19, _)]) (S' := (⟨b2, 30, 1, [_]⟩ :: Sh)) rfl rfl ⟨lk, lk, lk, lk, lk, lk, lk, trivial⟩) ?_
 refine OD.nil ?_
 refine CD.seq ?_
 refine CD.cond ot (fun hc0 => ?_) (fun hc0 => ?_)
 ·have hc0' := hc0
  (try simp only [V.cnd, ne_eq] at hc0')
  have hlt : i < ops.length := by omega
  obtain ⟨he, hen⟩ := expr_next hlt hex
  obtain ⟨hpo, hk11, hlz, hnm⟩ := err_pops he
  have hpb := pops_bd ops[i].k
  have hnl : (st.take (st.length - (popsF ops[i].k).toNat) ++ [(madeF l ops[i] (argA 0 ops[i].k st) (argB 0 ops[i].k st)).1]).length = st.length + 1 - (popsF ops[i].k).toNat := by rw [List.length_append, List.length_take, List.length_singleton]; omega
  have hnx : exprL (((st.take (st.length - (popsF ops[i].k).toNat) ++ [(madeF l ops[i] (argA 0 ops[i].k st) (argB 0 ops[i].k st)).1]).length : Nat) : Int) (ops.drop (i + 1)) = 0 := by rw [hnl, show (((st.length + 1 - (popsF ops[i].k).toNat : Nat)) : Int) = (st.length : Int) + (1 - popsF ops[i].k) by omega]; exact hen
  refine CD.skip ?_
  refine CD.seq ?_
  refine CD.block ?_
  refine CD.seq ?_
  refine CD.region ?_
  refine OD.still (wants_plain rfl) rfl (still_r2 (mk := Op.indexAddr 25) rfl ot ot (by first | exact ix_list Tryd.runUnderlying25 Tryd.sizeOf40 rfl (by first | assumption | omega) | exact ix_list (j := Int.toNat _) Tryd.runUnderlying25 Tryd.sizeOf40 (Int.toNat_of_nonneg (by omega)).symm (by omega) | exact ix_row Tryd.runUnderlying25 Tryd.sizeOf40 rfl (by first | assumption | omega) | exact ix_row (j := Int.toNat _) Tryd.runUnderlying25 Tryd.sizeOf40 (Int.toNat_of_nonneg (by omega)).symm (by omega))) ?_
  refine OD.still (wants_plain rfl) rfl (still_r1 (mk := Op.load 40) rfl ot (by first | exact ld_blks (k := 0) (ds := [_, _, _, _, _]) rfl rfl Tryd.isAgg40 Tryd.sizeOf40 rfl rfl | exact ld_fms cO_len Tryd.isAgg40 Tryd.sizeOf40 (by first | assumption | omega) | exact ld_fms cI_len Tryd.isAgg40 Tryd.sizeOf40 (by first | assumption | omega) | exact ld_rows (k := 0) cO_len rfl rfl rfl Tryd.isAgg40 Tryd.sizeOf40 (by first | assumption | omega) | exact ld_rows (k := 0) cI_len rfl rfl rfl Tryd.isAgg40 Tryd.sizeOf40 (by first | assumption | omega) | exact ld_is (ds := [_, _, _, _, _]) Tryd.isAgg40 Tryd.sizeOf40 rfl rfl)) ?_
  refine OD.alloc (ds := [_, _, _, _, _]) (wants_plain rfl) rfl rfl Tryd.zeroValue40 rfl (fun b9 => ?_)
  refine OD.store (k := 0) (cs' := [_, _, _, _, _]) (wants_plain rfl) rfl rfl ot rfl rfl ot rfl rfl Tryd.sizeOf40 rfl rfl rfl ?_
  refine OD.wk (Wk.as_ (n := 64) (l' := [(1, _), (6, _), (7, _), (9, _), (16, _), (17, _), (18, _)]) (S' := (⟨b9, 40, 5, [_, _, _, _, _]⟩ :: ⟨b2, 30, 1, [_]⟩ :: Sh)) rfl rfl ⟨lk, lk, lk, lk, lk, lk, lk, trivial⟩) ?_
  refine OD.nil ?_
  refine CD.seq ?_
  refine CD.region ?_
  refine OD.still (wants_plain rfl) rfl (still_as rfl opd_const) ?_
  refine OD.still (wants_plain rfl) rfl (still_as rfl opd_const) ?_
  refine OD.wk (Wk.as_ (n := 64) (l' := [(1, _), (6, _), (7, _), (9, _), (10, _), (11, _), (16, _), (17, _), (18, _)]) (S' := (⟨b9, 40, 5, [_, _, _, _, _]⟩ :: ⟨b2, 30, 1, [_]⟩ :: Sh)) rfl rfl ⟨lk, lk, lk, lk, lk, lk, lk, lk, lk, trivial⟩) ?_
  refine OD.nil ?_
  refine CD.seq ?_
  refine CD.region ?_
  refine OD.still (wants_plain rfl) rfl (still_r1 (mk := fun y => Op.fieldAddr 40 y 0) rfl ot (by first | exact fa_ptr (off := 0) Tryd.runUnderlying40 rfl Tryd.sizeOf3 rfl | exact fa_iptr (off := 0) Tryd.runUnderlying40 rfl Tryd.sizeOf3 rfl)) ?_
  refine OD.still (wants_plain rfl) rfl (still_r1 (mk := Op.load 3) rfl ot (by first | exact ld_blk (k := 0) rfl rfl Tryd.isAgg3 rfl | exact ld_fm cO_len Tryd.isAgg3 (by first | assumption | omega) rfl | exact ld_fm0 cO_len Tryd.isAgg3 (by first | assumption | omega) rfl | exact ld_fm cI_len Tryd.isAgg3 (by first | assumption | omega) rfl | exact ld_fm0 cI_len Tryd.isAgg3 (by first | assumption | omega) rfl | exact ld_row (k := 0) cO_len rfl rfl rfl Tryd.isAgg3 (by first | assumption | omega) rfl | exact ld_row0 (k := 0) cO_len rfl rfl rfl Tryd.isAgg3 (by first | assumption | omega) rfl | exact ld_row (k := 1) cO_len rfl rfl rfl Tryd.isAgg3 (by first | assumption | omega) rfl | exact ld_row0 (k := 1) cO_len rfl rfl rfl Tryd.isAgg3 (by first | assumption | omega) rfl | exact ld_row (k := 0) cI_len rfl rfl rfl Tryd.isAgg3 (by first | assumption | omega) rfl | exact ld_row0 (k := 0) cI_len rfl rfl rfl Tryd.isAgg3 (by first | assumption | omega) rfl | exact ld_row (k := 1) cI_len rfl rfl rfl Tryd.isAgg3 (by first | assumption | omega) rfl | exact ld_row0 (k := 1) cI_len rfl rfl rfl Tryd.isAgg3 (by first | assumption | omega) rfl | exact ld_i Tryd.isAgg3 rfl)) ?_
  refine OD.callP (wants_plain rfl) rfl rfl rfl Tryd.call46 (works_vp ops[i].k) ⟨ot, trivial⟩ ?_
  refine OD.still (wants_plain rfl) rfl (still_as rfl ot) ?_
  refine OD.wk (Wk.as_ (n := 64) (l' := [(1, _), (6, _), (7, _), (9, _), (10, _), (11, _), (12, _), (16, _), (17, _), (18, _)]) (S' := (⟨b9, 40, 5, [_, _, _, _, _]⟩ :: ⟨b2, 30, 1, [_]⟩ :: Sh)) rfl rfl ⟨lk, lk, lk, lk, lk, lk, lk, lk, lk, lk, trivial⟩) ?_
  refine OD.nil ?_
  refine CD.seq ?_
  refine CD.region ?_
  refine OD.still (wants_plain rfl) rfl (still_mv rfl ot) ?_
  refine OD.still (wants_plain rfl) rfl (still_r1 (mk := fun y => .call { callee := .builtin .len, args := #[y], argTypes := #[41] }) rfl ot (by first | exact len_list rfl Tryd.runUnderlying41 | exact len_row rfl Tryd.runUnderlying41)) ?_
  refine OD.still (wants_plain rfl) rfl (still_mv rfl ot) ?_
  refine OD.still (wants_plain rfl) rfl (still_bin rfl ot ot (bin_sub (wrap_i64 (by omega) (by omega)))) ?_
  refine OD.still (wants_plain rfl) rfl (still_as rfl ot) ?_
  refine OD.wk (Wk.as_ (n := 64) (l' := [(1, _), (6, _), (7, _), (9, _), (10, _), (11, _), (12, _), (13, _), (16, _), (17, _), (18, _)]) (S' := (⟨b9, 40, 5, [_, _, _, _, _]⟩ :: ⟨b2, 30, 1, [_]⟩ :: Sh)) rfl rfl ⟨lk, lk, lk, lk, lk, lk, lk, lk, lk, lk, lk, trivial⟩) ?_
  refine OD.nil ?_
  refine CD.seq ?_
  refine CD.seq ?_
  refine CD.region ?_
  refine OD.still (wants_plain rfl) rfl (still_mv rfl ot) ?_
  refine OD.still (wants_plain rfl) rfl (still_bin rfl ot opd_const bin_gtr) ?_
  refine OD.wk (Wk.as_ (n := 64) (l' := [(1, _), (6, _), (7, _), (9, _), (10, _), (11, _), (12, _), (13, _), (16, _), (17, _), (18, _), (30, _)]) (S' := (⟨b9, 40, 5, [_, _, _, _, _]⟩ :: ⟨b2, 30, 1, [_]⟩ :: Sh)) rfl rfl ⟨lk, lk, lk, lk, lk, lk, lk, lk, lk, lk, lk, lk, trivial⟩) ?_
  refine OD.nil ?_
  refine CD.cond ot (fun hc1 => ?_) (fun hc1 => ?_)
  ·have hc1' := hc1
   (try simp only [V.cnd, ne_eq] at hc1')
   obtain ⟨bh, rfl, hhle, hhcap, rfl⟩ := hoh.pos (by omega)
   have hat : (st.length - (popsF ops[i].k).toNat) < st.length := by omega
   have ha : argA 0 ops[i].k st = st[(st.length - (popsF ops[i].k).toNat)] := by unfold argA; rw [if_pos (by omega), List.getD_eq_getElem?_getD, List.getElem?_eq_getElem hat]; rfl
   refine CD.region ?_
   refine OD.still (wants_plain rfl) rfl (still_mv rfl ot) ?_
   refine OD.still (wants_plain rfl) rfl (still_mv rfl ot) ?_
   refine OD.still (wants_plain rfl) rfl (still_r2 (mk := Op.indexAddr 41) rfl ot ot (by first | exact ix_list Tryd.runUnderlying41 Tryd.sizeOf3 (j := (st.length - (popsF ops[i].k).toNat)) (by omega) (by omega) | exact ix_row Tryd.runUnderlying41 Tryd.sizeOf3 (j := (st.length - (popsF ops[i].k).toNat)) (by omega) (by omega))) ?_
   refine OD.still (wants_plain rfl) rfl (still_r1 (mk := Op.load 3) rfl ot (ld_row0 (k := 2) cI_len rfl rfl rfl Tryd.isAgg3 hat rfl)) ?_
   refine OD.still (wants_plain rfl) rfl (still_as rfl ot) ?_
   refine OD.wk (Wk.as_ (n := 64) (l' := [(1, _), (6, _), (7, _), (9, _), (10, _), (11, _), (12, _), (13, _), (16, _), (17, _), (18, _)]) (S' := (⟨b9, 40, 5, [_, _, _, _, _]⟩ :: ⟨b2, 30, 1, [_]⟩ :: [⟨bh, 3, cph * 1, List.flatMap cI st⟩])) rfl rfl ⟨lk, lk, lk, lk, lk, lk, lk, lk, lk, lk, lk, trivial⟩) ?_
   refine OD.nil ?_
   refine CD.seq ?_
   refine CD.seq ?_
   refine CD.region ?_
   refine OD.still (wants_plain rfl) rfl (still_mv rfl ot) ?_
   refine OD.still (wants_plain rfl) rfl (still_bin rfl ot opd_const bin_gtr) ?_
   refine OD.wk (Wk.as_ (n := 64) (l' := [(1, _), (6, _), (7, _), (9, _), (10, _), (11, _), (13, _), (16, _), (17, _), (18, _), (36, _)]) (S' := (⟨b9, 40, 5, [_, _, _, _, _]⟩ :: ⟨b2, 30, 1, [_]⟩ :: [⟨bh, 3, cph * 1, List.flatMap cI st⟩])) rfl rfl ⟨lk, lk, lk, lk, lk, lk, lk, lk, lk, lk, lk, trivial⟩) ?_
   refine OD.nil ?_
   refine CD.cond ot (fun hc2 => ?_) (fun hc2 => ?_)
   ·have hc2' := hc2
    (try simp only [V.cnd, ne_eq] at hc2')
    have hat1 : (st.length - (popsF ops[i].k).toNat) + 1 < st.length := by omega
    have hb : argB 0 ops[i].k st = st[(st.length - (popsF ops[i].k).toNat) + 1] := by unfold argB; rw [if_pos (by omega), List.getD_eq_getElem?_getD, List.getElem?_eq_getElem hat1]; rfl
    refine CD.region ?_
    refine OD.still (wants_plain rfl) rfl (still_mv rfl ot) ?_
    refine OD.still (wants_plain rfl) rfl (still_mv rfl ot) ?_
    refine OD.still (wants_plain rfl) rfl (still_bin rfl ot opd_const (bin_add (wrap_i64 (by omega) (by omega)))) ?_
    refine OD.still (wants_plain rfl) rfl (still_r2 (mk := Op.indexAddr 41) rfl ot ot (by first | exact ix_list Tryd.runUnderlying41 Tryd.sizeOf3 (j := (st.length - (popsF ops[i].k).toNat) + 1) (by omega) (by omega) | exact ix_row Tryd.runUnderlying41 Tryd.sizeOf3 (j := (st.length - (popsF ops[i].k).toNat) + 1) (by omega) (by omega))) ?_
    refine OD.still (wants_plain rfl) rfl (still_r1 (mk := Op.load 3) rfl ot (ld_row0 (k := 2) cI_len rfl rfl rfl Tryd.isAgg3 hat1 rfl)) ?_
    refine OD.still (wants_plain rfl) rfl (still_as rfl ot) ?_
    refine OD.wk (Wk.as_ (n := 64) (l' := [(1, _), (6, _), (7, _), (9, _), (10, _), (11, _), (13, _), (16, _), (17, _), (18, _)]) (S' := (⟨b9, 40, 5, [_, _, _, _, _]⟩ :: ⟨b2, 30, 1, [_]⟩ :: [⟨bh, 3, cph * 1, List.flatMap cI st⟩])) rfl rfl ⟨lk, lk, lk, lk, lk, lk, lk, lk, lk, lk, trivial⟩) ?_
    refine OD.nil ?_
    refine CD.seq ?_
    refine CD.region ?_
    refine OD.still (wants_plain rfl) rfl (still_mv rfl ot) ?_
    refine OD.still (wants_plain rfl) rfl (still_r1 (mk := Op.load 40) rfl ot (by first | exact ld_blks (k := 0) (ds := [_, _, _, _, _]) rfl rfl Tryd.isAgg40 Tryd.sizeOf40 rfl rfl | exact ld_fms cO_len Tryd.isAgg40 Tryd.sizeOf40 (by first | assumption | omega) | exact ld_fms cI_len Tryd.isAgg40 Tryd.sizeOf40 (by first | assumption | omega) | exact ld_rows (k := 0) cO_len rfl rfl rfl Tryd.isAgg40 Tryd.sizeOf40 (by first | assumption | omega) | exact ld_rows (k := 1) cO_len rfl rfl rfl Tryd.isAgg40 Tryd.sizeOf40 (by first | assumption | omega) | exact ld_rows (k := 0) cI_len rfl rfl rfl Tryd.isAgg40 Tryd.sizeOf40 (by first | assumption | omega) | exact ld_rows (k := 1) cI_len rfl rfl rfl Tryd.isAgg40 Tryd.sizeOf40 (by first | assumption | omega) | exact ld_is (ds := [_, _, _, _, _]) Tryd.isAgg40 Tryd.sizeOf40 rfl rfl)) ?_
    refine OD.still (wants_plain rfl) rfl (still_mv rfl ot) ?_
    refine OD.still (wants_plain rfl) rfl (still_mv rfl ot) ?_
    refine OD.callv (f := 42) (args := [_, _, _]) (all := [_, _, _, _]) (Sf := [⟨b2, 30, 1, [.list 2 (l.flatMap cC) l.length]⟩]) (wants_plain rfl) rfl rfl ot Tryd.call42 (kindcl_vc l hl ops[i] _ _ _ _ ha hb b2) rfl ⟨ot, ot, ot, trivial⟩ (perm_one (k := 1) rfl) ?_
    rintro _ _ ⟨rfl, rfl⟩
    refine OD.still (wants_plain rfl) rfl (still_mv rfl ot) ?_
    refine OD.still (wants_plain rfl) rfl (still_extract rfl ot rfl) ?_
    refine OD.still (wants_plain rfl) rfl (still_extract rfl ot rfl) ?_
    refine OD.still (wants_plain rfl) rfl (still_as rfl ot) ?_
    refine OD.still (wants_plain rfl) rfl (still_as rfl ot) ?_
    refine OD.wk (Wk.as_ (n := 64) (l' := [(1, _), (6, _), (7, _), (13, _), (14, _), (15, _), (16, _), (17, _), (18, _)]) (S' := (⟨b2, 30, 1, [_]⟩ :: ⟨b9, 40, 5, [_, _, _, _, _]⟩ :: [⟨bh, 3, cph * 1, List.flatMap cI st⟩])) rfl rfl ⟨lk, lk, lk, lk, lk, lk, lk, lk, lk, trivial⟩) ?_
    refine OD.nil ?_
    refine CD.seq ?_
    refine CD.seq ?_
    refine CD.region ?_
    refine OD.still (wants_plain rfl) rfl (still_mv rfl ot) ?_
    refine OD.still (wants_plain rfl) rfl (still_bin rfl ot opd_const bin_neq) ?_
    refine OD.wk (Wk.as_ (n := 64) (l' := [(1, _), (6, _), (7, _), (13, _), (14, _), (15, _), (16, _), (17, _), (18, _), (51, _)]) (S' := (⟨b2, 30, 1, [_]⟩ :: ⟨b9, 40, 5, [_, _, _, _, _]⟩ :: [⟨bh, 3, cph * 1, List.flatMap cI st⟩])) rfl rfl ⟨lk, lk, lk, lk, lk, lk, lk, lk, lk, lk, trivial⟩) ?_
    refine OD.nil ?_
    refine CD.cond ot (fun hc3 => ?_) (fun hc3 => ?_)
    ·have hc3' := hc3
     (try simp only [V.cnd, ne_eq] at hc3')
     have hz : (madeF l ops[i] (argA 0 ops[i].k st) (argB 0 ops[i].k st)).2 ≠ 0 := by simpa using hc3
     have hres := hinv.trans (fold_no hlt hz)
     refine CD.seq ?_
     refine CD.region ?_
     refine OD.still (wants_plain rfl) rfl (still_mv rfl ot) ?_
     refine OD.still (wants_plain rfl) rfl (still_mv rfl ot) ?_
     refine OD.still (wants_plain rfl) rfl (still_as rfl ot) ?_
     refine OD.still (wants_plain rfl) rfl (still_as rfl ot) ?_
     refine OD.wk (Wk.as_ (n := 64) (l' := [(4, _), (5, _)]) (S' := (⟨b2, 30, 1, [_]⟩ :: ⟨b9, 40, 5, [_, _, _, _, _]⟩ :: [⟨bh, 3, cph * 1, List.flatMap cI st⟩])) rfl rfl ⟨lk, lk, trivial⟩) ?_
     refine OD.nil ?_
     refine CD.ret ?_
     refine ⟨.inr rfl, _, [⟨b2, 30, 1, [.list 2 (l.flatMap cC) l.length]⟩], (by repeat (first | exact List.Sublist.refl _ | exact List.nil_sublist _ | apply List.Sublist.cons_cons | apply List.Sublist.cons)), ret_two Tryd.results41 (res_tmp (Nat.le_of_ble_eq_true rfl) lk) (res_tmp (Nat.le_of_ble_eq_true rfl) lk), ?_⟩
     rw [hres]; exact ⟨rfl, rfl⟩
    ·have hc3' := hc3
     (try simp only [V.cnd, ne_eq] at hc3')
     have hz : (madeF l ops[i] (argA 0 ops[i].k st) (argB 0 ops[i].k st)).2 = 0 := by simpa using hc3
     refine CD.skip ?_
     refine CD.cutL (k := (st.length - (popsF ops[i].k).toNat)) (ls := (st)) (Sq := [⟨bh, 3, cph * 1, List.flatMap cI st⟩]) cI_len (by omega) (ownL_row (g := cI) (ls := st) hhle hhcap) (perm_r11 (A := [_, _])) (fun Sc16 hoc16 => ?_)
     refine CD.perm (perm_q11 (A := [_, _])) ?_
     refine CD.region ?_
     refine OD.still (wants_plain rfl) rfl (still_mv rfl ot) ?_
     refine OD.still (wants_plain rfl) rfl (still_mv rfl ot) ?_
     first | refine OD.still (wants_plain rfl) rfl (still_oslice (n := st.length) (k := (List.take (st.length - (popsF ops[i].k).toNat) st).length) (cs := st.flatMap cI) rfl ot rfl ⟨_, _, ot, by rw [List.length_take]; omega⟩ Tryd.runUnderlying41 Tryd.sizeOf3 (by rw [List.length_take]; omega) hoh) ?_ | refine OD.still (wants_plain rfl) rfl (still_oslice (n := st.length) (k := (List.take (st.length - (popsF ops[i].k).toNat) st).length) (cs := st.flatMap cI) rfl ot rfl ⟨_, _, ot, by rw [List.length_take]; omega⟩ Tryd.runUnderlying41 Tryd.sizeOf3 (by rw [List.length_take]; omega) (ownL_row (e := 3) (g := cI) (ls := st) hhle hhcap)) ?_
     refine OD.still (wants_plain rfl) rfl (still_mv rfl ot) ?_
     refine OD.bldS (pl := numD 0 [_]) (zvs := [.int .i64 0]) (ds := [_]) (wants_plain rfl) rfl rfl Tryd.zeroValue3 Tryd.runUnderlying41 Tryd.sizeOf3 rfl rfl (by kernel_rfl) ⟨rfl, ot, trivial⟩ (by exact rfl) (fill_full (by exact rfl) (by exact rfl) (by exact rfl)) (fun b58 => ?_)
     refine OD.give (k := 0) (t := 58) (sz := 1) (m := 1) rfl lk rfl rfl rfl (Nat.le_refl _) (by decide) ?_
     refine OD.appendG (ls := (List.take (st.length - (popsF ops[i].k).toNat) (st))) (new := [(madeF l ops[i] (argA 0 ops[i].k st) (argB 0 ops[i].k st)).1]) (Sq := Sc16) cI_len cI_one (wants_plain rfl) rfl rfl Tryd.underlying41 info3_Ex1 rfl (by decide) ot hoc16 (perm_r11 (A := [_, _])) ot (by simp) (by simp [maxLen]; omega) (by simp; omega) (fun b59 cp59 h159 h259 => ?_)
     refine OD.perm (perm_q11 (S1 := [⟨b59, 3, cp59 * 1, List.flatMap cI ((List.take (st.length - (popsF ops[i].k).toNat) (st)) ++ [(madeF l ops[i] (argA 0 ops[i].k st) (argB 0 ops[i].k st)).1])⟩]) (A := [_, _])) ?_
     refine OD.still (wants_plain rfl) rfl (still_as rfl ot) ?_
     refine OD.wk (Wk.as_ (n := 64) (l' := [(1, _), (6, _), (7, _), (16, _), (17, _), (18, _)]) (S' := (⟨b2, 30, 1, [_]⟩ :: ⟨b9, 40, 5, [_, _, _, _, _]⟩ :: [⟨b59, 3, cp59 * 1, List.flatMap cI ((List.take (st.length - (popsF ops[i].k).toNat) (st)) ++ [(madeF l ops[i] (argA 0 ops[i].k st) (argB 0 ops[i].k st)).1])⟩])) rfl rfl ⟨lk, lk, lk, lk, lk, lk, trivial⟩) ?_
     refine OD.nil ?_
     refine CD.region ?_
     refine OD.still (wants_plain rfl) rfl (still_bin rfl ot opd_const (bin_add (wrap_i64 (by omega) (by omega)))) ?_
     refine OD.still (wants_plain rfl) rfl (still_mv rfl ot) ?_
     refine OD.wk (Wk.as_ (n := 64) (l' := [(1, _), (6, _), (7, _), (16, _), (17, _), (18, _)]) (S' := (⟨b2, 30, 1, [_]⟩ :: ⟨b9, 40, 5, [_, _, _, _, _]⟩ :: [⟨b59, 3, cp59 * 1, List.flatMap cI ((List.take (st.length - (popsF ops[i].k).toNat) (st)) ++ [(madeF l ops[i] (argA 0 ops[i].k st) (argB 0 ops[i].k st)).1])⟩])) rfl rfl ⟨lk, lk, lk, lk, lk, lk, trivial⟩) ?_
     refine OD.nil ?_
     refine ⟨((i + 1), (st.take (st.length - (popsF ops[i].k).toNat) ++ [(madeF l ops[i] (argA 0 ops[i].k st) (argB 0 ops[i].k st)).1]), (some ⟨b59, 0, none⟩), cp59, [⟨b59, 3, cp59 * 1, List.flatMap cI ((List.take (st.length - (popsF ops[i].k).toNat) (st)) ++ [(madeF l ops[i] (argA 0 ops[i].k st) (argB 0 ops[i].k st)).1])⟩]), ⟨64, [(1, .clo (.func 42) [.v (.pointer (some ⟨b2, 0, none⟩))]), (6, .v (.int .i64 0)), (7, .v (.slice ((some ⟨b59, 0, none⟩)) (((st.take (st.length - (popsF ops[i].k).toNat) ++ [(madeF l ops[i] (argA 0 ops[i].k st) (argB 0 ops[i].k st)).1]))).length cp59)), (16, .list 5 (ops.flatMap cO) ops.length), (17, .v (.int .i64 (ops.length : Nat))), (18, .v (.int .i64 (((i + 1)) : Nat)))], (⟨b2, 30, 1, [.list 2 (l.flatMap cC) l.length]⟩ :: ([⟨b59, 3, cp59 * 1, List.flatMap cI ((List.take (st.length - (popsF ops[i].k).toNat) (st)) ++ [(madeF l ops[i] (argA 0 ops[i].k st) (argB 0 ops[i].k st)).1])⟩]))⟩, ?_, Wk.asS (n := 64) rfl (by repeat (first | exact List.Sublist.refl _ | apply List.Sublist.cons_cons | apply List.Sublist.cons)) ⟨(by (repeat (first | exact look_hit | (apply look_at; focus (first | rfl | (simp; done) | (congr 2; omega) | (apply row_eq; rfl) | (apply row_eq; simp; done))) | (apply look_miss; focus rfl))); done), (by (repeat (first | exact look_hit | (apply look_at; focus (first | rfl | (simp; done) | (congr 2; omega) | (apply row_eq; rfl) | (apply row_eq; simp; done))) | (apply look_miss; focus rfl))); done), (by (repeat (first | exact look_hit | (apply look_at; focus (first | rfl | (simp; done) | (congr 2; omega) | (apply row_eq; rfl) | (apply row_eq; simp; done))) | (apply look_miss; focus rfl))); done), (by (repeat (first | exact look_hit | (apply look_at; focus (first | rfl | (simp; done) | (congr 2; omega) | (apply row_eq; rfl) | (apply row_eq; simp; done))) | (apply look_miss; focus rfl))); done), (by (repeat (first | exact look_hit | (apply look_at; focus (first | rfl | (simp; done) | (congr 2; omega) | (apply row_eq; rfl) | (apply row_eq; simp; done))) | (apply look_miss; focus rfl))); done), (by (repeat (first | exact look_hit | (apply look_at; focus (first | rfl | (simp; done) | (congr 2; omega) | (apply row_eq; rfl) | (apply row_eq; simp; done))) | (apply look_miss; focus rfl))); done), trivial⟩, (by omega), (by rw [hnl]; omega), hnx, (hinv.trans (fold_go hlt hz)), (OwnL.cast (ownL_row h159 h259) (by rfl)), rfl⟩
     first | omega | (simp only []; omega)
   ·have hc2' := hc2
    (try simp only [V.cnd, ne_eq] at hc2')
    have hb : argB 0 ops[i].k st = 0 := by unfold argB; rw [if_neg (by omega)]
    refine CD.skip ?_
    refine CD.seq ?_
    refine CD.region ?_
    refine OD.still (wants_plain rfl) rfl (still_mv rfl ot) ?_
    refine OD.still (wants_plain rfl) rfl (still_r1 (mk := Op.load 40) rfl ot (by first | exact ld_blks (k := 0) (ds := [_, _, _, _, _]) rfl rfl Tryd.isAgg40 Tryd.sizeOf40 rfl rfl | exact ld_fms cO_len Tryd.isAgg40 Tryd.sizeOf40 (by first | assumption | omega) | exact ld_fms cI_len Tryd.isAgg40 Tryd.sizeOf40 (by first | assumption | omega) | exact ld_rows (k := 0) cO_len rfl rfl rfl Tryd.isAgg40 Tryd.sizeOf40 (by first | assumption | omega) | exact ld_rows (k := 1) cO_len rfl rfl rfl Tryd.isAgg40 Tryd.sizeOf40 (by first | assumption | omega) | exact ld_rows (k := 0) cI_len rfl rfl rfl Tryd.isAgg40 Tryd.sizeOf40 (by first | assumption | omega) | exact ld_rows (k := 1) cI_len rfl rfl rfl Tryd.isAgg40 Tryd.sizeOf40 (by first | assumption | omega) | exact ld_is (ds := [_, _, _, _, _]) Tryd.isAgg40 Tryd.sizeOf40 rfl rfl)) ?_
    refine OD.still (wants_plain rfl) rfl (still_mv rfl ot) ?_
    refine OD.still (wants_plain rfl) rfl (still_mv rfl ot) ?_
    refine OD.callv (f := 42) (args := [_, _, _]) (all := [_, _, _, _]) (Sf := [⟨b2, 30, 1, [.list 2 (l.flatMap cC) l.length]⟩]) (wants_plain rfl) rfl rfl ot Tryd.call42 (kindcl_vc l hl ops[i] _ _ _ _ ha hb b2) rfl ⟨ot, ot, ot, trivial⟩ (perm_one (k := 1) rfl) ?_
    rintro _ _ ⟨rfl, rfl⟩
    refine OD.still (wants_plain rfl) rfl (still_mv rfl ot) ?_
    refine OD.still (wants_plain rfl) rfl (still_extract rfl ot rfl) ?_
    refine OD.still (wants_plain rfl) rfl (still_extract rfl ot rfl) ?_
    refine OD.still (wants_plain rfl) rfl (still_as rfl ot) ?_
    refine OD.still (wants_plain rfl) rfl (still_as rfl ot) ?_
    refine OD.wk (Wk.as_ (n := 64) (l' := [(1, _), (6, _), (7, _), (13, _), (14, _), (15, _), (16, _), (17, _), (18, _)]) (S' := (⟨b2, 30, 1, [_]⟩ :: ⟨b9, 40, 5, [_, _, _, _, _]⟩ :: [⟨bh, 3, cph * 1, List.flatMap cI st⟩])) rfl rfl ⟨lk, lk, lk, lk, lk, lk, lk, lk, lk, trivial⟩) ?_
    refine OD.nil ?_
    refine CD.seq ?_
    refine CD.seq ?_
    refine CD.region ?_
    refine OD.still (wants_plain rfl) rfl (still_mv rfl ot) ?_
    refine OD.still (wants_plain rfl) rfl (still_bin rfl ot opd_const bin_neq) ?_
    refine OD.wk (Wk.as_ (n := 64) (l' := [(1, _), (6, _), (7, _), (13, _), (14, _), (15, _), (16, _), (17, _), (18, _), (51, _)]) (S' := (⟨b2, 30, 1, [_]⟩ :: ⟨b9, 40, 5, [_, _, _, _, _]⟩ :: [⟨bh, 3, cph * 1, List.flatMap cI st⟩])) rfl rfl ⟨lk, lk, lk, lk, lk, lk, lk, lk, lk, lk, trivial⟩) ?_
    refine OD.nil ?_
    refine CD.cond ot (fun hc3 => ?_) (fun hc3 => ?_)
    ·have hc3' := hc3
     (try simp only [V.cnd, ne_eq] at hc3')
     have hz : (madeF l ops[i] (argA 0 ops[i].k st) (argB 0 ops[i].k st)).2 ≠ 0 := by simpa using hc3
     have hres := hinv.trans (fold_no hlt hz)
     refine CD.seq ?_
     refine CD.region ?_
     refine OD.still (wants_plain rfl) rfl (still_mv rfl ot) ?_
     refine OD.still (wants_plain rfl) rfl (still_mv rfl ot) ?_
     refine OD.still (wants_plain rfl) rfl (still_as rfl ot) ?_
     refine OD.still (wants_plain rfl) rfl (still_as rfl ot) ?_
     refine OD.wk (Wk.as_ (n := 64) (l' := [(4, _), (5, _)]) (S' := (⟨b2, 30, 1, [_]⟩ :: ⟨b9, 40, 5, [_, _, _, _, _]⟩ :: [⟨bh, 3, cph * 1, List.flatMap cI st⟩])) rfl rfl ⟨lk, lk, trivial⟩) ?_
     refine OD.nil ?_
     refine CD.ret ?_
     refine ⟨.inr rfl, _, [⟨b2, 30, 1, [.list 2 (l.flatMap cC) l.length]⟩], (by repeat (first | exact List.Sublist.refl _ | exact List.nil_sublist _ | apply List.Sublist.cons_cons | apply List.Sublist.cons)), ret_two Tryd.results41 (res_tmp (Nat.le_of_ble_eq_true rfl) lk) (res_tmp (Nat.le_of_ble_eq_true rfl) lk), ?_⟩
     rw [hres]; exact ⟨rfl, rfl⟩
    ·have hc3' := hc3
     (try simp only [V.cnd, ne_eq] at hc3')
     have hz : (madeF l ops[i] (argA 0 ops[i].k st) (argB 0 ops[i].k st)).2 = 0 := by simpa using hc3
     refine CD.skip ?_
     refine CD.cutL (k := (st.length - (popsF ops[i].k).toNat)) (ls := (st)) (Sq := [⟨bh, 3, cph * 1, List.flatMap cI st⟩]) cI_len (by omega) (ownL_row (g := cI) (ls := st) hhle hhcap) (perm_r11 (A := [_, _])) (fun Sc16 hoc16 => ?_)
     refine CD.perm (perm_q11 (A := [_, _])) ?_
     refine CD.region ?_
     refine OD.still (wants_plain rfl) rfl (still_mv rfl ot) ?_
     refine OD.still (wants_plain rfl) rfl (still_mv rfl ot) ?_
     first | refine OD.still (wants_plain rfl) rfl (still_oslice (n := st.length) (k := (List.take (st.length - (popsF ops[i].k).toNat) st).length) (cs := st.flatMap cI) rfl ot rfl ⟨_, _, ot, by rw [List.length_take]; omega⟩ Tryd.runUnderlying41 Tryd.sizeOf3 (by rw [List.length_take]; omega) hoh) ?_ | refine OD.still (wants_plain rfl) rfl (still_oslice (n := st.length) (k := (List.take (st.length - (popsF ops[i].k).toNat) st).length) (cs := st.flatMap cI) rfl ot rfl ⟨_, _, ot, by rw [List.length_take]; omega⟩ Tryd.runUnderlying41 Tryd.sizeOf3 (by rw [List.length_take]; omega) (ownL_row (e := 3) (g := cI) (ls := st) hhle hhcap)) ?_
     refine OD.still (wants_plain rfl) rfl (still_mv rfl ot) ?_
     refine OD.bldS (pl := numD 0 [_]) (zvs := [.int .i64 0]) (ds := [_]) (wants_plain rfl) rfl rfl Tryd.zeroValue3 Tryd.runUnderlying41 Tryd.sizeOf3 rfl rfl (by kernel_rfl) ⟨rfl, ot, trivial⟩ (by exact rfl) (fill_full (by exact rfl) (by exact rfl) (by exact rfl)) (fun b58 => ?_)
     refine OD.give (k := 0) (t := 58) (sz := 1) (m := 1) rfl lk rfl rfl rfl (Nat.le_refl _) (by decide) ?_
     refine OD.appendG (ls := (List.take (st.length - (popsF ops[i].k).toNat) (st))) (new := [(madeF l ops[i] (argA 0 ops[i].k st) (argB 0 ops[i].k st)).1]) (Sq := Sc16) cI_len cI_one (wants_plain rfl) rfl rfl Tryd.underlying41 info3_Ex1 rfl (by decide) ot hoc16 (perm_r11 (A := [_, _])) ot (by simp) (by simp [maxLen]; omega) (by simp; omega) (fun b59 cp59 h159 h259 => ?_)
     refine OD.perm (perm_q11 (S1 := [⟨b59, 3, cp59 * 1, List.flatMap cI ((List.take (st.length - (popsF ops[i].k).toNat) (st)) ++ [(madeF l ops[i] (argA 0 ops[i].k st) (argB 0 ops[i].k st)).1])⟩]) (A := [_, _])) ?_
     refine OD.still (wants_plain rfl) rfl (still_as rfl ot) ?_
     refine OD.wk (Wk.as_ (n := 64) (l' := [(1, _), (6, _), (7, _), (16, _), (17, _), (18, _)]) (S' := (⟨b2, 30, 1, [_]⟩ :: ⟨b9, 40, 5, [_, _, _, _, _]⟩ :: [⟨b59, 3, cp59 * 1, List.flatMap cI ((List.take (st.length - (popsF ops[i].k).toNat) (st)) ++ [(madeF l ops[i] (argA 0 ops[i].k st) (argB 0 ops[i].k st)).1])⟩])) rfl rfl ⟨lk, lk, lk, lk, lk, lk, trivial⟩) ?_
     refine OD.nil ?_
     refine CD.region ?_
     refine OD.still (wants_plain rfl) rfl (still_bin rfl ot opd_const (bin_add (wrap_i64 (by omega) (by omega)))) ?_
     refine OD.still (wants_plain rfl) rfl (still_mv rfl ot) ?_
     refine OD.wk (Wk.as_ (n := 64) (l' := [(1, _), (6, _), (7, _), (16, _), (17, _), (18, _)]) (S' := (⟨b2, 30, 1, [_]⟩ :: ⟨b9, 40, 5, [_, _, _, _, _]⟩ :: [⟨b59, 3, cp59 * 1, List.flatMap cI ((List.take (st.length - (popsF ops[i].k).toNat) (st)) ++ [(madeF l ops[i] (argA 0 ops[i].k st) (argB 0 ops[i].k st)).1])⟩])) rfl rfl ⟨lk, lk, lk, lk, lk, lk, trivial⟩) ?_
     refine OD.nil ?_
     refine ⟨((i + 1), (st.take (st.length - (popsF ops[i].k).toNat) ++ [(madeF l ops[i] (argA 0 ops[i].k st) (argB 0 ops[i].k st)).1]), (some ⟨b59, 0, none⟩), cp59, [⟨b59, 3, cp59 * 1, List.flatMap cI ((List.take (st.length - (popsF ops[i].k).toNat) (st)) ++ [(madeF l ops[i] (argA 0 ops[i].k st) (argB 0 ops[i].k st)).1])⟩]), ⟨64, [(1, .clo (.func 42) [.v (.pointer (some ⟨b2, 0, none⟩))]), (6, .v (.int .i64 0)), (7, .v (.slice ((some ⟨b59, 0, none⟩)) (((st.take (st.length - (popsF ops[i].k).toNat) ++ [(madeF l ops[i] (argA 0 ops[i].k st) (argB 0 ops[i].k st)).1]))).length cp59)), (16, .list 5 (ops.flatMap cO) ops.length), (17, .v (.int .i64 (ops.length : Nat))), (18, .v (.int .i64 (((i + 1)) : Nat)))], (⟨b2, 30, 1, [.list 2 (l.flatMap cC) l.length]⟩ :: ([⟨b59, 3, cp59 * 1, List.flatMap cI ((List.take (st.length - (popsF ops[i].k).toNat) (st)) ++ [(madeF l ops[i] (argA 0 ops[i].k st) (argB 0 ops[i].k st)).1])⟩]))⟩, ?_, Wk.asS (n := 64) rfl (by repeat (first | exact List.Sublist.refl _ | apply List.Sublist.cons_cons | apply List.Sublist.cons)) ⟨(by (repeat (first | exact look_hit | (apply look_at; focus (first | rfl | (simp; done) | (congr 2; omega) | (apply row_eq; rfl) | (apply row_eq; simp; done))) | (apply look_miss; focus rfl))); done), (by (repeat (first | exact look_hit | (apply look_at; focus (first | rfl | (simp; done) | (congr 2; omega) | (apply row_eq; rfl) | (apply row_eq; simp; done))) | (apply look_miss; focus rfl))); done), (by (repeat (first | exact look_hit | (apply look_at; focus (first | rfl | (simp; done) | (congr 2; omega) | (apply row_eq; rfl) | (apply row_eq; simp; done))) | (apply look_miss; focus rfl))); done), (by (repeat (first | exact look_hit | (apply look_at; focus (first | rfl | (simp; done) | (congr 2; omega) | (apply row_eq; rfl) | (apply row_eq; simp; done))) | (apply look_miss; focus rfl))); done), (by (repeat (first | exact look_hit | (apply look_at; focus (first | rfl | (simp; done) | (congr 2; omega) | (apply row_eq; rfl) | (apply row_eq; simp; done))) | (apply look_miss; focus rfl))); done), (by (repeat (first | exact look_hit | (apply look_at; focus (first | rfl | (simp; done) | (congr 2; omega) | (apply row_eq; rfl) | (apply row_eq; simp; done))) | (apply look_miss; focus rfl))); done), trivial⟩, (by omega), (by rw [hnl]; omega), hnx, (hinv.trans (fold_go hlt hz)), (OwnL.cast (ownL_row h159 h259) (by rfl)), rfl⟩
     first | omega | (simp only []; omega)
  ·have hc1' := hc1
   (try simp only [V.cnd, ne_eq] at hc1')
   have ha : argA 0 ops[i].k st = 0 := by unfold argA; rw [if_neg (by omega)]
   refine CD.skip ?_
   refine CD.seq ?_
   refine CD.seq ?_
   refine CD.region ?_
   refine OD.still (wants_plain rfl) rfl (still_mv rfl ot) ?_
   refine OD.still (wants_plain rfl) rfl (still_bin rfl ot opd_const bin_gtr) ?_
   refine OD.wk (Wk.as_ (n := 64) (l' := [(1, _), (6, _), (7, _), (9, _), (10, _), (11, _), (13, _), (16, _), (17, _), (18, _), (36, _)]) (S' := (⟨b9, 40, 5, [_, _, _, _, _]⟩ :: ⟨b2, 30, 1, [_]⟩ :: Sh)) rfl rfl ⟨lk, lk, lk, lk, lk, lk, lk, lk, lk, lk, lk, trivial⟩) ?_
   refine OD.nil ?_
   refine CD.cond ot (fun hc2 => ?_) (fun hc2 => ?_)
   ·exact absurd hc2 (by simp at *; omega)
   ·have hc2' := hc2
    (try simp only [V.cnd, ne_eq] at hc2')
    have hb : argB 0 ops[i].k st = 0 := by unfold argB; rw [if_neg (by omega)]
    refine CD.skip ?_
    refine CD.seq ?_
    refine CD.region ?_
    refine OD.still (wants_plain rfl) rfl (still_mv rfl ot) ?_
    refine OD.still (wants_plain rfl) rfl (still_r1 (mk := Op.load 40) rfl ot (by first | exact ld_blks (k := 0) (ds := [_, _, _, _, _]) rfl rfl Tryd.isAgg40 Tryd.sizeOf40 rfl rfl | exact ld_fms cO_len Tryd.isAgg40 Tryd.sizeOf40 (by first | assumption | omega) | exact ld_fms cI_len Tryd.isAgg40 Tryd.sizeOf40 (by first | assumption | omega) | exact ld_rows (k := 0) cO_len rfl rfl rfl Tryd.isAgg40 Tryd.sizeOf40 (by first | assumption | omega) | exact ld_rows (k := 1) cO_len rfl rfl rfl Tryd.isAgg40 Tryd.sizeOf40 (by first | assumption | omega) | exact ld_rows (k := 0) cI_len rfl rfl rfl Tryd.isAgg40 Tryd.sizeOf40 (by first | assumption | omega) | exact ld_rows (k := 1) cI_len rfl rfl rfl Tryd.isAgg40 Tryd.sizeOf40 (by first | assumption | omega) | exact ld_is (ds := [_, _, _, _, _]) Tryd.isAgg40 Tryd.sizeOf40 rfl rfl)) ?_
    refine OD.still (wants_plain rfl) rfl (still_mv rfl ot) ?_
    refine OD.still (wants_plain rfl) rfl (still_mv rfl ot) ?_
    refine OD.callv (f := 42) (args := [_, _, _]) (all := [_, _, _, _]) (Sf := [⟨b2, 30, 1, [.list 2 (l.flatMap cC) l.length]⟩]) (wants_plain rfl) rfl rfl ot Tryd.call42 (kindcl_vc l hl ops[i] _ _ _ _ ha hb b2) rfl ⟨ot, ot, ot, trivial⟩ (perm_one (k := 1) rfl) ?_
    rintro _ _ ⟨rfl, rfl⟩
    refine OD.still (wants_plain rfl) rfl (still_mv rfl ot) ?_
    refine OD.still (wants_plain rfl) rfl (still_extract rfl ot rfl) ?_
    refine OD.still (wants_plain rfl) rfl (still_extract rfl ot rfl) ?_
    refine OD.still (wants_plain rfl) rfl (still_as rfl ot) ?_
    refine OD.still (wants_plain rfl) rfl (still_as rfl ot) ?_
    refine OD.wk (Wk.as_ (n := 64) (l' := [(1, _), (6, _), (7, _), (13, _), (14, _), (15, _), (16, _), (17, _), (18, _)]) (S' := (⟨b2, 30, 1, [_]⟩ :: ⟨b9, 40, 5, [_, _, _, _, _]⟩ :: Sh)) rfl rfl ⟨lk, lk, lk, lk, lk, lk, lk, lk, lk, trivial⟩) ?_
    refine OD.nil ?_
    refine CD.seq ?_
    refine CD.seq ?_
    refine CD.region ?_
    refine OD.still (wants_plain rfl) rfl (still_mv rfl ot) ?_
    refine OD.still (wants_plain rfl) rfl (still_bin rfl ot opd_const bin_neq) ?_
    refine OD.wk (Wk.as_ (n := 64) (l' := [(1, _), (6, _), (7, _), (13, _), (14, _), (15, _), (16, _), (17, _), (18, _), (51, _)]) (S' := (⟨b2, 30, 1, [_]⟩ :: ⟨b9, 40, 5, [_, _, _, _, _]⟩ :: Sh)) rfl rfl ⟨lk, lk, lk, lk, lk, lk, lk, lk, lk, lk, trivial⟩) ?_
    refine OD.nil ?_
    refine CD.cond ot (fun hc3 => ?_) (fun hc3 => ?_)
    ·have hc3' := hc3
     (try simp only [V.cnd, ne_eq] at hc3')
     have hz : (madeF l ops[i] (argA 0 ops[i].k st) (argB 0 ops[i].k st)).2 ≠ 0 := by simpa using hc3
     have hres := hinv.trans (fold_no hlt hz)
     refine CD.seq ?_
     refine CD.region ?_
     refine OD.still (wants_plain rfl) rfl (still_mv rfl ot) ?_
     refine OD.still (wants_plain rfl) rfl (still_mv rfl ot) ?_
     refine OD.still (wants_plain rfl) rfl (still_as rfl ot) ?_
     refine OD.still (wants_plain rfl) rfl (still_as rfl ot) ?_
     refine OD.wk (Wk.as_ (n := 64) (l' := [(4, _), (5, _)]) (S' := (⟨b2, 30, 1, [_]⟩ :: ⟨b9, 40, 5, [_, _, _, _, _]⟩ :: Sh)) rfl rfl ⟨lk, lk, trivial⟩) ?_
     refine OD.nil ?_
     refine CD.ret ?_
     refine ⟨.inr rfl, _, [⟨b2, 30, 1, [.list 2 (l.flatMap cC) l.length]⟩], (by repeat (first | exact List.Sublist.refl _ | exact List.nil_sublist _ | apply List.Sublist.cons_cons | apply List.Sublist.cons)), ret_two Tryd.results41 (res_tmp (Nat.le_of_ble_eq_true rfl) lk) (res_tmp (Nat.le_of_ble_eq_true rfl) lk), ?_⟩
     rw [hres]; exact ⟨rfl, rfl⟩
    ·have hc3' := hc3
     (try simp only [V.cnd, ne_eq] at hc3')
     have hz : (madeF l ops[i] (argA 0 ops[i].k st) (argB 0 ops[i].k st)).2 = 0 := by simpa using hc3
     refine CD.skip ?_
     refine CD.cutL (k := (st.length - (popsF ops[i].k).toNat)) (ls := (st)) (Sq := Sh) cI_len (by omega) hoh (perm_r11 (A := [_, _])) (fun Sc16 hoc16 => ?_)
     refine CD.perm (perm_q11 (A := [_, _])) ?_
     refine CD.region ?_
     refine OD.still (wants_plain rfl) rfl (still_mv rfl ot) ?_
     refine OD.still (wants_plain rfl) rfl (still_mv rfl ot) ?_
     first | refine OD.still (wants_plain rfl) rfl (still_oslice (n := st.length) (k := (List.take (st.length - (popsF ops[i].k).toNat) st).length) (cs := st.flatMap cI) rfl ot rfl ⟨_, _, ot, by rw [List.length_take]; omega⟩ Tryd.runUnderlying41 Tryd.sizeOf3 (by rw [List.length_take]; omega) hoh) ?_ | refine OD.still (wants_plain rfl) rfl (still_oslice (n := st.length) (k := (List.take (st.length - (popsF ops[i].k).toNat) st).length) (cs := st.flatMap cI) rfl ot rfl ⟨_, _, ot, by rw [List.length_take]; omega⟩ Tryd.runUnderlying41 Tryd.sizeOf3 (by rw [List.length_take]; omega) (ownL_row (e := 3) (g := cI) (ls := st) hhle hhcap)) ?_
     refine OD.still (wants_plain rfl) rfl (still_mv rfl ot) ?_
     refine OD.bldS (pl := numD 0 [_]) (zvs := [.int .i64 0]) (ds := [_]) (wants_plain rfl) rfl rfl Tryd.zeroValue3 Tryd.runUnderlying41 Tryd.sizeOf3 rfl rfl (by kernel_rfl) ⟨rfl, ot, trivial⟩ (by exact rfl) (fill_full (by exact rfl) (by exact rfl) (by exact rfl)) (fun b58 => ?_)
     refine OD.give (k := 0) (t := 58) (sz := 1) (m := 1) rfl lk rfl rfl rfl (Nat.le_refl _) (by decide) ?_
     refine OD.appendG (ls := (List.take (st.length - (popsF ops[i].k).toNat) (st))) (new := [(madeF l ops[i] (argA 0 ops[i].k st) (argB 0 ops[i].k st)).1]) (Sq := Sc16) cI_len cI_one (wants_plain rfl) rfl rfl Tryd.underlying41 info3_Ex1 rfl (by decide) ot hoc16 (perm_r11 (A := [_, _])) ot (by simp) (by simp [maxLen]; omega) (by simp; omega) (fun b59 cp59 h159 h259 => ?_)
     refine OD.perm (perm_q11 (S1 := [⟨b59, 3, cp59 * 1, List.flatMap cI ((List.take (st.length - (popsF ops[i].k).toNat) (st)) ++ [(madeF l ops[i] (argA 0 ops[i].k st) (argB 0 ops[i].k st)).1])⟩]) (A := [_, _])) ?_
     refine OD.still (wants_plain rfl) rfl (still_as rfl ot) ?_
     refine OD.wk (Wk.as_ (n := 64) (l' := [(1, _), (6, _), (7, _), (16, _), (17, _), (18, _)]) (S' := (⟨b2, 30, 1, [_]⟩ :: ⟨b9, 40, 5, [_, _, _, _, _]⟩ :: [⟨b59, 3, cp59 * 1, List.flatMap cI ((List.take (st.length - (popsF ops[i].k).toNat) (st)) ++ [(madeF l ops[i] (argA 0 ops[i].k st) (argB 0 ops[i].k st)).1])⟩])) rfl rfl ⟨lk, lk, lk, lk, lk, lk, trivial⟩) ?_
     refine OD.nil ?_
     refine CD.region ?_
     refine OD.still (wants_plain rfl) rfl (still_bin rfl ot opd_const (bin_add (wrap_i64 (by omega) (by omega)))) ?_
     refine OD.still (wants_plain rfl) rfl (still_mv rfl ot) ?_
     refine OD.wk (Wk.as_ (n := 64) (l' := [(1, _), (6, _), (7, _), (16, _), (17, _), (18, _)]) (S' := (⟨b2, 30, 1, [_]⟩ :: ⟨b9, 40, 5, [_, _, _, _, _]⟩ :: [⟨b59, 3, cp59 * 1, List.flatMap cI ((List.take (st.length - (popsF ops[i].k).toNat) (st)) ++ [(madeF l ops[i] (argA 0 ops[i].k st) (argB 0 ops[i].k st)).1])⟩])) rfl rfl ⟨lk, lk, lk, lk, lk, lk, trivial⟩) ?_
     refine OD.nil ?_
     refine ⟨((i + 1), (st.take (st.length - (popsF ops[i].k).toNat) ++ [(madeF l ops[i] (argA 0 ops[i].k st) (argB 0 ops[i].k st)).1]), (some ⟨b59, 0, none⟩), cp59, [⟨b59, 3, cp59 * 1, List.flatMap cI ((List.take (st.length - (popsF ops[i].k).toNat) (st)) ++ [(madeF l ops[i] (argA 0 ops[i].k st) (argB 0 ops[i].k st)).1])⟩]), ⟨64, [(1, .clo (.func 42) [.v (.pointer (some ⟨b2, 0, none⟩))]), (6, .v (.int .i64 0)), (7, .v (.slice ((some ⟨b59, 0, none⟩)) (((st.take (st.length - (popsF ops[i].k).toNat) ++ [(madeF l ops[i] (argA 0 ops[i].k st) (argB 0 ops[i].k st)).1]))).length cp59)), (16, .list 5 (ops.flatMap cO) ops.length), (17, .v (.int .i64 (ops.length : Nat))), (18, .v (.int .i64 (((i + 1)) : Nat)))], (⟨b2, 30, 1, [.list 2 (l.flatMap cC) l.length]⟩ :: ([⟨b59, 3, cp59 * 1, List.flatMap cI ((List.take (st.length - (popsF ops[i].k).toNat) (st)) ++ [(madeF l ops[i] (argA 0 ops[i].k st) (argB 0 ops[i].k st)).1])⟩]))⟩, ?_, Wk.asS (n := 64) rfl (by repeat (first | exact List.Sublist.refl _ | apply List.Sublist.cons_cons | apply List.Sublist.cons)) ⟨(by (repeat (first | exact look_hit | (apply look_at; focus (first | rfl | (simp; done) | (congr 2; omega) | (apply row_eq; rfl) | (apply row_eq; simp; done))) | (apply look_miss; focus rfl))); done), (by (repeat (first | exact look_hit | (apply look_at; focus (first | rfl | (simp; done) | (congr 2; omega) | (apply row_eq; rfl) | (apply row_eq; simp; done))) | (apply look_miss; focus rfl))); done), (by (repeat (first | exact look_hit | (apply look_at; focus (first | rfl | (simp; done) | (congr 2; omega) | (apply row_eq; rfl) | (apply row_eq; simp; done))) | (apply look_miss; focus rfl))); done), (by (repeat (first | exact look_hit | (apply look_at; focus (first | rfl | (simp; done) | (congr 2; omega) | (apply row_eq; rfl) | (apply row_eq; simp; done))) | (apply look_miss; focus rfl))); done), (by (repeat (first | exact look_hit | (apply look_at; focus (first | rfl | (simp; done) | (congr 2; omega) | (apply row_eq; rfl) | (apply row_eq; simp; done))) | (apply look_miss; focus rfl))); done), (by (repeat (first | exact look_hit | (apply look_at; focus (first | rfl | (simp; done) | (congr 2; omega) | (apply row_eq; rfl) | (apply row_eq; simp; done))) | (apply look_miss; focus rfl))); done), trivial⟩, (by omega), (by rw [hnl]; omega), hnx, (hinv.trans (fold_go hlt hz)), (OwnL.cast (ownL_row h159 h259) (by rfl)), rfl⟩
     first | omega | (simp only []; omega)
 ·have hc0' := hc0
  (try simp only [V.cnd, ne_eq] at hc0')
  have h1 := expr_one (by omega) hex
  have hst1 : 0 < st.length := by omega
  obtain ⟨bh, rfl, hhle, hhcap, rfl⟩ := hoh.pos (by omega)
  have hres := hinv.trans (fold_end (by omega))
  have hgd : st.getD 0 0 = st[0] := by rw [List.getD_eq_getElem?_getD, List.getElem?_eq_getElem hst1]; rfl
  rw [hgd] at hres
  refine CD.exit ?_
  refine CD.seq ?_
  refine CD.region ?_
  refine OD.still (wants_plain rfl) rfl (still_mv rfl ot) ?_
  refine OD.still (wants_plain rfl) rfl (still_r2 (mk := Op.indexAddr 41) rfl ot opd_const (by first | exact ix_list (j := 0) Tryd.runUnderlying41 Tryd.sizeOf3 rfl (by first | omega | decide) | exact ix_row (j := 0) Tryd.runUnderlying41 Tryd.sizeOf3 rfl (by first | omega | decide))) ?_
  refine OD.still (wants_plain rfl) rfl (still_r1 (mk := Op.load 3) rfl ot (ld_row0 (k := 1) cI_len rfl rfl rfl Tryd.isAgg3 hst1 rfl)) ?_
  refine OD.still (wants_plain rfl) rfl (still_as rfl ot) ?_
  refine OD.still (wants_plain rfl) rfl (still_as rfl opd_const) ?_
  refine OD.wk (Wk.as_ (n := 64) (l' := [(4, _), (5, _)]) (S' := (⟨b2, 30, 1, [_]⟩ :: [⟨bh, 3, cph * 1, List.flatMap cI st⟩])) rfl rfl ⟨lk, lk, trivial⟩) ?_
  refine OD.nil ?_
  refine CD.ret ?_
  refine ⟨.inr rfl, _, [⟨b2, 30, 1, [.list 2 (l.flatMap cC) l.length]⟩], (by repeat (first | exact List.Sublist.refl _ | exact List.nil_sublist _ | apply List.Sublist.cons_cons | apply List.Sublist.cons)), ret_two Tryd.results41 (res_tmp (Nat.le_of_ble_eq_true rfl) lk) (res_tmp (Nat.le_of_ble_eq_true rfl) lk), ?_⟩
  rw [hres]; exact ⟨rfl, rfl⟩

set_option maxHeartbeats 4000000 in
set_option maxRecDepth 100000 in
theorem kindOf_vp (l : List ColL) (hl : l.length ≤ 1000) (ops : List OpL) (hx : exprF ops = 0) : VP Tryd.prog G 22 [.list 2 (l.flatMap cC) l.length, .list 5 (ops.flatMap cO) ops.length] (twoI (kindF l ops)) := by
 refine VC.body Tryd.func22 rfl Tryd.ntmps22 (Nat.le_of_ble_eq_true rfl) fun X0 w0 S00 => ?_
 obtain ⟨h40, hx0⟩ := expr_ok hx
 have hfv := fun b2 => foldI_vc (G := G) l hl ops h40 hx0 b2
 unfold twoI at hfv ⊢
 refine CD.seq ?_
 refine CD.region ?_
 refine OD.box (ds := [_]) (wants_plain rfl) rfl rfl ot rfl rfl (fun b2 => ?_)
 refine OD.still (wants_plain rfl) rfl (still_as rfl opd_const) ?_
 refine OD.still (wants_plain rfl) rfl (still_as rfl opd_const) ?_
 refine OD.wk (Wk.as_ (n := 11) (l' := [(1, _), (2, _)]) (S' := [⟨b2, 30, 1, [_]⟩]) rfl rfl ⟨lk, lk, trivial⟩) ?_
 refine OD.nil ?_
 refine CD.seq ?_
 refine CD.region ?_
 refine OD.still (wants_plain rfl) rfl (still_mv rfl ot) ?_
 refine OD.still (wants_plain rfl) rfl (still_fn (ds := [_]) rfl ⟨ot, trivial⟩) ?_
 refine OD.call (wants_plain rfl) rfl rfl rfl Tryd.call41 (hfv b2) ⟨ot, ot, trivial⟩ (perm_one (k := 0) rfl) ?_
 rintro _ _ ⟨rfl, rfl⟩
 refine OD.still (wants_plain rfl) rfl (still_extract rfl ot rfl) ?_
 refine OD.still (wants_plain rfl) rfl (still_extract rfl ot rfl) ?_
 refine OD.still (wants_plain rfl) rfl (still_as rfl ot) ?_
 refine OD.still (wants_plain rfl) rfl (still_as rfl ot) ?_
 refine OD.wk (Wk.as_ (n := 11) (l' := [(4, _), (5, _)]) (S' := [⟨b2, 30, 1, [_]⟩]) rfl rfl ⟨lk, lk, trivial⟩) ?_
 refine OD.nil ?_
 refine CD.ret ?_
 refine ⟨.inr rfl, _, [], List.nil_sublist _, ret_two Tryd.results22 (res_tmp (Nat.le_of_ble_eq_true rfl) lk) (res_tmp (Nat.le_of_ble_eq_true rfl) lk), ?_⟩
 exact ⟨rfl, rfl⟩

set_option maxHeartbeats 4000000 in
set_option maxRecDepth 100000 in
theorem chk_vp (hm : (3, marksC) ∈ G) (hw : (0, wordsC) ∈ G) (ht : (2, typesC) ∈ G) (l : List ColL) (hl : l.length ≤ 1000) (hok : ∀ c ∈ l, c.n.size ≤ maxLen) (ops : List OpL) (ho : ∀ o ∈ ops, o.nm.size ≤ maxLen) : VP Tryd.prog G 21 [.list 2 (l.flatMap cC) l.length, .list 5 (ops.flatMap cO) ops.length] (.v (.int .i64 (if colsF l ≠ 0 then colsF l else exprF ops))) := by
 refine VC.body Tryd.func21 rfl Tryd.ntmps21 (Nat.le_of_ble_eq_true rfl) fun X0 w0 S00 => ?_
 have hmx : maxLen = 9223372036854775807 := rfl
 refine CD.seq ?_
 refine CD.region ?_
 refine OD.still (wants_plain rfl) rfl (still_as rfl opd_const) ?_
 refine OD.wk (Wk.as_ (n := 13) (l' := [(0, _), (1, _)]) (S' := []) rfl rfl ⟨lk, lk, trivial⟩) ?_
 refine OD.nil ?_
 refine CD.seq ?_
 refine CD.seq ?_
 refine CD.region ?_
 refine OD.still (wants_plain rfl) rfl (still_mv rfl ot) ?_
 refine OD.callP (wants_plain rfl) rfl rfl rfl Tryd.call35 (Cols_vp hm hw ht l (by omega) hok) ⟨ot, trivial⟩ ?_
 refine OD.still (wants_plain rfl) rfl (still_as rfl ot) ?_
 refine OD.wk (Wk.as_ (n := 13) (l' := [(1, _), (5, _)]) (S' := []) rfl rfl ⟨lk, lk, trivial⟩) ?_
 refine OD.nil ?_
 refine CD.seq ?_
 refine CD.region ?_
 refine OD.still (wants_plain rfl) rfl (still_mv rfl ot) ?_
 refine OD.still (wants_plain rfl) rfl (still_bin rfl ot opd_const bin_neq) ?_
 refine OD.wk (Wk.as_ (n := 13) (l' := [(1, _), (5, _), (9, _)]) (S' := []) rfl rfl ⟨lk, lk, lk, trivial⟩) ?_
 refine OD.nil ?_
 refine CD.cond ot (fun hc0 => ?_) (fun hc0 => ?_)
 ·have hc0' := hc0
  (try simp only [V.cnd, ne_eq] at hc0')
  refine CD.seq ?_
  refine CD.region ?_
  refine OD.still (wants_plain rfl) rfl (still_mv rfl ot) ?_
  refine OD.still (wants_plain rfl) rfl (still_as rfl ot) ?_
  refine OD.wk (Wk.as_ (n := 13) (l' := [(4, _)]) (S' := []) rfl rfl ⟨lk, trivial⟩) ?_
  refine OD.nil ?_
  refine CD.ret ?_
  refine ⟨.inr rfl, _, [], List.nil_sublist _, ret_one Tryd.results21 (res_tmp (Nat.le_of_ble_eq_true rfl) lk), ?_⟩
  refine ⟨vi ?_, rfl⟩
  simp_all
 ·have hc0' := hc0
  (try simp only [V.cnd, ne_eq] at hc0')
  refine CD.skip ?_
  refine CD.seq ?_
  refine CD.region ?_
  refine OD.still (wants_plain rfl) rfl (still_mv rfl ot) ?_
  refine OD.callP (wants_plain rfl) rfl rfl rfl Tryd.call40 (expr_vp hm hw ops ho) ⟨ot, trivial⟩ ?_
  refine OD.still (wants_plain rfl) rfl (still_as rfl ot) ?_
  refine OD.wk (Wk.as_ (n := 13) (l' := [(4, _)]) (S' := []) rfl rfl ⟨lk, trivial⟩) ?_
  refine OD.nil ?_
  refine CD.ret ?_
  refine ⟨.inr rfl, _, [], List.nil_sublist _, ret_one Tryd.results21 (res_tmp (Nat.le_of_ble_eq_true rfl) lk), ?_⟩
  refine ⟨vi ?_, rfl⟩
  simp_all

set_option maxHeartbeats 4000000 in
set_option maxRecDepth 100000 in
theorem kind_vp (hm : (3, marksC) ∈ G) (hw : (0, wordsC) ∈ G) (ht : (2, typesC) ∈ G) (l : List ColL) (hl : l.length ≤ 1000) (hok : ∀ c ∈ l, c.n.size ≤ maxLen) (ops : List OpL) (ho : ∀ o ∈ ops, o.nm.size ≤ maxLen) : VP Tryd.prog G 9 [.list 2 (l.flatMap cC) l.length, .list 5 (ops.flatMap cO) ops.length] (twoI (kindR l ops)) := by
 refine VC.body Tryd.func9 rfl Tryd.ntmps9 (Nat.le_of_ble_eq_true rfl) fun X0 w0 S00 => ?_
 have hcv := chk_vp hm hw ht l hl hok ops ho
 have hkv := fun hx => kindOf_vp (G := G) l hl ops hx
 unfold twoI at hkv ⊢
 refine CD.seq ?_
 refine CD.region ?_
 refine OD.still (wants_plain rfl) rfl (still_as rfl opd_const) ?_
 refine OD.still (wants_plain rfl) rfl (still_as rfl opd_const) ?_
 refine OD.wk (Wk.as_ (n := 18) (l' := [(0, _), (1, _)]) (S' := []) rfl rfl ⟨lk, lk, trivial⟩) ?_
 refine OD.nil ?_
 refine CD.seq ?_
 refine CD.seq ?_
 refine CD.region ?_
 refine OD.still (wants_plain rfl) rfl (still_mv rfl ot) ?_
 refine OD.still (wants_plain rfl) rfl (still_mv rfl ot) ?_
 refine OD.callP (wants_plain rfl) rfl rfl rfl Tryd.call21 (hcv) ⟨ot, ot, trivial⟩ ?_
 refine OD.still (wants_plain rfl) rfl (still_as rfl ot) ?_
 refine OD.wk (Wk.as_ (n := 18) (l' := [(0, _), (1, _), (6, _)]) (S' := []) rfl rfl ⟨lk, lk, lk, trivial⟩) ?_
 refine OD.nil ?_
 refine CD.seq ?_
 refine CD.region ?_
 refine OD.still (wants_plain rfl) rfl (still_mv rfl ot) ?_
 refine OD.still (wants_plain rfl) rfl (still_bin rfl ot opd_const bin_neq) ?_
 refine OD.wk (Wk.as_ (n := 18) (l' := [(0, _), (1, _), (6, _), (11, _)]) (S' := []) rfl rfl ⟨lk, lk, lk, lk, trivial⟩) ?_
 refine OD.nil ?_
 refine CD.cond ot (fun hc0 => ?_) (fun hc0 => ?_)
 ·have hc0' := hc0
  (try simp only [V.cnd, ne_eq] at hc0')
  have hres : kindR l ops = (0, if colsF l ≠ 0 then colsF l else exprF ops) := by unfold kindR; split <;> simp_all
  refine CD.seq ?_
  refine CD.region ?_
  refine OD.still (wants_plain rfl) rfl (still_mv rfl ot) ?_
  refine OD.still (wants_plain rfl) rfl (still_as rfl opd_const) ?_
  refine OD.still (wants_plain rfl) rfl (still_as rfl ot) ?_
  refine OD.wk (Wk.as_ (n := 18) (l' := [(4, _), (5, _)]) (S' := []) rfl rfl ⟨lk, lk, trivial⟩) ?_
  refine OD.nil ?_
  refine CD.ret ?_
  refine ⟨.inr rfl, _, [], List.nil_sublist _, ret_two Tryd.results9 (res_tmp (Nat.le_of_ble_eq_true rfl) lk) (res_tmp (Nat.le_of_ble_eq_true rfl) lk), ?_⟩
  rw [hres]; exact ⟨rfl, rfl⟩
 ·have hc0' := hc0
  (try simp only [V.cnd, ne_eq] at hc0')
  have h0 : colsF l = 0 ∧ exprF ops = 0 := by split at hc0 <;> simp_all
  have hres : kindR l ops = kindF l ops := by unfold kindR; simp [h0]
  refine CD.skip ?_
  refine CD.seq ?_
  refine CD.region ?_
  refine OD.still (wants_plain rfl) rfl (still_mv rfl ot) ?_
  refine OD.still (wants_plain rfl) rfl (still_mv rfl ot) ?_
  refine OD.callP (wants_plain rfl) rfl rfl rfl Tryd.call22 (hkv h0.2) ⟨ot, ot, trivial⟩ ?_
  refine OD.still (wants_plain rfl) rfl (still_extract rfl ot rfl) ?_
  refine OD.still (wants_plain rfl) rfl (still_extract rfl ot rfl) ?_
  refine OD.still (wants_plain rfl) rfl (still_as rfl ot) ?_
  refine OD.still (wants_plain rfl) rfl (still_as rfl ot) ?_
  refine OD.wk (Wk.as_ (n := 18) (l' := [(4, _), (5, _)]) (S' := []) rfl rfl ⟨lk, lk, trivial⟩) ?_
  refine OD.nil ?_
  refine CD.ret ?_
  refine ⟨.inr rfl, _, [], List.nil_sublist _, ret_two Tryd.results9 (res_tmp (Nat.le_of_ble_eq_true rfl) lk) (res_tmp (Nat.le_of_ble_eq_true rfl) lk), ?_⟩
  rw [hres]; exact ⟨rfl, rfl⟩

end Go.Proofs.YtfooincnmobemaaDoor.Ex

namespace Go.Proofs.YtfooincnmobemaaDoor.Ex
open Go.RowKit V Pk Vl Go.Proofs.YtfooincnmobemaaDoor.Cd
set_option linter.unusedVariables false
set_option linter.unusedSimpArgs false

def wr (n : Int) : Int := IntKind.i64.wrap n
def truthV (b : Bool) : Vl := if b = true then ⟨1, 1, ⟨#[]⟩⟩ else ⟨1, 0, ⟨#[]⟩⟩
/-- What value.logic answers. -/
def logicF (a b : Vl) (d : Int) : Vl × Int :=
  if (a.k ≠ 1 ∧ a.k ≠ 0) ∨ (b.k ≠ 1 ∧ b.k ≠ 0) then (noVl, 4) else if a.k = 1 ∧ a.n = d then (a, 0) else if b.k = 1 ∧ b.n = d then (b, 0) else if a.k = 0 ∨ b.k = 0 then (noVl, 0) else (a, 0)
/-- What value.arith answers. -/
def arithF (k a b : Int) : Int × Bool :=
  if k = 8 then (wr (a + b), decide (wr (a + b) < a) == decide (b < 0)) else if k = 9 then (wr (a - b), decide (wr (a - b) > a) == decide (b < 0))
  else (wr (a * b), a == 0 || (wr ((wr (a * b)).tdiv a) == b && !(a == -1 && b == -9223372036854775808)))
def nullF (a b : Vl) : Bool := a.k == 0 || b.k == 0
/-- What value.Two answers. -/
def twoF (k : Int) (a b : Vl) : Vl × Int :=
  if bothV a b ≠ 0 then (noVl, bothV a b) else if k = 3 then logicF a b 0 else if k = 4 then logicF a b 1
  else if k = 6 ∨ k = 7 then (if nullF a b = true then (noVl, 0) else if a.k ≠ b.k then (noVl, 4) else (truthV ((cmpV a b == 0 && k == 6) || (decide (cmpV a b < 0) && k == 7)), 0))
  else if k = 8 ∨ k = 9 ∨ k = 10 then (if (a.k ≠ 2 ∧ a.k ≠ 0) ∨ (b.k ≠ 2 ∧ b.k ≠ 0) then (noVl, 4) else if nullF a b = true then (noVl, 0) else if (arithF k a.n b.n).2 = true then (⟨2, (arithF k a.n b.n).1, ⟨#[]⟩⟩, 0) else (noVl, 5))
  else (noVl, 2)
/-- What value.One answers. -/
def oneF (k : Int) (a : Vl) : Vl × Int :=
  if checkV a ≠ 0 then (noVl, checkV a) else if k = 11 then (truthV (a.k == 0), 0)
  else if k = 5 then (if a.k = 0 then (a, 0) else if a.k = 1 then (truthV (a.n == 0), 0) else (noVl, 4)) else (noVl, 2)
variable {G : List (Nat × List Value)}

end Go.Proofs.YtfooincnmobemaaDoor.Ex

namespace Go.Proofs.YtfooincnmobemaaDoor.Ex
open Go.RowKit V Pk Vl Go.Proofs.YtfooincnmobemaaDoor.Nm Go.Proofs.YtfooincnmobemaaDoor.Pc
set_option linter.unusedVariables false
set_option linter.unusedSimpArgs false

def evalF (l : List ColL) (row : List Vl) (o : OpL) (a b : Vl) : Vl × Int :=
 if popsF o.k = 1 then oneF o.k a else if popsF o.k = 2 then twoF o.k a b else if o.k = 2 then (row.getD (colAt l o.nm).toNat noVl, 0) else (o.v, 0)
def foldV (l : List ColL) (row : List Vl) (ops : List OpL) : Vl × Int := foldG noVl (evalF l row) ops []
/-- What expr.Eval answers. -/
def evalR (l : List ColL) (row : List Vl) (ops : List OpL) : Vl × Int :=
  if rowF l row ≠ 0 then (noVl, rowF l row) else if (kindR l ops).2 ≠ 0 then (noVl, (kindR l ops).2) else foldV l row ops
theorem ok_no : noVl.Ok := ⟨by decide, by decide, by decide, by decide, Nat.zero_le _⟩
theorem ok_int {n : Int} (h : -9223372036854775808 ≤ n ∧ n ≤ 9223372036854775807) : (⟨2, n, ⟨#[]⟩⟩ : Vl).Ok := ⟨by show -9223372036854775808 ≤ (2 : Int); decide, by show (2 : Int) ≤ _; decide, h.1, h.2, Nat.zero_le _⟩
theorem kind_ok {l : List ColL} {ops : List OpL} (h : (kindR l ops).2 = 0) : colsF l = 0 ∧ exprF ops = 0 ∧ kindR l ops = kindF l ops := by
 unfold kindR at h ⊢
 split at h
 ·rename_i h1; exact absurd h h1
 ·rename_i h1
  split at h
  ·rename_i h2; exact absurd h h2
  ·rename_i h2
   exact ⟨Classical.not_not.1 h1, Classical.not_not.1 h2, by rw [if_neg h1, if_neg h2]⟩
variable {G : List (Nat × List Value)}

end Go.Proofs.YtfooincnmobemaaDoor.Ex

namespace Go.Proofs.YtfooincnmobemaaDoor.Pc
open Go.RowKit V Pk Vl Go.Proofs.YtfooincnmobemaaDoor.Nm
set_option linter.unusedVariables false
set_option linter.unusedSimpArgs false

variable {G : List (Nat × List Value)}
def colsL : List ColL := [⟨⟨#[105, 100]⟩, 2⟩, ⟨⟨#[110]⟩, 2⟩, ⟨⟨#[115]⟩, 3⟩, ⟨⟨#[98]⟩, 1⟩]
def numV (n : Int) : Vl := ⟨2, n, ⟨#[]⟩⟩
theorem nm_id : nameF ⟨#[105, 100]⟩ = 0 := small_name (l := [105, 100]) (by decide) (by decide) (by decide)
theorem nm_n : nameF ⟨#[110]⟩ = 0 := small_name (l := [110]) (by decide) (by decide) (by decide)
theorem nm_s : nameF ⟨#[115]⟩ = 0 := small_name (l := [115]) (by decide) (by decide) (by decide)
theorem nm_b : nameF ⟨#[98]⟩ = 0 := small_name (l := [98]) (by decide) (by decide) (by decide)
theorem cols_ok : colsF colsL = 0 := by
 simp [colsF, colsL, colsA, colF, nm_id, nm_n, nm_s, nm_b, str_list]
theorem cols_sz : ∀ c ∈ colsL, c.n.size ≤ maxLen := fun c hc => by
 have h : c.n.size ≤ 2 := by
  simp only [colsL, List.mem_cons, List.not_mem_nil, or_false] at hc
  rcases hc with rfl | rfl | rfl | rfl
  ·exact Nat.le_refl 2
  ·exact Nat.le_succ 1
  ·exact Nat.le_succ 1
  ·exact Nat.le_succ 1
 exact Nat.le_trans h (by decide)
theorem ck_num (n : Int) : checkV (numV n) = 0 := by
 unfold checkV
 rw [if_neg (show ¬ (numV n).k = 0 by show ¬ (2 : Int) = 0; decide), if_neg (show ¬ (numV n).k = 1 by show ¬ (2 : Int) = 1; decide), if_pos (show (numV n).k = 2 from rfl), if_neg (fun h => h rfl)]
theorem places58_Pc5 : ∀ w, ((#[{ name := "Name", type := 9, offset := 0, embedded := false, tag := "", pkgPath := "", byteOffset := 0 }, { name := "Kind", type := 3, offset := 1, embedded := false, tag := "", pkgPath := "", byteOffset := 16 }] : Array Field).mapM fun f => do pure (f.offset, ← sizeOf f.type) : Sem (Array (Nat × Nat))).run Tryd.prog w = .ok #[(0, 1), (1, 1)] w := fun w => by simp [Tryd.sizeOf3, Tryd.sizeOf9]

set_option maxHeartbeats 4000000 in
set_option maxRecDepth 100000 in
theorem colsOf_vp : VP Tryd.prog G 10 [] (.list 2 (colsL.flatMap cC) colsL.length) := by
 refine VC.body Tryd.func10 rfl Tryd.ntmps10 (Nat.le_of_ble_eq_true rfl) fun X0 w0 S00 => ?_
 refine CD.seq ?_
 refine CD.region ?_
 refine OD.still (wants_plain rfl) rfl (still_as rfl opd_const) ?_
 refine OD.wk (Wk.as_ (n := 6) (l' := []) (S' := []) rfl rfl trivial) ?_
 refine OD.nil ?_
 refine CD.seq ?_
 refine CD.region ?_
 refine OD.still (wants_plain rfl) rfl (still_bld (pl := [(0, _), (1, _)]) (ds := [_, _]) rfl Tryd.zeroValue58 Tryd.runUnderlying58 places58_Pc5 ⟨rfl, opd_const, rfl, opd_const, trivial⟩ rfl rfl) ?_
 refine OD.still (wants_plain rfl) rfl (still_bld (pl := [(0, _), (1, _)]) (ds := [_, _]) rfl Tryd.zeroValue58 Tryd.runUnderlying58 places58_Pc5 ⟨rfl, opd_const, rfl, opd_const, trivial⟩ rfl rfl) ?_
 refine OD.still (wants_plain rfl) rfl (still_bld (pl := [(0, _), (1, _)]) (ds := [_, _]) rfl Tryd.zeroValue58 Tryd.runUnderlying58 places58_Pc5 ⟨rfl, opd_const, rfl, opd_const, trivial⟩ rfl rfl) ?_
 refine OD.still (wants_plain rfl) rfl (still_bld (pl := [(0, _), (1, _)]) (ds := [_, _]) rfl Tryd.zeroValue58 Tryd.runUnderlying58 places58_Pc5 ⟨rfl, opd_const, rfl, opd_const, trivial⟩ rfl rfl) ?_
 refine OD.bldS (pl := numD 0 [_, _, _, _]) (zvs := [.string ⟨#[]⟩, .int .i64 0, .string ⟨#[]⟩, .int .i64 0, .string ⟨#[]⟩, .int .i64 0, .string ⟨#[]⟩, .int .i64 0]) (ds := [_, _, _, _, _, _, _, _]) (wants_plain rfl) rfl rfl Tryd.zeroValue58 Tryd.runUnderlying30 Tryd.sizeOf58 rfl rfl (by kernel_rfl) ⟨rfl, ot, rfl, ot, rfl, ot, rfl, ot, trivial⟩ (by exact rfl) (fill_full (by exact rfl) (by exact rfl) (by exact rfl)) (fun b5 => ?_)
 refine OD.perm (perm_q11 (S1 := [⟨b5, 58, 4 * 2, List.flatMap cC ([⟨⟨#[105, 100]⟩, 2⟩, ⟨⟨#[110]⟩, 2⟩, ⟨⟨#[115]⟩, 3⟩, ⟨⟨#[98]⟩, 1⟩])⟩]) (A := [])) ?_
 refine OD.still (wants_plain rfl) rfl (still_as rfl ot) ?_
 refine OD.wk (Wk.as_ (n := 6) (l' := [(0, _)]) (S' := ([⟨b5, 58, 4 * 2, List.flatMap cC ([⟨⟨#[105, 100]⟩, 2⟩, ⟨⟨#[110]⟩, 2⟩, ⟨⟨#[115]⟩, 3⟩, ⟨⟨#[98]⟩, 1⟩])⟩])) rfl rfl ⟨lk, trivial⟩) ?_
 refine OD.nil ?_
 refine CD.giveL (t := 0) (Sq := [⟨b5, 58, 4 * 2, List.flatMap cC ([⟨⟨#[105, 100]⟩, 2⟩, ⟨⟨#[110]⟩, 2⟩, ⟨⟨#[115]⟩, 3⟩, ⟨⟨#[98]⟩, 1⟩])⟩]) lk (ownL_row (g := cC) (sz := 2) (e := 58) (ls := [⟨⟨#[105, 100]⟩, 2⟩, ⟨⟨#[110]⟩, 2⟩, ⟨⟨#[115]⟩, 3⟩, ⟨⟨#[98]⟩, 1⟩]) (Nat.le_refl _) (show 4 ≤ maxLen by decide)) (fm_len cC_len _) (perm_r11 (A := [])) ?_
 refine CD.ret ?_
 refine ⟨.inr rfl, _, [], List.nil_sublist _, ret_one Tryd.results10 (res_tmp (Nat.le_of_ble_eq_true rfl) lk), ?_⟩
 exact ⟨rfl, rfl⟩

end Go.Proofs.YtfooincnmobemaaDoor.Pc

namespace Go.Proofs.YtfooincnmobemaaDoor.Ex
open Go.RowKit V Pk Vl Go.Proofs.YtfooincnmobemaaDoor.Nm Go.Proofs.YtfooincnmobemaaDoor.Pc
set_option linter.unusedVariables false
set_option linter.unusedSimpArgs false

/-- A value of a kind, or Null. -/
def RelKV (k : Int) (v : Vl) : Prop := checkV v = 0 ∧ (v.k = k ∨ v.k = 0)
/-- An op that is fit for columns. -/
structure GoodO (l : List ColL) (o : OpL) : Prop where
  nm : o.nm.size ≤ maxLen
  ok : o.v.Ok
  ck : checkV o.v = 0
  k1 : 1 ≤ o.k
  k2 : o.k ≤ 11
  col : o.k = 2 → 0 ≤ colAt l o.nm
theorem cons_ok {α : Type} {z : α} {f : OpL → α → α → α × Int} {o : OpL} {r : List OpL} {st : List α} (h : (f o (argA z o.k st) (argB z o.k st)).2 = 0) : foldG z f (o :: r) st = foldG z f r (st.take (st.length - (popsF o.k).toNat) ++ [(f o (argA z o.k st) (argB z o.k st)).1]) := by
 rw [foldG, if_neg (by rw [h]; simp)]
/-! ### Ops of twigs, the columns and rows of the statements -/
theorem at_id : colAt colsL ⟨#[105, 100]⟩ = 0 := by decide +kernel
theorem at_n : colAt colsL ⟨#[110]⟩ = 1 := by decide +kernel
end Go.Proofs.YtfooincnmobemaaDoor.Ex

namespace Go.Proofs.YtfooincnmobemaaDoor.Pc
open Go.RowKit V Pk Vl Go.Proofs.YtfooincnmobemaaDoor.Nm
set_option linter.unusedVariables false
set_option linter.unusedSimpArgs false


def typesB : List (List UInt8) := [[], [66, 79, 79, 76], [73, 78, 84], [84, 69, 88, 84]]
abbrev TypesTab (w : World) : Prop := Tab.TabAt w 2 typesC
end Go.Proofs.YtfooincnmobemaaDoor.Pc

namespace Go.Proofs.YtfooincnmobemaaDoor.Ex
end Go.Proofs.YtfooincnmobemaaDoor.Ex


namespace Go.Proofs.YtfooincnmobemaaDoor.Ex
open Go.RowKit V Pk Vl Go.Proofs.YtfooincnmobemaaDoor.Nm Go.Proofs.YtfooincnmobemaaDoor.Pc
set_option linter.unusedVariables false
set_option linter.unusedSimpArgs false

/-! ### Ops over a stack, part by part -/
section
variable {α : Type} {z : α} {f : OpL → α → α → α × Int}
end
def colN : OpL := ⟨2, noVl, ⟨#[110]⟩⟩
end Go.Proofs.YtfooincnmobemaaDoor.Ex

namespace Go.Proofs.YtfooincnmobemaaDoor.Ex
end Go.Proofs.YtfooincnmobemaaDoor.Ex


namespace Go.Proofs.YtfooincnmobemaaDoor.V
open Go.RowKit
set_option linter.unusedVariables false
set_option linter.unusedSimpArgs false

variable {P : Program} {C : Ctx} {G : List (Nat × List Value)} {Q : Exit → St → Prop} {x : St} {ops : Array Oper} {l : List Oper} {o : Oper} {S1 T : List Nat} {fuel i : Nat} {ld : Array Bool}

/-- What the entries of Go's library read of a list of bytes. -/
theorem bytesOf_rep {w w' : World} {L : Nat → Prop} {bs : List UInt8} {n : Nat} {v : Value} (hr : Rep w L (.list 1 (bs.flatMap cB) n) v) (hw : ∀ b, b < w.heap.size → ¬ L b → w'.heap[b]? = w.heap[b]?) :
    (Extern.Bytes.bytesOf v).run P w' = .ok ⟨bs.toArray⟩ w' := by
  rw [cB_map] at hr
  generalize hcs : bs.map byteD = cs at hr
  cases hr with
  | void _ ad cap =>
    have : bs = [] := by simpa using hcs
    subst this
    cases ad <;> rfl
  | list _ _ _ b o'' cap g hl q1 q2 hb hL hc hrr =>
    subst hcs
    simp only [List.length_map, Nat.mul_one] at hl hc
    have hrun := Lib.run_loadBytesX (P := P) w' (bs.map fun c => (c.toNat : Int)) ⟨b, o'', none⟩ .empty (fun j x hj => by
      rw [Addr.add_mid]
      have hjl : j < bs.length := by have := (List.getElem?_eq_some_iff.1 hj).1; simpa using this
      have hh := World.cell?_of_block (w := w) (a := ⟨b, o'' + j, none⟩) (hw b hb hL)
      rw [hh, hc j hjl]
      have h1 := hrr j (by simpa using hjl)
      simp only [List.getElem_map, byteD] at h1
      rw [h1.v_eq]
      rw [List.getElem?_map, List.getElem?_eq_getElem hjl] at hj
      simp only [Option.map_some, Option.some.injEq] at hj
      rw [hj])
    rw [List.length_map, hl] at hrun
    have e : Lib.bytesOf (bs.map fun c => (c.toNat : Int)) = bs := by
      unfold Lib.bytesOf
      rw [List.map_map]
      have : ∀ c : UInt8, ((fun n : Int => UInt8.ofNat n.toNat) ∘ fun c : UInt8 => (c.toNat : Int)) c = c := fun c => by simp
      rw [List.map_congr_left (g := id) (fun c _ => this c), List.map_id]
    rw [e] at hrun
    show (Extern.Bytes.loadBytes ⟨b, o'', none⟩ n .empty).run P w' = _
    rw [hrun]
    congr 1
    apply ByteArray.ext
    show (#[] : Array UInt8) ++ bs.toArray = bs.toArray
    simp

/-- internal/bytealg.Compare of two lists of bytes. -/
theorem still_bytecmp {f : FuncId} {fn : Func} {y z : Operand} {ts : Array TypeId} {ds bs : List UInt8} {n m : Nat} (ho : o.op = .call { callee := .value (.func f), args := #[y, z], argTypes := ts }) (hy : opd x y = .list 1 (ds.flatMap cB) n) (hz : opd x z = .list 1 (bs.flatMap cB) m)
    (hf : P.funcs[f]? = some fn) (hname : (fn.name == "runtime.NumGoroutine") = false) (hb : fn.body.isNone = true) (hn : Extern.findNext fn = none) (he : Extern.find fn = some Extern.BytealgCompare.compare) :
    Still P G x o .imm (.v (.int .i64 (Lib.compareBytes ds bs))) := fun C a w _ h => by
  have h1 := h.eval y
  have h2 := h.eval z
  rw [hy] at h1
  rw [hz] at h2
  refine ⟨_, .v _, fun w' hw => ?_⟩
  have e1 := bytesOf_rep (P := P) h1 hw
  have e2 := bytesOf_rep (P := P) h2 hw
  have hc : (callFunc f #[a.eval y, a.eval z]).run P w' = .ok (.value (.int .i64 (Lib.compareBytes ds bs))) w' := by
    rw [run_callFunc_extern hf hname hb hn he]
    have : (Extern.BytealgCompare.compare #[a.eval y, a.eval z]).run P w' = .ok (.int .i64 (Lib.compareBytes ds bs)) w' := by
      change Sem.run P (do pure (goInt (Extern.BytealgCompare.cmp (← Extern.Bytes.bytesOf (a.eval y)) (← Extern.Bytes.bytesOf (a.eval z))))) w' = _
      simp only [Sem.run_bind, e1, e2, Sem.run_pure, Result.andThen_ok, Lib.cmp_eq]
      rfl
    rw [this]; rfl
  unfold execOp
  have ef : a.eval (.func f) = .func (.func f) #[] #[] := rfl
  generalize hy' : a.eval y = u at *
  generalize hz' : a.eval z = v at *
  simp only [ho, resolve, ef, Deferred.ofValue, Sem.run_bind, Sem.run_pure, Result.andThen_ok, invoke]
  simp [hc, hy', hz']
/-- A block's cells may be read another way, each by itself. -/
theorem Wk.reread {n : Nat} {l : List (Nat × D)} {S : List Blk} {k : Nat} {B : Blk} {cs' : List D} (hk : S[k]? = some B) (hl : cs'.length ≤ B.size) (hc : ∀ (i : Nat) (d : D), cs'[i]? = some d → ∃ d0, B.cs[i]? = some d0 ∧ ∀ (w : World) (L : Nat → Prop) (v : Value), Rep w L d0 v → Rep w L d v) : Wk ⟨n, l, S⟩ ⟨n, l, S.set k { B with cs := cs' }⟩ := fun C a w h => by
  have hkl := (List.getElem?_eq_some_iff.1 hk).1
  have hkB := (List.getElem?_eq_some_iff.1 hk).2
  have hbks : bks (S.set k { B with cs := cs' }) = bks S := by
    unfold bks
    rw [List.map_set]
    apply List.ext_getElem (by simp)
    intro i q1 q2
    rw [List.getElem_set]
    split
    · rename_i e; subst e; simp [hkB]
    · rfl
  have hlive : live C.X (S.set k { B with cs := cs' }) = live C.X S := by funext b; simp only [live, hbks]
  refine ⟨h.defers, h.size, fun t ht => ?_, ⟨fun B' hB' => ?_, ?_⟩, ?_, h.ex, h.tab⟩
  · simp only [hlive]; exact h.env t ht
  · simp only [hlive]
    obtain ⟨j, hj, hje⟩ := List.mem_iff_getElem.1 hB'
    rw [List.length_set] at hj
    rw [List.getElem_set] at hje
    by_cases e : k = j
    · rw [if_pos e] at hje
      subst hje
      obtain ⟨r0, cur, r1, r2, r3, r4⟩ := h.own.at_ B (List.mem_of_getElem? hk)
      refine ⟨r0, cur, r1, r2, hl, fun i hi => ?_⟩
      simp only at hi hl
      obtain ⟨d0, hd, hrr⟩ := hc i _ (List.getElem?_eq_getElem hi)
      obtain ⟨hd1, hd2⟩ := List.getElem?_eq_some_iff.1 hd
      obtain ⟨u, hu, hq⟩ := r4 i hd1
      rw [hd2] at hq
      exact ⟨u, hu, hrr _ _ _ hq⟩
    · rw [if_neg e] at hje
      subst hje
      exact h.own.at_ _ (List.getElem_mem hj)
  · simp only [hbks]; exact h.own.apart
  · simp only [hbks]; exact h.fr
theorem Rep.ofNil {w : World} {L : Nat → Prop} (sz : Nat) {v : Value} (h : Rep w L (.v (.slice none 0 0)) v) : Rep w L (.list sz [] 0) v := by rw [h.v_eq]; exact .nil sz
/-- Nil slices in two cells are empty lists. -/
theorem Wk.nil2 {n : Nat} {l : List (Nat × D)} {S : List Blk} {k : Nat} {b e : Nat} {sz sz' : Nat} (hk : S[k]? = some ⟨b, e, 2, [.v (.slice none 0 0), .v (.slice none 0 0)]⟩) : Wk ⟨n, l, S⟩ ⟨n, l, S.set k ⟨b, e, 2, [.list sz [] 0, .list sz' [] 0]⟩⟩ :=
  Wk.reread hk (by simp) fun i d hd => by
    match i, hd with
    | 0, hd => cases hd; exact ⟨_, rfl, fun _ _ _ h => h.ofNil sz⟩
    | 1, hd => cases hd; exact ⟨_, rfl, fun _ _ _ h => h.ofNil sz'⟩
    | i + 2, hd => simp at hd
/-- A piece of a list, from a place up to another one. -/
theorem sl_mid {α : Type} {g : α → List D} {t e : TypeId} {sz l' h' : Nat} {lo hi : Option Operand} (hg : ∀ a, (g a).length = sz) {ls : List α} (hlo : lo = none → l' = 0) (hhi : hi = none → h' = ls.length)
    (hu : ∀ w, (underlying t).run P w = .ok (.slice e) w) (hs : ∀ w, (sizeOf e).run P w = .ok sz w) (h1 : l' ≤ h') (h2 : h' ≤ ls.length) : Rs P G t lo hi l' h' (.list sz (ls.flatMap g) ls.length) (.list sz (((ls.take h').drop l').flatMap g) ((ls.take h').drop l').length) := by
  have h := sl_list (P := P) (G := G) (sz := sz) (cs := ls.flatMap g) hlo hhi hu hs h1 h2
  rw [fm_drop hg, fm_take hg, ← List.drop_take] at h
  rw [show ((ls.take h').drop l').length = h' - l' by rw [List.length_drop, List.length_take]; omega]
  exact h
end Go.Proofs.YtfooincnmobemaaDoor.V
