/-
  What the proof of BoundsHold leans on, part 4 of 5: walks of the program's functions at the level of values, and plain facts of what they compute.
-/
import Derived.Test.YtfooincnmobemaaGreatDoorPBoundsHold3
namespace Go.Proofs.YtfooincnmobemaaGreatDoor.Ex
open Go.RowKit V Pk Vl Go.Proofs.YtfooincnmobemaaGreatDoor.Cd
set_option linter.unusedVariables false
set_option linter.unusedSimpArgs false

def wr (n : Int) : Int := IntKind.i64.wrap n
theorem wr_bd (n : Int) : -9223372036854775808 ≤ wr n ∧ wr n ≤ 9223372036854775807 := by unfold wr; rw [IntKind.wrap_i64]; omega
def truthV (b : Bool) : Vl := if b = true then ⟨1, 1, ⟨#[]⟩⟩ else ⟨1, 0, ⟨#[]⟩⟩
def selV (a b : Vl) (i : Nat) : Vl := if i = 0 then a else b
theorem sel_cells (a b : Vl) {i : Nat} (h : i < 2) : (([.v (.int .i64 a.k), .v (.int .i64 a.n), .v (.string a.s), .v (.int .i64 b.k), .v (.int .i64 b.n), .v (.string b.s)] : List D).drop (i * 3)).take 3 = [.v (.int .i64 (selV a b i).k), .v (.int .i64 (selV a b i).n), .v (.string (selV a b i).s)] := by
 match i, h with
 | 0, _ | 1, _ => rfl
/-- What value.logic answers. -/
def logicF (a b : Vl) (d : Int) : Vl × Int :=
  if (a.k ≠ 1 ∧ a.k ≠ 0) ∨ (b.k ≠ 1 ∧ b.k ≠ 0) then (noVl, 4) else if a.k = 1 ∧ a.n = d then (a, 0) else if b.k = 1 ∧ b.n = d then (b, 0) else if a.k = 0 ∨ b.k = 0 then (noVl, 0) else (a, 0)
theorem sel_all {a b : Vl} {p : Vl → Prop} {i : Nat} (h : ∀ j, j < i → p (selV a b j)) (hi : 2 ≤ i) : p a ∧ p b := ⟨h 0 (by omega), h 1 (by omega)⟩
theorem sel_more {a b : Vl} {p : Vl → Prop} {i : Nat} (h : ∀ j, j < i → p (selV a b j)) (h1 : p (selV a b i)) : ∀ j, j < i + 1 → p (selV a b j) := fun j hj => by
 by_cases e : j = i
 ·subst e; exact h1
 ·exact h j (by omega)
theorem logic_bad {a b : Vl} {d : Int} {i : Nat} (hi : i < 2) (h1 : (selV a b i).k ≠ 1) (h2 : (selV a b i).k ≠ 0) : logicF a b d = (noVl, 4) := by
 unfold logicF
 match i, hi with
 | 0, _ => rw [if_pos (.inl ⟨h1, h2⟩)]
 | 1, _ => rw [if_pos (.inr ⟨h1, h2⟩)]
theorem logic_hit {a b : Vl} {d : Int} {i : Nat} (hi : i < 2) (hg : ¬ ((a.k ≠ 1 ∧ a.k ≠ 0) ∨ (b.k ≠ 1 ∧ b.k ≠ 0))) (h0 : ∀ j, j < i → ¬ ((selV a b j).k = 1 ∧ (selV a b j).n = d)) (h1 : (selV a b i).k = 1) (h2 : (selV a b i).n = d) : logicF a b d = (selV a b i, 0) := by
 unfold logicF
 rw [if_neg hg]
 match i, hi with
 | 0, _ => rw [if_pos ⟨h1, h2⟩]; rfl
 | 1, _ => rw [if_neg (show ¬ (a.k = 1 ∧ a.n = d) from h0 0 (by omega)), if_pos (show b.k = 1 ∧ b.n = d from ⟨h1, h2⟩)]; rfl
/-- What value.arith answers. -/
def arithF (k a b : Int) : Int × Bool :=
  if k = 8 then (wr (a + b), decide (wr (a + b) < a) == decide (b < 0)) else if k = 9 then (wr (a - b), decide (wr (a - b) > a) == decide (b < 0))
  else (wr (a * b), a == 0 || (wr ((wr (a * b)).tdiv a) == b && !(a == -1 && b == -9223372036854775808)))
def nullF (a b : Vl) : Bool := a.k == 0 || b.k == 0
/-- What value.Two answers. -/
def twoF (k : Int) (a b : Vl) : Vl × Int :=
  if bothV a b ≠ 0 then (noVl, bothV a b) else if k = 3 then logicF a b 0 else if k = 4 then logicF a b 1
  else if k = 6 ∨ k = 7 then (if nullF a b = true then (noVl, 0) else if a.k ≠ b.k then (noVl, 4) else (truthV ((cmpV a b == 0 && k == 6) || (decide (cmpV a b < 0) && k == 7)), 0))
  else if k = 8 ∨ k = 9 ∨ k = 10 then (if (a.k ≠ 2 ∧ a.k ≠ 0) ∨ (b.k ≠ 2 ∧ b.k ≠ 0) then (noVl, 4) else if nullF a b = true then (noVl, 0) else if (arithF k a.n b.n).2 = true then (⟨2, (arithF k a.n b.n).1, ⟨#[]⟩⟩, 0) else (noVl, 5))
  else (noVl, 2)
/-- What value.One answers. -/
def oneF (k : Int) (a : Vl) : Vl × Int :=
  if checkV a ≠ 0 then (noVl, checkV a) else if k = 11 then (truthV (a.k == 0), 0)
  else if k = 5 then (if a.k = 0 then (a, 0) else if a.k = 1 then (truthV (a.n == 0), 0) else (noVl, 4)) else (noVl, 2)
def vlD (r : Vl × Int) : D := .tup [.agg (cV r.1), .v (.int .i64 r.2)]
variable {G : List (Nat × List Value)}

theorem places26_Ex2 : ∀ w, ((#[{ name := "Kind", type := 3, offset := 0, embedded := false, tag := "", pkgPath := "", byteOffset := 0 }, { name := "Int", type := 3, offset := 1, embedded := false, tag := "", pkgPath := "", byteOffset := 8 }, { name := "Text", type := 9, offset := 2, embedded := false, tag := "", pkgPath := "", byteOffset := 16 }] : Array Field).mapM fun f => do pure (f.offset, ← sizeOf f.type) : Sem (Array (Nat × Nat))).run Tryz.prog w = .ok #[(0, 1), (1, 1), (2, 1)] w := fun w => by simp [Tryz.sizeOf3, Tryz.sizeOf9]

set_option maxHeartbeats 4000000 in
set_option maxRecDepth 100000 in
theorem truth_vp (b : Bool) : VP Tryz.prog G 45 [.v (.bool b)] (.agg (cV (truthV b))) := by
 refine VC.body Tryz.func45 rfl Tryz.ntmps45 (Nat.le_of_ble_eq_true rfl) fun X0 w0 S00 => ?_
 refine sr_ ?_
 refine OD.alloc (ds := [_, _, _]) (wants_plain rfl) rfl rfl Tryz.zeroValue26 rfl (fun b2 => ?_)
 refine OD.wk (Wk.as_ (n := 6) (l' := [(0, _), (2, _)]) (S' := [⟨b2, 26, 3, [_, _, _]⟩]) rfl rfl ⟨lk, lk, trivial⟩) ?_
 refine OD.nil ?_
 refine CD.seq ?_
 refine sr_ ?_
 refine os_ mv_ ?_
 refine nm_ [2, 3] ?_
 refine CD.cond ot (fun hc0 => ?_) (fun hc0 => ?_)
 ·have hc0' := hc0
  (try simp only [V.cnd, ne_eq] at hc0')
  refine sr_ ?_
  refine OD.still (wants_plain rfl) rfl (still_bld (pl := [(0, _), (1, _)]) (ds := [_, _, _]) rfl Tryz.zeroValue26 Tryz.runUnderlying26 places26_Ex2 ⟨rfl, opd_const, rfl, opd_const, trivial⟩ rfl rfl) ?_
  refine OD.store (k := 0) (cs' := [_, _, _]) (wants_plain rfl) rfl rfl ot rfl rfl ot rfl rfl Tryz.sizeOf26 rfl rfl rfl ?_
  refine OD.wk (Wk.as_ (n := 6) (l' := [(2, _)]) (S' := [⟨b2, 26, 3, [_, _, _]⟩]) rfl rfl ⟨lk, trivial⟩) ?_
  refine OD.nil ?_
  refine CD.ret ?_
  refine ⟨.inr rfl, _, [], List.nil_sublist _, ret_one Tryz.results45 (res_cells (k := 0) (ds := [_, _, _]) (Nat.le_of_ble_eq_true rfl) lk rfl rfl Tryz.isAgg26 Tryz.sizeOf26 rfl rfl), ?_⟩
  refine ⟨?_, rfl⟩
  unfold truthV
  simp_all [cV]
 ·have hc0' := hc0
  (try simp only [V.cnd, ne_eq] at hc0')
  refine CD.skip ?_
  refine sr_ ?_
  refine OD.still (wants_plain rfl) rfl (still_bld (pl := [(0, _)]) (ds := [_, _, _]) rfl Tryz.zeroValue26 Tryz.runUnderlying26 places26_Ex2 ⟨rfl, opd_const, trivial⟩ rfl rfl) ?_
  refine OD.store (k := 0) (cs' := [_, _, _]) (wants_plain rfl) rfl rfl ot rfl rfl ot rfl rfl Tryz.sizeOf26 rfl rfl rfl ?_
  refine OD.wk (Wk.as_ (n := 6) (l' := [(2, _)]) (S' := [⟨b2, 26, 3, [_, _, _]⟩]) rfl rfl ⟨lk, trivial⟩) ?_
  refine OD.nil ?_
  refine CD.ret ?_
  refine ⟨.inr rfl, _, [], List.nil_sublist _, ret_one Tryz.results45 (res_cells (k := 0) (ds := [_, _, _]) (Nat.le_of_ble_eq_true rfl) lk rfl rfl Tryz.isAgg26 Tryz.sizeOf26 rfl rfl), ?_⟩
  refine ⟨?_, rfl⟩
  unfold truthV
  simp_all [cV]

set_option maxHeartbeats 4000000 in
set_option maxRecDepth 100000 in
theorem null_vp (a b : Vl) : VP Tryz.prog G 48 [.agg (cV a), .agg (cV b)] (.v (.bool (nullF a b))) := by
 refine VC.body Tryz.func48 rfl Tryz.ntmps48 (Nat.le_of_ble_eq_true rfl) fun X0 w0 S00 => ?_
 unfold cV
 refine sr_ ?_
 refine OD.box (ds := [_, _, _]) (wants_plain rfl) rfl rfl ot rfl rfl (fun b2 => ?_)
 refine OD.box (ds := [_, _, _]) (wants_plain rfl) rfl rfl ot rfl rfl (fun b3 => ?_)
 refine os_ mv_ ?_
 refine OD.wk (Wk.as_ (n := 13) (l' := [(2, _), (3, _)]) (S' := [⟨b3, 26, 3, [_, _, _]⟩, ⟨b2, 26, 3, [_, _, _]⟩]) rfl rfl ⟨lk, lk, trivial⟩) ?_
 refine OD.nil ?_
 refine sr_ ?_
 refine os_ (fa_ 0) ?_
 refine os_ (lb_ 1) ?_
 refine os_ bn_ ?_
 refine os_ mv_ ?_
 refine OD.split (t := 8) lk (fun hg8 => ?_) (fun hg8 => ?_)
 ·have hg8' := hg8; (try simp only [V.cnd, ne_eq] at hg8')
  refine sk_ ?_
  refine sk_ ?_
  refine sk_ ?_
  refine os_ pkT_ ?_
  refine os_ mv_ ?_
  refine nm_ [4] ?_
  refine CD.ret ?_
  refine r1_ ?_
  refine ⟨vb ?_, rfl⟩
  unfold nullF
  simp_all
 ·have hg8' := hg8; (try simp only [V.cnd, ne_eq] at hg8')
  refine os_ (fa_ 0) ?_
  refine os_ (lb_ 0) ?_
  refine os_ bn_ ?_
  refine os_ pkF_ ?_
  refine os_ mv_ ?_
  refine nm_ [4] ?_
  refine CD.ret ?_
  refine r1_ ?_
  refine ⟨vb ?_, rfl⟩
  unfold nullF
  simp_all

set_option maxHeartbeats 4000000 in
set_option maxRecDepth 100000 in
theorem logic_vp (a b : Vl) (d : Int) : VP Tryz.prog G 47 [.agg (cV a), .agg (cV b), .v (.int .i64 d)] (vlD (logicF a b d)) := by
 refine VC.body Tryz.func47 rfl Tryz.ntmps47 (Nat.le_of_ble_eq_true rfl) fun X0 w0 S00 => ?_
 unfold vlD cV
 have hnv := null_vp (G := G) a b
 unfold cV at hnv
 refine sr_ ?_
 refine OD.box (ds := [_, _, _]) (wants_plain rfl) rfl rfl ot rfl rfl (fun b3 => ?_)
 refine OD.box (ds := [_, _, _]) (wants_plain rfl) rfl rfl ot rfl rfl (fun b4 => ?_)
 refine OD.alloc (ds := [_, _, _]) (wants_plain rfl) rfl rfl Tryz.zeroValue26 rfl (fun b6 => ?_)
 refine os_ mv_ ?_
 refine OD.wk (Wk.as_ (n := 50) (l' := [(2, _), (3, _), (4, _), (6, _)]) (S' := [⟨b6, 26, 3, [_, _, _]⟩, ⟨b4, 26, 3, [_, _, _]⟩, ⟨b3, 26, 3, [_, _, _]⟩]) rfl rfl ⟨lk, lk, lk, lk, trivial⟩) ?_
 refine OD.nil ?_
 refine CD.seq ?_
 refine sr_ ?_
 refine os_ (lab_ 2 [_, _, _]) ?_
 refine os_ (lab_ 1 [_, _, _]) ?_
 refine OD.still (wants_plain rfl) rfl (still_bldA (pl := [(0, _), (1, _)]) (ds := [_, _, _, _, _, _]) rfl Tryz.zeroValue92 Tryz.runUnderlying92 Tryz.sizeOf26 ⟨rfl, ot, rfl, ot, trivial⟩ rfl rfl) ?_
 refine os_ mv_ ?_
 refine OD.wk (Wk.as_ (n := 50) (l' := [(2, _), (3, _), (4, _), (6, _), (14, _), (15, _)]) (S' := [⟨b6, 26, 3, [_, _, _]⟩, ⟨b4, 26, 3, [_, _, _]⟩, ⟨b3, 26, 3, [_, _, _]⟩]) rfl rfl ⟨lk, lk, lk, lk, lk, lk, trivial⟩) ?_
 refine OD.nil ?_
 refine CD.block ?_
 refine CD.wk (Wk.asS (n := 50) (l' := [(2, .v (.int .i64 d)), (3, .v (.pointer (some ⟨b3, 0, none⟩))), (4, .v (.pointer (some ⟨b4, 0, none⟩))), (6, .v (.pointer (some ⟨b6, 0, none⟩))), (14, .agg [.v (.int .i64 a.k), .v (.int .i64 a.n), .v (.string a.s), .v (.int .i64 b.k), .v (.int .i64 b.n), .v (.string b.s)]), (15, .v (.int .i64 ((0) : Nat)))]) (S' := [⟨b6, 26, 3, [.v (.int .i64 0), .v (.int .i64 0), .v (.string ⟨#[]⟩)]⟩, ⟨b4, 26, 3, [.v (.int .i64 b.k), .v (.int .i64 b.n), .v (.string b.s)]⟩, ⟨b3, 26, 3, [.v (.int .i64 a.k), .v (.int .i64 a.n), .v (.string a.s)]⟩]) rfl (by repeat (first | exact List.Sublist.refl _ | apply List.Sublist.cons)) ⟨(by (repeat (first | exact look_hit | (apply look_at; focus (first | rfl | (simp; done) | (congr 2; omega))) | (apply look_miss; focus rfl))); done), (by (repeat (first | exact look_hit | (apply look_at; focus (first | rfl | (simp; done) | (congr 2; omega))) | (apply look_miss; focus rfl))); done), (by (repeat (first | exact look_hit | (apply look_at; focus (first | rfl | (simp; done) | (congr 2; omega))) | (apply look_miss; focus rfl))); done), (by (repeat (first | exact look_hit | (apply look_at; focus (first | rfl | (simp; done) | (congr 2; omega))) | (apply look_miss; focus rfl))); done), (by (repeat (first | exact look_hit | (apply look_at; focus (first | rfl | (simp; done) | (congr 2; omega))) | (apply look_miss; focus rfl))); done), (by (repeat (first | exact look_hit | (apply look_at; focus (first | rfl | (simp; done) | (congr 2; omega))) | (apply look_miss; focus rfl))); done), trivial⟩) (CD.loop (fun (i : Nat) y__ => (i ≤ 2) ∧ (∀ j, j < i → ¬ ((selV a b j).k ≠ 1 ∧ (selV a b j).k ≠ 0)) ∧ y__ = (⟨50, [(2, .v (.int .i64 d)), (3, .v (.pointer (some ⟨b3, 0, none⟩))), (4, .v (.pointer (some ⟨b4, 0, none⟩))), (6, .v (.pointer (some ⟨b6, 0, none⟩))), (14, .agg [.v (.int .i64 a.k), .v (.int .i64 a.n), .v (.string a.s), .v (.int .i64 b.k), .v (.int .i64 b.n), .v (.string b.s)]), (15, .v (.int .i64 (i : Nat)))], [⟨b6, 26, 3, [.v (.int .i64 0), .v (.int .i64 0), .v (.string ⟨#[]⟩)]⟩, ⟨b4, 26, 3, [.v (.int .i64 b.k), .v (.int .i64 b.n), .v (.string b.s)]⟩, ⟨b3, 26, 3, [.v (.int .i64 a.k), .v (.int .i64 a.n), .v (.string a.s)]⟩]⟩ : St)) (fun (i : Nat) => 2 - i) 0 ⟨(Nat.zero_le _), (fun j hj => absurd hj (Nat.not_lt_zero _)), rfl⟩ ?_)
 rintro i _ ⟨hi, hall, rfl⟩
 refine sr_ ?_
 refine os_ bn_ ?_
 refine nm_ [2, 3, 4, 6, 14, 15, 16] ?_
 refine CD.seq ?_
 refine CD.cond ot (fun hc0 => ?_) (fun hc0 => ?_)
 ·have hc0' := hc0
  (try simp only [V.cnd, ne_eq] at hc0')
  have hlt : i < 2 := by omega
  refine CD.skip ?_
  refine CD.seq ?_
  refine CD.block ?_
  refine sr_ ?_
  refine OD.still (wants_plain rfl) rfl (still_vidxs (j := i) rfl ot ot Tryz.runUnderlying92 Tryz.sizeOf26 Tryz.isAgg26 rfl hlt (sel_cells a b hlt)) ?_
  refine OD.alloc (ds := [_, _, _]) (wants_plain rfl) rfl rfl Tryz.zeroValue26 rfl (fun b9 => ?_)
  refine OD.store (k := 0) (cs' := [_, _, _]) (wants_plain rfl) rfl rfl ot rfl rfl ot rfl rfl Tryz.sizeOf26 rfl rfl rfl ?_
  refine OD.wk (Wk.as_ (n := 50) (l' := [(2, _), (3, _), (4, _), (6, _), (9, _), (14, _), (15, _)]) (S' := [⟨b9, 26, 3, [_, _, _]⟩, ⟨b6, 26, 3, [_, _, _]⟩, ⟨b4, 26, 3, [_, _, _]⟩, ⟨b3, 26, 3, [_, _, _]⟩]) rfl rfl ⟨lk, lk, lk, lk, lk, lk, lk, trivial⟩) ?_
  refine OD.nil ?_
  refine sr_ ?_
  refine os_ (fa_ 0) ?_
  refine os_ (lb_ 0) ?_
  refine os_ bn_ ?_
  refine os_ mv_ ?_
  refine OD.split (t := 21) lk (fun hg21 => ?_) (fun hg21 => ?_)
  ·have hg21' := hg21; (try simp only [V.cnd, ne_eq] at hg21')
   refine os_ (fa_ 0) ?_
   refine os_ (lb_ 0) ?_
   refine os_ bn_ ?_
   refine os_ pkT_ ?_
   refine nm_ [2, 3, 4, 6, 14, 15, 25] ?_
   refine CD.cond ot (fun hc1 => ?_) (fun hc1 => ?_)
   ·have hc1' := hc1
    (try simp only [V.cnd, ne_eq] at hc1')
    have hres : logicF a b d = (noVl, 4) := logic_bad hlt (by simp_all) (by simp_all)
    refine sr_ ?_
    refine OD.still (wants_plain rfl) rfl (still_bld (pl := []) (ds := [_, _, _]) rfl Tryz.zeroValue26 Tryz.runUnderlying26 places26_Ex2 trivial rfl rfl) ?_
    refine OD.store (k := 1) (cs' := [_, _, _]) (wants_plain rfl) rfl rfl ot rfl rfl ot rfl rfl Tryz.sizeOf26 rfl rfl rfl ?_
    refine os_ mv_ ?_
    refine OD.wk (Wk.as_ (n := 50) (l' := [(6, _), (7, _)]) (S' := [⟨b9, 26, 3, [_, _, _]⟩, ⟨b6, 26, 3, [_, _, _]⟩, ⟨b4, 26, 3, [_, _, _]⟩, ⟨b3, 26, 3, [_, _, _]⟩]) rfl rfl ⟨lk, lk, trivial⟩) ?_
    refine OD.nil ?_
    refine CD.ret ?_
    refine ⟨.inr rfl, _, [], List.nil_sublist _, ret_two Tryz.results47 (res_cells (k := 1) (ds := [_, _, _]) (Nat.le_of_ble_eq_true rfl) lk rfl rfl Tryz.isAgg26 Tryz.sizeOf26 rfl rfl) (res_tmp (Nat.le_of_ble_eq_true rfl) lk), ?_⟩
    rw [hres]; exact ⟨rfl, rfl⟩
   ·have hc1' := hc1
    (try simp only [V.cnd, ne_eq] at hc1')
    have hone : ¬ ((selV a b i).k ≠ 1 ∧ (selV a b i).k ≠ 0) := by simp_all
    refine CD.skip ?_
    refine CD.region ?_
    refine os_ bn_ ?_
    refine os_ mv_ ?_
    refine nm_ [2, 3, 4, 6, 14, 15] ?_
    refine ⟨(i + 1), ⟨50, [(2, .v (.int .i64 d)), (3, .v (.pointer (some ⟨b3, 0, none⟩))), (4, .v (.pointer (some ⟨b4, 0, none⟩))), (6, .v (.pointer (some ⟨b6, 0, none⟩))), (14, .agg [.v (.int .i64 a.k), .v (.int .i64 a.n), .v (.string a.s), .v (.int .i64 b.k), .v (.int .i64 b.n), .v (.string b.s)]), (15, .v (.int .i64 (((i + 1)) : Nat)))], [⟨b6, 26, 3, [.v (.int .i64 0), .v (.int .i64 0), .v (.string ⟨#[]⟩)]⟩, ⟨b4, 26, 3, [.v (.int .i64 b.k), .v (.int .i64 b.n), .v (.string b.s)]⟩, ⟨b3, 26, 3, [.v (.int .i64 a.k), .v (.int .i64 a.n), .v (.string a.s)]⟩]⟩, ?_, Wk.asS (n := 50) rfl (by repeat (first | exact List.Sublist.refl _ | apply List.Sublist.cons)) ⟨(by (repeat (first | exact look_hit | (apply look_at; focus (first | rfl | (simp; done) | (congr 2; omega))) | (apply look_miss; focus rfl))); done), (by (repeat (first | exact look_hit | (apply look_at; focus (first | rfl | (simp; done) | (congr 2; omega))) | (apply look_miss; focus rfl))); done), (by (repeat (first | exact look_hit | (apply look_at; focus (first | rfl | (simp; done) | (congr 2; omega))) | (apply look_miss; focus rfl))); done), (by (repeat (first | exact look_hit | (apply look_at; focus (first | rfl | (simp; done) | (congr 2; omega))) | (apply look_miss; focus rfl))); done), (by (repeat (first | exact look_hit | (apply look_at; focus (first | rfl | (simp; done) | (congr 2; omega))) | (apply look_miss; focus rfl))); done), (by (repeat (first | exact look_hit | (apply look_at; focus (first | rfl | (simp; done) | (congr 2; omega))) | (apply look_miss; focus rfl))); done), trivial⟩, (by omega), (sel_more (p := fun v => ¬ (v.k ≠ 1 ∧ v.k ≠ 0)) hall hone), rfl⟩
    first | omega | (simp only []; omega)
  ·have hg21' := hg21; (try simp only [V.cnd, ne_eq] at hg21')
   refine sk_ ?_
   refine sk_ ?_
   refine sk_ ?_
   refine os_ pkF_ ?_
   refine nm_ [2, 3, 4, 6, 14, 15, 25] ?_
   refine CD.condF ot (by first | rfl | assumption) ?_
   have hone : ¬ ((selV a b i).k ≠ 1 ∧ (selV a b i).k ≠ 0) := by simp_all
   refine CD.skip ?_
   refine CD.region ?_
   refine os_ bn_ ?_
   refine os_ mv_ ?_
   refine nm_ [2, 3, 4, 6, 14, 15] ?_
   refine ⟨(i + 1), ⟨50, [(2, .v (.int .i64 d)), (3, .v (.pointer (some ⟨b3, 0, none⟩))), (4, .v (.pointer (some ⟨b4, 0, none⟩))), (6, .v (.pointer (some ⟨b6, 0, none⟩))), (14, .agg [.v (.int .i64 a.k), .v (.int .i64 a.n), .v (.string a.s), .v (.int .i64 b.k), .v (.int .i64 b.n), .v (.string b.s)]), (15, .v (.int .i64 (((i + 1)) : Nat)))], [⟨b6, 26, 3, [.v (.int .i64 0), .v (.int .i64 0), .v (.string ⟨#[]⟩)]⟩, ⟨b4, 26, 3, [.v (.int .i64 b.k), .v (.int .i64 b.n), .v (.string b.s)]⟩, ⟨b3, 26, 3, [.v (.int .i64 a.k), .v (.int .i64 a.n), .v (.string a.s)]⟩]⟩, ?_, Wk.asS (n := 50) rfl (by repeat (first | exact List.Sublist.refl _ | apply List.Sublist.cons)) ⟨(by (repeat (first | exact look_hit | (apply look_at; focus (first | rfl | (simp; done) | (congr 2; omega))) | (apply look_miss; focus rfl))); done), (by (repeat (first | exact look_hit | (apply look_at; focus (first | rfl | (simp; done) | (congr 2; omega))) | (apply look_miss; focus rfl))); done), (by (repeat (first | exact look_hit | (apply look_at; focus (first | rfl | (simp; done) | (congr 2; omega))) | (apply look_miss; focus rfl))); done), (by (repeat (first | exact look_hit | (apply look_at; focus (first | rfl | (simp; done) | (congr 2; omega))) | (apply look_miss; focus rfl))); done), (by (repeat (first | exact look_hit | (apply look_at; focus (first | rfl | (simp; done) | (congr 2; omega))) | (apply look_miss; focus rfl))); done), (by (repeat (first | exact look_hit | (apply look_at; focus (first | rfl | (simp; done) | (congr 2; omega))) | (apply look_miss; focus rfl))); done), trivial⟩, (by omega), (sel_more (p := fun v => ¬ (v.k ≠ 1 ∧ v.k ≠ 0)) hall hone), rfl⟩
   first | omega | (simp only []; omega)
 ·have hc0' := hc0
  (try simp only [V.cnd, ne_eq] at hc0')
  have hAB := sel_all (p := fun v => ¬ (v.k ≠ 1 ∧ v.k ≠ 0)) hall (by omega)
  have hg : ¬ ((a.k ≠ 1 ∧ a.k ≠ 0) ∨ (b.k ≠ 1 ∧ b.k ≠ 0)) := fun h => h.elim hAB.1 hAB.2
  clear hall hi
  refine CD.exit ?_
  refine CD.seq ?_
  refine sr_ ?_
  refine os_ (lab_ 2 [_, _, _]) ?_
  refine os_ (lab_ 1 [_, _, _]) ?_
  refine OD.still (wants_plain rfl) rfl (still_bldA (pl := [(0, _), (1, _)]) (ds := [_, _, _, _, _, _]) rfl Tryz.zeroValue92 Tryz.runUnderlying92 Tryz.sizeOf26 ⟨rfl, ot, rfl, ot, trivial⟩ rfl rfl) ?_
  refine os_ mv_ ?_
  refine OD.wk (Wk.as_ (n := 50) (l' := [(2, _), (3, _), (4, _), (6, _), (30, _), (31, _)]) (S' := [⟨b6, 26, 3, [_, _, _]⟩, ⟨b4, 26, 3, [_, _, _]⟩, ⟨b3, 26, 3, [_, _, _]⟩]) rfl rfl ⟨lk, lk, lk, lk, lk, lk, trivial⟩) ?_
  refine OD.nil ?_
  refine CD.block ?_
  refine CD.wk (Wk.asS (n := 50) (l' := [(2, .v (.int .i64 d)), (3, .v (.pointer (some ⟨b3, 0, none⟩))), (4, .v (.pointer (some ⟨b4, 0, none⟩))), (6, .v (.pointer (some ⟨b6, 0, none⟩))), (30, .agg [.v (.int .i64 a.k), .v (.int .i64 a.n), .v (.string a.s), .v (.int .i64 b.k), .v (.int .i64 b.n), .v (.string b.s)]), (31, .v (.int .i64 ((0) : Nat)))]) (S' := [⟨b6, 26, 3, [.v (.int .i64 0), .v (.int .i64 0), .v (.string ⟨#[]⟩)]⟩, ⟨b4, 26, 3, [.v (.int .i64 b.k), .v (.int .i64 b.n), .v (.string b.s)]⟩, ⟨b3, 26, 3, [.v (.int .i64 a.k), .v (.int .i64 a.n), .v (.string a.s)]⟩]) rfl (by repeat (first | exact List.Sublist.refl _ | apply List.Sublist.cons)) ⟨(by (repeat (first | exact look_hit | (apply look_at; focus (first | rfl | (simp; done) | (congr 2; omega))) | (apply look_miss; focus rfl))); done), (by (repeat (first | exact look_hit | (apply look_at; focus (first | rfl | (simp; done) | (congr 2; omega))) | (apply look_miss; focus rfl))); done), (by (repeat (first | exact look_hit | (apply look_at; focus (first | rfl | (simp; done) | (congr 2; omega))) | (apply look_miss; focus rfl))); done), (by (repeat (first | exact look_hit | (apply look_at; focus (first | rfl | (simp; done) | (congr 2; omega))) | (apply look_miss; focus rfl))); done), (by (repeat (first | exact look_hit | (apply look_at; focus (first | rfl | (simp; done) | (congr 2; omega))) | (apply look_miss; focus rfl))); done), (by (repeat (first | exact look_hit | (apply look_at; focus (first | rfl | (simp; done) | (congr 2; omega))) | (apply look_miss; focus rfl))); done), trivial⟩) (CD.loop (fun (i : Nat) y__ => (i ≤ 2) ∧ (∀ j, j < i → ¬ ((selV a b j).k = 1 ∧ (selV a b j).n = d)) ∧ y__ = (⟨50, [(2, .v (.int .i64 d)), (3, .v (.pointer (some ⟨b3, 0, none⟩))), (4, .v (.pointer (some ⟨b4, 0, none⟩))), (6, .v (.pointer (some ⟨b6, 0, none⟩))), (30, .agg [.v (.int .i64 a.k), .v (.int .i64 a.n), .v (.string a.s), .v (.int .i64 b.k), .v (.int .i64 b.n), .v (.string b.s)]), (31, .v (.int .i64 (i : Nat)))], [⟨b6, 26, 3, [.v (.int .i64 0), .v (.int .i64 0), .v (.string ⟨#[]⟩)]⟩, ⟨b4, 26, 3, [.v (.int .i64 b.k), .v (.int .i64 b.n), .v (.string b.s)]⟩, ⟨b3, 26, 3, [.v (.int .i64 a.k), .v (.int .i64 a.n), .v (.string a.s)]⟩]⟩ : St)) (fun (i : Nat) => 2 - i) 0 ⟨(Nat.zero_le _), (fun j hj => absurd hj (Nat.not_lt_zero _)), rfl⟩ ?_)
  rintro i _ ⟨hi2, hall2, rfl⟩
  refine sr_ ?_
  refine os_ bn_ ?_
  refine nm_ [2, 3, 4, 6, 30, 31, 32] ?_
  refine CD.seq ?_
  refine CD.cond ot (fun hc2 => ?_) (fun hc2 => ?_)
  ·have hc2' := hc2
   (try simp only [V.cnd, ne_eq] at hc2')
   have hlt : i < 2 := by omega
   refine CD.skip ?_
   refine CD.seq ?_
   refine CD.block ?_
   refine sr_ ?_
   refine OD.still (wants_plain rfl) rfl (still_vidxs (j := i) rfl ot ot Tryz.runUnderlying92 Tryz.sizeOf26 Tryz.isAgg26 rfl hlt (sel_cells a b hlt)) ?_
   refine OD.alloc (ds := [_, _, _]) (wants_plain rfl) rfl rfl Tryz.zeroValue26 rfl (fun b11 => ?_)
   refine OD.store (k := 0) (cs' := [_, _, _]) (wants_plain rfl) rfl rfl ot rfl rfl ot rfl rfl Tryz.sizeOf26 rfl rfl rfl ?_
   refine OD.wk (Wk.as_ (n := 50) (l' := [(2, _), (3, _), (4, _), (6, _), (11, _), (30, _), (31, _)]) (S' := [⟨b11, 26, 3, [_, _, _]⟩, ⟨b6, 26, 3, [_, _, _]⟩, ⟨b4, 26, 3, [_, _, _]⟩, ⟨b3, 26, 3, [_, _, _]⟩]) rfl rfl ⟨lk, lk, lk, lk, lk, lk, lk, trivial⟩) ?_
   refine OD.nil ?_
   refine sr_ ?_
   refine os_ (fa_ 0) ?_
   refine os_ (lb_ 0) ?_
   refine os_ bn_ ?_
   refine os_ mv_ ?_
   refine OD.split (t := 37) lk (fun hg37 => ?_) (fun hg37 => ?_)
   ·have hg37' := hg37; (try simp only [V.cnd, ne_eq] at hg37')
    refine os_ (fa_ 1) ?_
    refine os_ (lb_ 0) ?_
    refine os_ mv_ ?_
    refine os_ bn_ ?_
    refine os_ pkT_ ?_
    refine nm_ [2, 3, 4, 6, 11, 30, 31, 42] ?_
    refine CD.cond ot (fun hc3 => ?_) (fun hc3 => ?_)
    ·have hc3' := hc3
     (try simp only [V.cnd, ne_eq] at hc3')
     have hres : logicF a b d = (selV a b i, 0) := logic_hit hlt hg hall2 (by simp_all) (by simp_all)
     refine sr_ ?_
     refine os_ (lab_ 0 [_, _, _]) ?_
     refine OD.store (k := 1) (cs' := [_, _, _]) (wants_plain rfl) rfl rfl ot rfl rfl ot rfl rfl Tryz.sizeOf26 rfl rfl rfl ?_
     refine os_ mv_ ?_
     refine OD.wk (Wk.as_ (n := 50) (l' := [(6, _), (7, _)]) (S' := [⟨b11, 26, 3, [_, _, _]⟩, ⟨b6, 26, 3, [_, _, _]⟩, ⟨b4, 26, 3, [_, _, _]⟩, ⟨b3, 26, 3, [_, _, _]⟩]) rfl rfl ⟨lk, lk, trivial⟩) ?_
     refine OD.nil ?_
     refine CD.ret ?_
     refine ⟨.inr rfl, _, [], List.nil_sublist _, ret_two Tryz.results47 (res_cells (k := 1) (ds := [_, _, _]) (Nat.le_of_ble_eq_true rfl) lk rfl rfl Tryz.isAgg26 Tryz.sizeOf26 rfl rfl) (res_tmp (Nat.le_of_ble_eq_true rfl) lk), ?_⟩
     rw [hres]; exact ⟨rfl, rfl⟩
    ·have hc3' := hc3
     (try simp only [V.cnd, ne_eq] at hc3')
     have hone2 : ¬ ((selV a b i).k = 1 ∧ (selV a b i).n = d) := by simp_all
     refine CD.skip ?_
     refine CD.region ?_
     refine os_ bn_ ?_
     refine os_ mv_ ?_
     refine nm_ [2, 3, 4, 6, 30, 31] ?_
     refine ⟨(i + 1), ⟨50, [(2, .v (.int .i64 d)), (3, .v (.pointer (some ⟨b3, 0, none⟩))), (4, .v (.pointer (some ⟨b4, 0, none⟩))), (6, .v (.pointer (some ⟨b6, 0, none⟩))), (30, .agg [.v (.int .i64 a.k), .v (.int .i64 a.n), .v (.string a.s), .v (.int .i64 b.k), .v (.int .i64 b.n), .v (.string b.s)]), (31, .v (.int .i64 (((i + 1)) : Nat)))], [⟨b6, 26, 3, [.v (.int .i64 0), .v (.int .i64 0), .v (.string ⟨#[]⟩)]⟩, ⟨b4, 26, 3, [.v (.int .i64 b.k), .v (.int .i64 b.n), .v (.string b.s)]⟩, ⟨b3, 26, 3, [.v (.int .i64 a.k), .v (.int .i64 a.n), .v (.string a.s)]⟩]⟩, ?_, Wk.asS (n := 50) rfl (by repeat (first | exact List.Sublist.refl _ | apply List.Sublist.cons)) ⟨(by (repeat (first | exact look_hit | (apply look_at; focus (first | rfl | (simp; done) | (congr 2; omega))) | (apply look_miss; focus rfl))); done), (by (repeat (first | exact look_hit | (apply look_at; focus (first | rfl | (simp; done) | (congr 2; omega))) | (apply look_miss; focus rfl))); done), (by (repeat (first | exact look_hit | (apply look_at; focus (first | rfl | (simp; done) | (congr 2; omega))) | (apply look_miss; focus rfl))); done), (by (repeat (first | exact look_hit | (apply look_at; focus (first | rfl | (simp; done) | (congr 2; omega))) | (apply look_miss; focus rfl))); done), (by (repeat (first | exact look_hit | (apply look_at; focus (first | rfl | (simp; done) | (congr 2; omega))) | (apply look_miss; focus rfl))); done), (by (repeat (first | exact look_hit | (apply look_at; focus (first | rfl | (simp; done) | (congr 2; omega))) | (apply look_miss; focus rfl))); done), trivial⟩, (by omega), (sel_more (p := fun v => ¬ (v.k = 1 ∧ v.n = d)) hall2 hone2), rfl⟩
     first | omega | (simp only []; omega)
   ·have hg37' := hg37; (try simp only [V.cnd, ne_eq] at hg37')
    refine sk_ ?_
    refine sk_ ?_
    refine sk_ ?_
    refine sk_ ?_
    refine os_ pkF_ ?_
    refine nm_ [2, 3, 4, 6, 11, 30, 31, 42] ?_
    refine CD.condF ot (by first | rfl | assumption) ?_
    have hone2 : ¬ ((selV a b i).k = 1 ∧ (selV a b i).n = d) := by simp_all
    refine CD.skip ?_
    refine CD.region ?_
    refine os_ bn_ ?_
    refine os_ mv_ ?_
    refine nm_ [2, 3, 4, 6, 30, 31] ?_
    refine ⟨(i + 1), ⟨50, [(2, .v (.int .i64 d)), (3, .v (.pointer (some ⟨b3, 0, none⟩))), (4, .v (.pointer (some ⟨b4, 0, none⟩))), (6, .v (.pointer (some ⟨b6, 0, none⟩))), (30, .agg [.v (.int .i64 a.k), .v (.int .i64 a.n), .v (.string a.s), .v (.int .i64 b.k), .v (.int .i64 b.n), .v (.string b.s)]), (31, .v (.int .i64 (((i + 1)) : Nat)))], [⟨b6, 26, 3, [.v (.int .i64 0), .v (.int .i64 0), .v (.string ⟨#[]⟩)]⟩, ⟨b4, 26, 3, [.v (.int .i64 b.k), .v (.int .i64 b.n), .v (.string b.s)]⟩, ⟨b3, 26, 3, [.v (.int .i64 a.k), .v (.int .i64 a.n), .v (.string a.s)]⟩]⟩, ?_, Wk.asS (n := 50) rfl (by repeat (first | exact List.Sublist.refl _ | apply List.Sublist.cons)) ⟨(by (repeat (first | exact look_hit | (apply look_at; focus (first | rfl | (simp; done) | (congr 2; omega))) | (apply look_miss; focus rfl))); done), (by (repeat (first | exact look_hit | (apply look_at; focus (first | rfl | (simp; done) | (congr 2; omega))) | (apply look_miss; focus rfl))); done), (by (repeat (first | exact look_hit | (apply look_at; focus (first | rfl | (simp; done) | (congr 2; omega))) | (apply look_miss; focus rfl))); done), (by (repeat (first | exact look_hit | (apply look_at; focus (first | rfl | (simp; done) | (congr 2; omega))) | (apply look_miss; focus rfl))); done), (by (repeat (first | exact look_hit | (apply look_at; focus (first | rfl | (simp; done) | (congr 2; omega))) | (apply look_miss; focus rfl))); done), (by (repeat (first | exact look_hit | (apply look_at; focus (first | rfl | (simp; done) | (congr 2; omega))) | (apply look_miss; focus rfl))); done), trivial⟩, (by omega), (sel_more (p := fun v => ¬ (v.k = 1 ∧ v.n = d)) hall2 hone2), rfl⟩
    first | omega | (simp only []; omega)
  ·have hc2' := hc2
   (try simp only [V.cnd, ne_eq] at hc2')
   have hCD := sel_all (p := fun v => ¬ (v.k = 1 ∧ v.n = d)) hall2 (by omega)
   refine CD.exit ?_
   refine CD.seq ?_
   refine sr_ ?_
   refine os_ (lab_ 2 [_, _, _]) ?_
   refine os_ (lab_ 1 [_, _, _]) ?_
   refine OD.callP (wants_plain rfl) rfl rfl rfl Tryz.call48 (hnv) ⟨ot, ot, trivial⟩ ?_
   refine OD.wk (Wk.as_ (n := 50) (l' := [(3, _), (6, _), (47, _)]) (S' := [⟨b6, 26, 3, [_, _, _]⟩, ⟨b4, 26, 3, [_, _, _]⟩, ⟨b3, 26, 3, [_, _, _]⟩]) rfl rfl ⟨lk, lk, lk, trivial⟩) ?_
   refine OD.nil ?_
   refine CD.cond ot (fun hc4 => ?_) (fun hc4 => ?_)
   ·have hc4' := hc4
    (try simp only [V.cnd, ne_eq] at hc4')
    have hres : logicF a b d = (noVl, 0) := by unfold logicF; rw [if_neg hg, if_neg hCD.1, if_neg hCD.2, if_pos (by unfold nullF at hc4; simpa using hc4)]
    refine sr_ ?_
    refine OD.still (wants_plain rfl) rfl (still_bld (pl := []) (ds := [_, _, _]) rfl Tryz.zeroValue26 Tryz.runUnderlying26 places26_Ex2 trivial rfl rfl) ?_
    refine OD.store (k := 0) (cs' := [_, _, _]) (wants_plain rfl) rfl rfl ot rfl rfl ot rfl rfl Tryz.sizeOf26 rfl rfl rfl ?_
    refine os_ mv_ ?_
    refine OD.wk (Wk.as_ (n := 50) (l' := [(6, _), (7, _)]) (S' := [⟨b6, 26, 3, [_, _, _]⟩, ⟨b4, 26, 3, [_, _, _]⟩, ⟨b3, 26, 3, [_, _, _]⟩]) rfl rfl ⟨lk, lk, trivial⟩) ?_
    refine OD.nil ?_
    refine CD.ret ?_
    refine ⟨.inr rfl, _, [], List.nil_sublist _, ret_two Tryz.results47 (res_cells (k := 0) (ds := [_, _, _]) (Nat.le_of_ble_eq_true rfl) lk rfl rfl Tryz.isAgg26 Tryz.sizeOf26 rfl rfl) (res_tmp (Nat.le_of_ble_eq_true rfl) lk), ?_⟩
    rw [hres]; exact ⟨rfl, rfl⟩
   ·have hc4' := hc4
    (try simp only [V.cnd, ne_eq] at hc4')
    have hres : logicF a b d = (a, 0) := by unfold logicF; rw [if_neg hg, if_neg hCD.1, if_neg hCD.2, if_neg (by unfold nullF at hc4; simpa using hc4)]
    refine CD.skip ?_
    refine sr_ ?_
    refine os_ (lab_ 2 [_, _, _]) ?_
    refine OD.store (k := 0) (cs' := [_, _, _]) (wants_plain rfl) rfl rfl ot rfl rfl ot rfl rfl Tryz.sizeOf26 rfl rfl rfl ?_
    refine os_ mv_ ?_
    refine OD.wk (Wk.as_ (n := 50) (l' := [(6, _), (7, _)]) (S' := [⟨b6, 26, 3, [_, _, _]⟩, ⟨b4, 26, 3, [_, _, _]⟩, ⟨b3, 26, 3, [_, _, _]⟩]) rfl rfl ⟨lk, lk, trivial⟩) ?_
    refine OD.nil ?_
    refine CD.ret ?_
    refine ⟨.inr rfl, _, [], List.nil_sublist _, ret_two Tryz.results47 (res_cells (k := 0) (ds := [_, _, _]) (Nat.le_of_ble_eq_true rfl) lk rfl rfl Tryz.isAgg26 Tryz.sizeOf26 rfl rfl) (res_tmp (Nat.le_of_ble_eq_true rfl) lk), ?_⟩
    rw [hres]; exact ⟨rfl, rfl⟩

set_option maxHeartbeats 4000000 in
set_option maxRecDepth 100000 in
theorem arith_vp (k a b : Int) : VP Tryz.prog G 50 [.v (.int .i64 k), .v (.int .i64 a), .v (.int .i64 b)] (.tup [.v (.int .i64 (arithF k a b).1), .v (.bool (arithF k a b).2)]) := by
 refine VC.body Tryz.func50 rfl Tryz.ntmps50 (Nat.le_of_ble_eq_true rfl) fun X0 w0 S00 => ?_
 refine sr_ ?_
 refine os_ mv_ ?_
 refine os_ mv_ ?_
 refine nm_ [0, 1, 2] ?_
 refine CD.seq ?_
 refine sr_ ?_
 refine os_ mv_ ?_
 refine nm_ [1, 2, 11] ?_
 refine CD.block ?_
 refine sr_ ?_
 refine os_ bn_ ?_
 refine os_ mv_ ?_
 refine nm_ [1, 2, 11, 12] ?_
 refine CD.cond ot (fun hc0 => ?_) (fun hc0 => ?_)
 ·have hc0' := hc0
  (try simp only [V.cnd, ne_eq] at hc0')
  refine sr_ ?_
  refine os_ mv_ ?_
  refine os_ mv_ ?_
  refine OD.still (wants_plain rfl) rfl (still_bin (r := .int .i64 (wr (a + b))) rfl ot ot (bin_add rfl)) ?_
  refine os_ mv_ ?_
  refine OD.wk (Wk.as_ (n := 58) (l' := [(1, _), (2, _), (8, _)]) (S' := []) rfl rfl ⟨lk, lk, lk, trivial⟩) ?_
  refine OD.nil ?_
  refine sr_ ?_
  refine os_ mv_ ?_
  refine os_ mv_ ?_
  refine os_ mv_ ?_
  refine os_ bn_ ?_
  refine os_ mv_ ?_
  refine os_ bn_ ?_
  refine OD.still (wants_plain rfl) rfl (still_bin rfl ot ot (bin_beql Tryz.underlying4)) ?_
  refine os_ mv_ ?_
  refine os_ mv_ ?_
  refine OD.wk (Wk.as_ (n := 58) (l' := [(6, _), (7, _)]) (S' := []) rfl rfl ⟨lk, lk, trivial⟩) ?_
  refine OD.nil ?_
  refine CD.ret ?_
  refine ⟨.inr rfl, _, [], List.nil_sublist _, ret_two Tryz.results50 (res_tmp (Nat.le_of_ble_eq_true rfl) lk) (res_tmp (Nat.le_of_ble_eq_true rfl) lk), ?_⟩
  refine ⟨?_, rfl⟩
  unfold arithF
  simp_all
 ·have hc0' := hc0
  (try simp only [V.cnd, ne_eq] at hc0')
  refine sr_ ?_
  refine os_ bn_ ?_
  refine os_ mv_ ?_
  refine nm_ [1, 2, 24] ?_
  refine CD.cond ot (fun hc1 => ?_) (fun hc1 => ?_)
  ·have hc1' := hc1
   (try simp only [V.cnd, ne_eq] at hc1')
   refine sr_ ?_
   refine os_ mv_ ?_
   refine os_ mv_ ?_
   refine OD.still (wants_plain rfl) rfl (still_bin (r := .int .i64 (wr (a - b))) rfl ot ot (bin_sub rfl)) ?_
   refine os_ mv_ ?_
   refine OD.wk (Wk.as_ (n := 58) (l' := [(1, _), (2, _), (9, _)]) (S' := []) rfl rfl ⟨lk, lk, lk, trivial⟩) ?_
   refine OD.nil ?_
   refine sr_ ?_
   refine os_ mv_ ?_
   refine os_ mv_ ?_
   refine os_ mv_ ?_
   refine os_ bn_ ?_
   refine os_ mv_ ?_
   refine os_ bn_ ?_
   refine OD.still (wants_plain rfl) rfl (still_bin rfl ot ot (bin_beql Tryz.underlying4)) ?_
   refine os_ mv_ ?_
   refine os_ mv_ ?_
   refine OD.wk (Wk.as_ (n := 58) (l' := [(6, _), (7, _)]) (S' := []) rfl rfl ⟨lk, lk, trivial⟩) ?_
   refine OD.nil ?_
   refine CD.ret ?_
   refine ⟨.inr rfl, _, [], List.nil_sublist _, ret_two Tryz.results50 (res_tmp (Nat.le_of_ble_eq_true rfl) lk) (res_tmp (Nat.le_of_ble_eq_true rfl) lk), ?_⟩
   refine ⟨?_, rfl⟩
   unfold arithF
   simp_all
  ·have hc1' := hc1
   (try simp only [V.cnd, ne_eq] at hc1')
   refine CD.skip ?_
   refine sr_ ?_
   refine os_ mv_ ?_
   refine os_ mv_ ?_
   refine OD.still (wants_plain rfl) rfl (still_bin (r := .int .i64 (wr (a * b))) rfl ot ot (bin_mul rfl)) ?_
   refine os_ mv_ ?_
   refine OD.wk (Wk.as_ (n := 58) (l' := [(1, _), (2, _), (10, _)]) (S' := []) rfl rfl ⟨lk, lk, lk, trivial⟩) ?_
   refine OD.nil ?_
   refine sr_ ?_
   refine os_ mv_ ?_
   refine os_ mv_ ?_
   refine os_ bn_ ?_
   refine os_ mv_ ?_
   refine OD.split (t := 42) lk (fun hg42 => ?_) (fun hg42 => ?_)
   ·have hg42' := hg42; (try simp only [V.cnd, ne_eq] at hg42')
    refine sk_ ?_
    refine sk_ ?_
    refine sk_ ?_
    refine sk_ ?_
    refine sk_ ?_
    refine sk_ ?_
    refine sj_ ?_
    refine sj_ ?_
    refine sj_ ?_
    refine sj_ ?_
    refine sj_ ?_
    refine sj_ ?_
    refine sj_ ?_
    refine sk_ ?_
    refine os_ pkT_ ?_
    refine os_ mv_ ?_
    refine os_ mv_ ?_
    refine nm_ [6, 7] ?_
    refine CD.ret ?_
    refine r2_ ?_
    refine ⟨?_, rfl⟩
    unfold arithF
    simp_all
   ·have hg42' := hg42; (try simp only [V.cnd, ne_eq] at hg42')
    refine os_ mv_ ?_
    refine os_ mv_ ?_
    refine OD.still (wants_T rfl rfl rfl lk (by first | rfl | assumption)) rfl (still_bin (r := .int .i64 (wr ((wr (a * b)).tdiv a))) rfl ot ot (bin_quo (by simpa using hg42) rfl)) ?_
    refine os_ mv_ ?_
    refine os_ bn_ ?_
    refine os_ mv_ ?_
    refine OD.split (t := 48) lk (fun hg48 => ?_) (fun hg48 => ?_)
    ·have hg48' := hg48; (try simp only [V.cnd, ne_eq] at hg48')
     refine os_ mv_ ?_
     refine os_ bn_ ?_
     refine os_ mv_ ?_
     refine OD.split (t := 51) lk (fun hg51 => ?_) (fun hg51 => ?_)
     ·have hg51' := hg51; (try simp only [V.cnd, ne_eq] at hg51')
      refine os_ mv_ ?_
      refine os_ bn_ ?_
      refine os_ pkT_ ?_
      refine os_ un_ ?_
      refine os_ pkT_ ?_
      refine os_ pkF_ ?_
      refine os_ mv_ ?_
      refine os_ mv_ ?_
      refine OD.wk (Wk.as_ (n := 58) (l' := [(6, _), (7, _)]) (S' := []) rfl rfl ⟨lk, lk, trivial⟩) ?_
      refine OD.nil ?_
      refine CD.ret ?_
      refine ⟨.inr rfl, _, [], List.nil_sublist _, ret_two Tryz.results50 (res_tmp (Nat.le_of_ble_eq_true rfl) lk) (res_tmp (Nat.le_of_ble_eq_true rfl) lk), ?_⟩
      refine ⟨?_, rfl⟩
      unfold arithF
      simp_all
     ·have hg51' := hg51; (try simp only [V.cnd, ne_eq] at hg51')
      refine sk_ ?_
      refine sk_ ?_
      refine os_ pkF_ ?_
      refine os_ un_ ?_
      refine os_ pkT_ ?_
      refine os_ pkF_ ?_
      refine os_ mv_ ?_
      refine os_ mv_ ?_
      refine OD.wk (Wk.as_ (n := 58) (l' := [(6, _), (7, _)]) (S' := []) rfl rfl ⟨lk, lk, trivial⟩) ?_
      refine OD.nil ?_
      refine CD.ret ?_
      refine ⟨.inr rfl, _, [], List.nil_sublist _, ret_two Tryz.results50 (res_tmp (Nat.le_of_ble_eq_true rfl) lk) (res_tmp (Nat.le_of_ble_eq_true rfl) lk), ?_⟩
      refine ⟨?_, rfl⟩
      unfold arithF
      simp_all
    ·have hg48' := hg48; (try simp only [V.cnd, ne_eq] at hg48')
     refine sk_ ?_
     refine sk_ ?_
     refine sk_ ?_
     refine sj_ ?_
     refine sj_ ?_
     refine sk_ ?_
     refine sk_ ?_
     refine os_ pkF_ ?_
     refine os_ pkF_ ?_
     refine os_ mv_ ?_
     refine os_ mv_ ?_
     refine OD.wk (Wk.as_ (n := 58) (l' := [(6, _), (7, _)]) (S' := []) rfl rfl ⟨lk, lk, trivial⟩) ?_
     refine OD.nil ?_
     refine CD.ret ?_
     refine ⟨.inr rfl, _, [], List.nil_sublist _, ret_two Tryz.results50 (res_tmp (Nat.le_of_ble_eq_true rfl) lk) (res_tmp (Nat.le_of_ble_eq_true rfl) lk), ?_⟩
     refine ⟨?_, rfl⟩
     unfold arithF
     simp_all

set_option maxHeartbeats 4000000 in
set_option maxRecDepth 100000 in
theorem one_vp (k : Int) (a : Vl) : VP Tryz.prog G 28 [.v (.int .i64 k), .agg (cV a)] (vlD (oneF k a)) := by
 refine VC.body Tryz.func28 rfl Tryz.ntmps28 (Nat.le_of_ble_eq_true rfl) fun X0 w0 S00 => ?_
 unfold vlD
 have hcv := Vl.check_vp (G := G) a
 unfold cV at hcv
 unfold cV
 refine sr_ ?_
 refine OD.box (ds := [_, _, _]) (wants_plain rfl) rfl rfl ot rfl rfl (fun b3 => ?_)
 refine OD.alloc (ds := [_, _, _]) (wants_plain rfl) rfl rfl Tryz.zeroValue26 rfl (fun b4 => ?_)
 refine os_ mv_ ?_
 refine OD.wk (Wk.as_ (n := 35) (l' := [(0, _), (3, _), (4, _)]) (S' := [⟨b4, 26, 3, [_, _, _]⟩, ⟨b3, 26, 3, [_, _, _]⟩]) rfl rfl ⟨lk, lk, lk, trivial⟩) ?_
 refine OD.nil ?_
 refine CD.seq ?_
 refine sr_ ?_
 refine os_ (lab_ 1 [_, _, _]) ?_
 refine OD.callP (wants_plain rfl) rfl rfl rfl Tryz.call23 (hcv) ⟨ot, trivial⟩ ?_
 refine os_ mv_ ?_
 refine OD.wk (Wk.as_ (n := 35) (l' := [(0, _), (3, _), (4, _), (6, _)]) (S' := [⟨b4, 26, 3, [_, _, _]⟩, ⟨b3, 26, 3, [_, _, _]⟩]) rfl rfl ⟨lk, lk, lk, lk, trivial⟩) ?_
 refine OD.nil ?_
 refine sr_ ?_
 refine os_ mv_ ?_
 refine os_ bn_ ?_
 refine nm_ [0, 3, 4, 6, 10] ?_
 refine CD.cond ot (fun hc0 => ?_) (fun hc0 => ?_)
 ·have hc0' := hc0
  (try simp only [V.cnd, ne_eq] at hc0')
  refine sr_ ?_
  refine OD.still (wants_plain rfl) rfl (still_bld (pl := []) (ds := [_, _, _]) rfl Tryz.zeroValue26 Tryz.runUnderlying26 places26_Ex2 trivial rfl rfl) ?_
  refine os_ mv_ ?_
  refine OD.store (k := 0) (cs' := [_, _, _]) (wants_plain rfl) rfl rfl ot rfl rfl ot rfl rfl Tryz.sizeOf26 rfl rfl rfl ?_
  refine os_ mv_ ?_
  refine OD.wk (Wk.as_ (n := 35) (l' := [(4, _), (5, _)]) (S' := [⟨b4, 26, 3, [_, _, _]⟩, ⟨b3, 26, 3, [_, _, _]⟩]) rfl rfl ⟨lk, lk, trivial⟩) ?_
  refine OD.nil ?_
  refine CD.ret ?_
  refine ⟨.inr rfl, _, [], List.nil_sublist _, ret_two Tryz.results28 (res_cells (k := 0) (ds := [_, _, _]) (Nat.le_of_ble_eq_true rfl) lk rfl rfl Tryz.isAgg26 Tryz.sizeOf26 rfl rfl) (res_tmp (Nat.le_of_ble_eq_true rfl) lk), ?_⟩
  refine ⟨?_, rfl⟩
  unfold oneF
  simp_all [noVl]
 ·have hc0' := hc0
  (try simp only [V.cnd, ne_eq] at hc0')
  refine CD.skip ?_
  refine CD.seq ?_
  refine sr_ ?_
  refine os_ mv_ ?_
  refine nm_ [3, 4, 13] ?_
  refine CD.block ?_
  refine sr_ ?_
  refine os_ bn_ ?_
  refine os_ mv_ ?_
  refine nm_ [3, 4, 13, 14] ?_
  refine CD.cond ot (fun hc1 => ?_) (fun hc1 => ?_)
  ·have hc1' := hc1
   (try simp only [V.cnd, ne_eq] at hc1')
   refine sr_ ?_
   refine os_ (fa_ 0) ?_
   refine os_ (lb_ 1) ?_
   refine os_ bn_ ?_
   refine OD.callP (wants_plain rfl) rfl rfl rfl Tryz.call45 (truth_vp _) ⟨ot, trivial⟩ ?_
   refine OD.store (k := 0) (cs' := [_, _, _]) (wants_plain rfl) rfl rfl ot rfl rfl ot rfl rfl Tryz.sizeOf26 rfl rfl rfl ?_
   refine os_ mv_ ?_
   refine OD.wk (Wk.as_ (n := 35) (l' := [(4, _), (5, _)]) (S' := [⟨b4, 26, 3, [_, _, _]⟩, ⟨b3, 26, 3, [_, _, _]⟩]) rfl rfl ⟨lk, lk, trivial⟩) ?_
   refine OD.nil ?_
   refine CD.ret ?_
   refine ⟨.inr rfl, _, [], List.nil_sublist _, ret_two Tryz.results28 (res_cells (k := 0) (ds := [_, _, _]) (Nat.le_of_ble_eq_true rfl) lk rfl rfl Tryz.isAgg26 Tryz.sizeOf26 rfl rfl) (res_tmp (Nat.le_of_ble_eq_true rfl) lk), ?_⟩
   refine ⟨?_, rfl⟩
   unfold oneF
   simp_all [noVl]
  ·have hc1' := hc1
   (try simp only [V.cnd, ne_eq] at hc1')
   refine sr_ ?_
   refine os_ bn_ ?_
   refine os_ mv_ ?_
   refine nm_ [3, 4, 20] ?_
   refine CD.cond ot (fun hc2 => ?_) (fun hc2 => ?_)
   ·have hc2' := hc2
    (try simp only [V.cnd, ne_eq] at hc2')
    refine CD.seq ?_
    refine sr_ ?_
    refine os_ (fa_ 0) ?_
    refine os_ (lb_ 1) ?_
    refine nm_ [3, 4, 23] ?_
    refine CD.block ?_
    refine sr_ ?_
    refine os_ bn_ ?_
    refine os_ mv_ ?_
    refine nm_ [3, 4, 23, 24] ?_
    refine CD.cond ot (fun hc3 => ?_) (fun hc3 => ?_)
    ·have hc3' := hc3
     (try simp only [V.cnd, ne_eq] at hc3')
     refine sr_ ?_
     refine os_ (lab_ 1 [_, _, _]) ?_
     refine OD.store (k := 0) (cs' := [_, _, _]) (wants_plain rfl) rfl rfl ot rfl rfl ot rfl rfl Tryz.sizeOf26 rfl rfl rfl ?_
     refine os_ mv_ ?_
     refine OD.wk (Wk.as_ (n := 35) (l' := [(4, _), (5, _)]) (S' := [⟨b4, 26, 3, [_, _, _]⟩, ⟨b3, 26, 3, [_, _, _]⟩]) rfl rfl ⟨lk, lk, trivial⟩) ?_
     refine OD.nil ?_
     refine CD.ret ?_
     refine ⟨.inr rfl, _, [], List.nil_sublist _, ret_two Tryz.results28 (res_cells (k := 0) (ds := [_, _, _]) (Nat.le_of_ble_eq_true rfl) lk rfl rfl Tryz.isAgg26 Tryz.sizeOf26 rfl rfl) (res_tmp (Nat.le_of_ble_eq_true rfl) lk), ?_⟩
     refine ⟨?_, rfl⟩
     unfold oneF
     simp_all [noVl]
    ·have hc3' := hc3
     (try simp only [V.cnd, ne_eq] at hc3')
     refine sr_ ?_
     refine os_ bn_ ?_
     refine os_ mv_ ?_
     refine nm_ [3, 4, 27] ?_
     refine CD.cond ot (fun hc4 => ?_) (fun hc4 => ?_)
     ·have hc4' := hc4
      (try simp only [V.cnd, ne_eq] at hc4')
      refine sr_ ?_
      refine os_ (fa_ 1) ?_
      refine os_ (lb_ 1) ?_
      refine os_ bn_ ?_
      refine OD.callP (wants_plain rfl) rfl rfl rfl Tryz.call45 (truth_vp _) ⟨ot, trivial⟩ ?_
      refine OD.store (k := 0) (cs' := [_, _, _]) (wants_plain rfl) rfl rfl ot rfl rfl ot rfl rfl Tryz.sizeOf26 rfl rfl rfl ?_
      refine os_ mv_ ?_
      refine OD.wk (Wk.as_ (n := 35) (l' := [(4, _), (5, _)]) (S' := [⟨b4, 26, 3, [_, _, _]⟩, ⟨b3, 26, 3, [_, _, _]⟩]) rfl rfl ⟨lk, lk, trivial⟩) ?_
      refine OD.nil ?_
      refine CD.ret ?_
      refine ⟨.inr rfl, _, [], List.nil_sublist _, ret_two Tryz.results28 (res_cells (k := 0) (ds := [_, _, _]) (Nat.le_of_ble_eq_true rfl) lk rfl rfl Tryz.isAgg26 Tryz.sizeOf26 rfl rfl) (res_tmp (Nat.le_of_ble_eq_true rfl) lk), ?_⟩
      refine ⟨?_, rfl⟩
      unfold oneF
      simp_all [noVl]
     ·have hc4' := hc4
      (try simp only [V.cnd, ne_eq] at hc4')
      refine CD.skip ?_
      refine sr_ ?_
      refine OD.still (wants_plain rfl) rfl (still_bld (pl := []) (ds := [_, _, _]) rfl Tryz.zeroValue26 Tryz.runUnderlying26 places26_Ex2 trivial rfl rfl) ?_
      refine OD.store (k := 0) (cs' := [_, _, _]) (wants_plain rfl) rfl rfl ot rfl rfl ot rfl rfl Tryz.sizeOf26 rfl rfl rfl ?_
      refine os_ mv_ ?_
      refine OD.wk (Wk.as_ (n := 35) (l' := [(4, _), (5, _)]) (S' := [⟨b4, 26, 3, [_, _, _]⟩, ⟨b3, 26, 3, [_, _, _]⟩]) rfl rfl ⟨lk, lk, trivial⟩) ?_
      refine OD.nil ?_
      refine CD.ret ?_
      refine ⟨.inr rfl, _, [], List.nil_sublist _, ret_two Tryz.results28 (res_cells (k := 0) (ds := [_, _, _]) (Nat.le_of_ble_eq_true rfl) lk rfl rfl Tryz.isAgg26 Tryz.sizeOf26 rfl rfl) (res_tmp (Nat.le_of_ble_eq_true rfl) lk), ?_⟩
      refine ⟨?_, rfl⟩
      unfold oneF
      simp_all [noVl]
   ·have hc2' := hc2
    (try simp only [V.cnd, ne_eq] at hc2')
    refine CD.skip ?_
    refine sr_ ?_
    refine OD.still (wants_plain rfl) rfl (still_bld (pl := []) (ds := [_, _, _]) rfl Tryz.zeroValue26 Tryz.runUnderlying26 places26_Ex2 trivial rfl rfl) ?_
    refine OD.store (k := 0) (cs' := [_, _, _]) (wants_plain rfl) rfl rfl ot rfl rfl ot rfl rfl Tryz.sizeOf26 rfl rfl rfl ?_
    refine os_ mv_ ?_
    refine OD.wk (Wk.as_ (n := 35) (l' := [(4, _), (5, _)]) (S' := [⟨b4, 26, 3, [_, _, _]⟩, ⟨b3, 26, 3, [_, _, _]⟩]) rfl rfl ⟨lk, lk, trivial⟩) ?_
    refine OD.nil ?_
    refine CD.ret ?_
    refine ⟨.inr rfl, _, [], List.nil_sublist _, ret_two Tryz.results28 (res_cells (k := 0) (ds := [_, _, _]) (Nat.le_of_ble_eq_true rfl) lk rfl rfl Tryz.isAgg26 Tryz.sizeOf26 rfl rfl) (res_tmp (Nat.le_of_ble_eq_true rfl) lk), ?_⟩
    refine ⟨?_, rfl⟩
    unfold oneF
    simp_all [noVl]

theorem two_bad {k : Int} {a b : Vl} (h0 : bothV a b = 0) (hk : k = 8 ∨ k = 9 ∨ k = 10) {i : Nat} (hi : i < 2) (h1 : (selV a b i).k ≠ 2) (h2 : (selV a b i).k ≠ 0) : twoF k a b = (noVl, 4) := by
 unfold twoF
 rw [if_neg (by simp [h0]), if_neg (by omega), if_neg (by omega), if_neg (by omega), if_pos hk]
 match i, hi with
 | 0, _ => rw [if_pos (.inl ⟨h1, h2⟩)]
 | 1, _ => rw [if_pos (.inr ⟨h1, h2⟩)]
theorem two_arith {k : Int} {a b : Vl} (h0 : bothV a b = 0) (hk : k = 8 ∨ k = 9 ∨ k = 10) (hg : ¬ ((a.k ≠ 2 ∧ a.k ≠ 0) ∨ (b.k ≠ 2 ∧ b.k ≠ 0))) :
  twoF k a b = if nullF a b = true then (noVl, 0) else if (arithF k a.n b.n).2 = true then (⟨2, (arithF k a.n b.n).1, ⟨#[]⟩⟩, 0) else (noVl, 5) := by
 unfold twoF
 rw [if_neg (by simp [h0]), if_neg (by omega), if_neg (by omega), if_neg (by omega), if_pos hk, if_neg hg]

set_option maxHeartbeats 4000000 in
set_option maxRecDepth 100000 in
theorem two_vp (k : Int) (a b : Vl) (oa : a.Ok) (ob : b.Ok) : VP Tryz.prog G 29 [.v (.int .i64 k), .agg (cV a), .agg (cV b)] (vlD (twoF k a b)) := by
 refine VC.body Tryz.func29 rfl Tryz.ntmps29 (Nat.le_of_ble_eq_true rfl) fun X0 w0 S00 => ?_
 unfold vlD
 have hbv := Cd.both_vp (G := G) a b
 have hnv := null_vp (G := G) a b
 have hl0 := logic_vp (G := G) a b 0
 have hl1 := logic_vp (G := G) a b 1
 have hcv := Cd.compare_vp (G := G) a b oa ob
 have hav := arith_vp (G := G) k a.n b.n
 unfold vlD at hl0 hl1
 unfold cV at hbv hnv hl0 hl1 hcv
 unfold cV
 refine sr_ ?_
 refine OD.box (ds := [_, _, _]) (wants_plain rfl) rfl rfl ot rfl rfl (fun b4 => ?_)
 refine OD.box (ds := [_, _, _]) (wants_plain rfl) rfl rfl ot rfl rfl (fun b5 => ?_)
 refine OD.alloc (ds := [_, _, _]) (wants_plain rfl) rfl rfl Tryz.zeroValue26 rfl (fun b6 => ?_)
 refine os_ mv_ ?_
 refine OD.wk (Wk.as_ (n := 106) (l' := [(0, _), (4, _), (5, _), (6, _)]) (S' := [⟨b6, 26, 3, [_, _, _]⟩, ⟨b5, 26, 3, [_, _, _]⟩, ⟨b4, 26, 3, [_, _, _]⟩]) rfl rfl ⟨lk, lk, lk, lk, trivial⟩) ?_
 refine OD.nil ?_
 refine CD.seq ?_
 refine sr_ ?_
 refine os_ (lab_ 2 [_, _, _]) ?_
 refine os_ (lab_ 1 [_, _, _]) ?_
 refine OD.callP (wants_plain rfl) rfl rfl rfl Tryz.call46 (hbv) ⟨ot, ot, trivial⟩ ?_
 refine os_ mv_ ?_
 refine OD.wk (Wk.as_ (n := 106) (l' := [(0, _), (4, _), (5, _), (6, _), (8, _)]) (S' := [⟨b6, 26, 3, [_, _, _]⟩, ⟨b5, 26, 3, [_, _, _]⟩, ⟨b4, 26, 3, [_, _, _]⟩]) rfl rfl ⟨lk, lk, lk, lk, lk, trivial⟩) ?_
 refine OD.nil ?_
 refine sr_ ?_
 refine os_ mv_ ?_
 refine os_ bn_ ?_
 refine nm_ [0, 4, 5, 6, 8, 18] ?_
 refine CD.cond ot (fun hc0 => ?_) (fun hc0 => ?_)
 ·have hc0' := hc0
  (try simp only [V.cnd, ne_eq] at hc0')
  have hb0 : bothV a b ≠ 0 := by simpa using hc0
  have hres : twoF k a b = (noVl, bothV a b) := by unfold twoF; rw [if_pos hb0]
  refine sr_ ?_
  refine OD.still (wants_plain rfl) rfl (still_bld (pl := []) (ds := [_, _, _]) rfl Tryz.zeroValue26 Tryz.runUnderlying26 places26_Ex2 trivial rfl rfl) ?_
  refine os_ mv_ ?_
  refine OD.store (k := 0) (cs' := [_, _, _]) (wants_plain rfl) rfl rfl ot rfl rfl ot rfl rfl Tryz.sizeOf26 rfl rfl rfl ?_
  refine os_ mv_ ?_
  refine OD.wk (Wk.as_ (n := 106) (l' := [(6, _), (7, _)]) (S' := [⟨b6, 26, 3, [_, _, _]⟩, ⟨b5, 26, 3, [_, _, _]⟩, ⟨b4, 26, 3, [_, _, _]⟩]) rfl rfl ⟨lk, lk, trivial⟩) ?_
  refine OD.nil ?_
  refine CD.ret ?_
  refine ⟨.inr rfl, _, [], List.nil_sublist _, ret_two Tryz.results29 (res_cells (k := 0) (ds := [_, _, _]) (Nat.le_of_ble_eq_true rfl) lk rfl rfl Tryz.isAgg26 Tryz.sizeOf26 rfl rfl) (res_tmp (Nat.le_of_ble_eq_true rfl) lk), ?_⟩
  rw [hres]
  first | exact ⟨rfl, rfl⟩ | (refine ⟨?_, rfl⟩; clear hres hcv hav hl0 hl1 hbv hnv; generalize (cmpV a b == 0) = z1 at *; generalize (decide (cmpV a b < 0)) = z2 at *; subst_vars; simp_all; done)
 ·have hc0' := hc0
  (try simp only [V.cnd, ne_eq] at hc0')
  have hb0 : bothV a b = 0 := by simpa using hc0
  refine CD.skip ?_
  refine CD.seq ?_
  refine sr_ ?_
  refine os_ mv_ ?_
  refine nm_ [0, 4, 5, 6, 21] ?_
  refine CD.block ?_
  refine sr_ ?_
  refine os_ bn_ ?_
  refine os_ mv_ ?_
  refine nm_ [0, 4, 5, 6, 21, 22] ?_
  refine CD.cond ot (fun hc1 => ?_) (fun hc1 => ?_)
  ·have hc1' := hc1
   (try simp only [V.cnd, ne_eq] at hc1')
   have hres : twoF k a b = logicF a b 0 := by unfold twoF; rw [if_neg (by simp [hb0]), if_pos (by omega)]
   refine sr_ ?_
   refine os_ (lab_ 2 [_, _, _]) ?_
   refine os_ (lab_ 1 [_, _, _]) ?_
   refine OD.callP (wants_plain rfl) rfl rfl rfl Tryz.call47 (hl0) ⟨ot, ot, opd_const, trivial⟩ ?_
   refine os_ ex_ ?_
   refine os_ ex_ ?_
   refine OD.store (k := 0) (cs' := [_, _, _]) (wants_plain rfl) rfl rfl ot rfl rfl ot rfl rfl Tryz.sizeOf26 rfl rfl rfl ?_
   refine os_ mv_ ?_
   refine OD.wk (Wk.as_ (n := 106) (l' := [(6, _), (7, _)]) (S' := [⟨b6, 26, 3, [_, _, _]⟩, ⟨b5, 26, 3, [_, _, _]⟩, ⟨b4, 26, 3, [_, _, _]⟩]) rfl rfl ⟨lk, lk, trivial⟩) ?_
   refine OD.nil ?_
   refine CD.ret ?_
   refine ⟨.inr rfl, _, [], List.nil_sublist _, ret_two Tryz.results29 (res_cells (k := 0) (ds := [_, _, _]) (Nat.le_of_ble_eq_true rfl) lk rfl rfl Tryz.isAgg26 Tryz.sizeOf26 rfl rfl) (res_tmp (Nat.le_of_ble_eq_true rfl) lk), ?_⟩
   rw [hres]
   first | exact ⟨rfl, rfl⟩ | (refine ⟨?_, rfl⟩; clear hres hcv hav hl0 hl1 hbv hnv; generalize (cmpV a b == 0) = z1 at *; generalize (decide (cmpV a b < 0)) = z2 at *; subst_vars; simp_all; done)
  ·have hc1' := hc1
   (try simp only [V.cnd, ne_eq] at hc1')
   refine sr_ ?_
   refine os_ bn_ ?_
   refine os_ mv_ ?_
   refine nm_ [0, 4, 5, 6, 21, 29] ?_
   refine CD.cond ot (fun hc2 => ?_) (fun hc2 => ?_)
   ·have hc2' := hc2
    (try simp only [V.cnd, ne_eq] at hc2')
    have hres : twoF k a b = logicF a b 1 := by unfold twoF; rw [if_neg (by simp [hb0]), if_neg (by omega), if_pos (by omega)]
    refine sr_ ?_
    refine os_ (lab_ 2 [_, _, _]) ?_
    refine os_ (lab_ 1 [_, _, _]) ?_
    refine OD.callP (wants_plain rfl) rfl rfl rfl Tryz.call47 (hl1) ⟨ot, ot, opd_const, trivial⟩ ?_
    refine os_ ex_ ?_
    refine os_ ex_ ?_
    refine OD.store (k := 0) (cs' := [_, _, _]) (wants_plain rfl) rfl rfl ot rfl rfl ot rfl rfl Tryz.sizeOf26 rfl rfl rfl ?_
    refine os_ mv_ ?_
    refine OD.wk (Wk.as_ (n := 106) (l' := [(6, _), (7, _)]) (S' := [⟨b6, 26, 3, [_, _, _]⟩, ⟨b5, 26, 3, [_, _, _]⟩, ⟨b4, 26, 3, [_, _, _]⟩]) rfl rfl ⟨lk, lk, trivial⟩) ?_
    refine OD.nil ?_
    refine CD.ret ?_
    refine ⟨.inr rfl, _, [], List.nil_sublist _, ret_two Tryz.results29 (res_cells (k := 0) (ds := [_, _, _]) (Nat.le_of_ble_eq_true rfl) lk rfl rfl Tryz.isAgg26 Tryz.sizeOf26 rfl rfl) (res_tmp (Nat.le_of_ble_eq_true rfl) lk), ?_⟩
    rw [hres]
    first | exact ⟨rfl, rfl⟩ | (refine ⟨?_, rfl⟩; clear hres hcv hav hl0 hl1 hbv hnv; generalize (cmpV a b == 0) = z1 at *; generalize (decide (cmpV a b < 0)) = z2 at *; subst_vars; simp_all; done)
   ·have hc2' := hc2
    (try simp only [V.cnd, ne_eq] at hc2')
    refine CD.seq ?_
    refine sr_ ?_
    refine os_ bn_ ?_
    refine os_ mv_ ?_
    refine nm_ [0, 4, 5, 6, 21, 36] ?_
    refine CD.cond ot (fun hc3 => ?_) (fun hc3 => ?_)
    ·have hc3' := hc3
     (try simp only [V.cnd, ne_eq] at hc3')
     refine CD.skip ?_
     refine CD.condT ot (by first | rfl | assumption) ?_
     refine CD.seq ?_
     refine sr_ ?_
     refine os_ (lab_ 2 [_, _, _]) ?_
     refine os_ (lab_ 1 [_, _, _]) ?_
     refine OD.callP (wants_plain rfl) rfl rfl rfl Tryz.call48 (hnv) ⟨ot, ot, trivial⟩ ?_
     refine OD.wk (Wk.as_ (n := 106) (l' := [(0, _), (4, _), (5, _), (6, _), (41, _)]) (S' := [⟨b6, 26, 3, [_, _, _]⟩, ⟨b5, 26, 3, [_, _, _]⟩, ⟨b4, 26, 3, [_, _, _]⟩]) rfl rfl ⟨lk, lk, lk, lk, lk, trivial⟩) ?_
     refine OD.nil ?_
     refine CD.cond ot (fun hc5 => ?_) (fun hc5 => ?_)
     ·have hc5' := hc5
      (try simp only [V.cnd, ne_eq] at hc5')
      have hres : twoF k a b = (noVl, 0) := by unfold twoF; rw [if_neg (by simp [hb0]), if_neg (by omega), if_neg (by omega), if_pos (by omega), if_pos hc5]
      refine sr_ ?_
      refine OD.still (wants_plain rfl) rfl (still_bld (pl := []) (ds := [_, _, _]) rfl Tryz.zeroValue26 Tryz.runUnderlying26 places26_Ex2 trivial rfl rfl) ?_
      refine OD.store (k := 0) (cs' := [_, _, _]) (wants_plain rfl) rfl rfl ot rfl rfl ot rfl rfl Tryz.sizeOf26 rfl rfl rfl ?_
      refine os_ mv_ ?_
      refine OD.wk (Wk.as_ (n := 106) (l' := [(6, _), (7, _)]) (S' := [⟨b6, 26, 3, [_, _, _]⟩, ⟨b5, 26, 3, [_, _, _]⟩, ⟨b4, 26, 3, [_, _, _]⟩]) rfl rfl ⟨lk, lk, trivial⟩) ?_
      refine OD.nil ?_
      refine CD.ret ?_
      refine ⟨.inr rfl, _, [], List.nil_sublist _, ret_two Tryz.results29 (res_cells (k := 0) (ds := [_, _, _]) (Nat.le_of_ble_eq_true rfl) lk rfl rfl Tryz.isAgg26 Tryz.sizeOf26 rfl rfl) (res_tmp (Nat.le_of_ble_eq_true rfl) lk), ?_⟩
      rw [hres]
      first | exact ⟨rfl, rfl⟩ | (refine ⟨?_, rfl⟩; clear hres hcv hav hl0 hl1 hbv hnv; generalize (cmpV a b == 0) = z1 at *; generalize (decide (cmpV a b < 0)) = z2 at *; subst_vars; simp_all; done)
     ·have hc5' := hc5
      (try simp only [V.cnd, ne_eq] at hc5')
      refine CD.skip ?_
      refine CD.seq ?_
      refine sr_ ?_
      refine os_ (fa_ 0) ?_
      refine os_ (lb_ 2) ?_
      refine os_ (fa_ 0) ?_
      refine os_ (lb_ 1) ?_
      refine os_ bn_ ?_
      refine nm_ [0, 4, 5, 6, 47] ?_
      refine CD.cond ot (fun hc6 => ?_) (fun hc6 => ?_)
      ·have hc6' := hc6
       (try simp only [V.cnd, ne_eq] at hc6')
       have hres : twoF k a b = (noVl, 4) := by unfold twoF; rw [if_neg (by simp [hb0]), if_neg (by omega), if_neg (by omega), if_pos (by omega), if_neg (by rw [hc5]; simp), if_pos (by simpa using hc6)]
       refine sr_ ?_
       refine OD.still (wants_plain rfl) rfl (still_bld (pl := []) (ds := [_, _, _]) rfl Tryz.zeroValue26 Tryz.runUnderlying26 places26_Ex2 trivial rfl rfl) ?_
       refine OD.store (k := 0) (cs' := [_, _, _]) (wants_plain rfl) rfl rfl ot rfl rfl ot rfl rfl Tryz.sizeOf26 rfl rfl rfl ?_
       refine os_ mv_ ?_
       refine OD.wk (Wk.as_ (n := 106) (l' := [(6, _), (7, _)]) (S' := [⟨b6, 26, 3, [_, _, _]⟩, ⟨b5, 26, 3, [_, _, _]⟩, ⟨b4, 26, 3, [_, _, _]⟩]) rfl rfl ⟨lk, lk, trivial⟩) ?_
       refine OD.nil ?_
       refine CD.ret ?_
       refine ⟨.inr rfl, _, [], List.nil_sublist _, ret_two Tryz.results29 (res_cells (k := 0) (ds := [_, _, _]) (Nat.le_of_ble_eq_true rfl) lk rfl rfl Tryz.isAgg26 Tryz.sizeOf26 rfl rfl) (res_tmp (Nat.le_of_ble_eq_true rfl) lk), ?_⟩
       rw [hres]
       first | exact ⟨rfl, rfl⟩ | (refine ⟨?_, rfl⟩; clear hres hcv hav hl0 hl1 hbv hnv; generalize (cmpV a b == 0) = z1 at *; generalize (decide (cmpV a b < 0)) = z2 at *; subst_vars; simp_all; done)
      ·have hc6' := hc6
       (try simp only [V.cnd, ne_eq] at hc6')
       have hres : twoF k a b = (truthV ((cmpV a b == 0 && k == 6) || (decide (cmpV a b < 0) && k == 7)), 0) := by unfold twoF; rw [if_neg (by simp [hb0]), if_neg (by omega), if_neg (by omega), if_pos (by omega), if_neg (by rw [hc5]; simp), if_neg (by simpa using hc6)]
       refine CD.skip ?_
       refine sr_ ?_
       refine os_ (lab_ 2 [_, _, _]) ?_
       refine os_ (lab_ 1 [_, _, _]) ?_
       refine OD.callP (wants_plain rfl) rfl rfl rfl Tryz.call49 (hcv) ⟨ot, ot, trivial⟩ ?_
       refine os_ mv_ ?_
       refine OD.wk (Wk.as_ (n := 106) (l' := [(0, _), (6, _), (9, _)]) (S' := [⟨b6, 26, 3, [_, _, _]⟩, ⟨b5, 26, 3, [_, _, _]⟩, ⟨b4, 26, 3, [_, _, _]⟩]) rfl rfl ⟨lk, lk, lk, trivial⟩) ?_
       refine OD.nil ?_
       refine sr_ ?_
       refine os_ mv_ ?_
       refine os_ bn_ ?_
       refine os_ mv_ ?_
       refine OD.split (t := 54) lk (fun hg54 => ?_) (fun hg54 => ?_)
       ·have hg54' := hg54; (try simp only [V.cnd, ne_eq] at hg54')
        refine os_ mv_ ?_
        refine os_ bn_ ?_
        refine os_ pkT_ ?_
        refine os_ mv_ ?_
        refine OD.split (t := 58) lk (fun hg58 => ?_) (fun hg58 => ?_)
        ·have hg58' := hg58; (try simp only [V.cnd, ne_eq] at hg58')
         refine sk_ ?_
         refine sk_ ?_
         refine sk_ ?_
         refine sj_ ?_
         refine sj_ ?_
         refine sk_ ?_
         refine os_ pkT_ ?_
         refine OD.callP (wants_plain rfl) rfl rfl rfl Tryz.call45 (truth_vp _) ⟨ot, trivial⟩ ?_
         refine OD.store (k := 0) (cs' := [_, _, _]) (wants_plain rfl) rfl rfl ot rfl rfl ot rfl rfl Tryz.sizeOf26 rfl rfl rfl ?_
         refine os_ mv_ ?_
         refine OD.wk (Wk.as_ (n := 106) (l' := [(6, _), (7, _)]) (S' := [⟨b6, 26, 3, [_, _, _]⟩, ⟨b5, 26, 3, [_, _, _]⟩, ⟨b4, 26, 3, [_, _, _]⟩]) rfl rfl ⟨lk, lk, trivial⟩) ?_
         refine OD.nil ?_
         refine CD.ret ?_
         refine ⟨.inr rfl, _, [], List.nil_sublist _, ret_two Tryz.results29 (res_cells (k := 0) (ds := [_, _, _]) (Nat.le_of_ble_eq_true rfl) lk rfl rfl Tryz.isAgg26 Tryz.sizeOf26 rfl rfl) (res_tmp (Nat.le_of_ble_eq_true rfl) lk), ?_⟩
         rw [hres]
         first | exact ⟨rfl, rfl⟩ | (refine ⟨?_, rfl⟩; clear hres hcv hav hl0 hl1 hbv hnv; generalize (cmpV a b == 0) = z1 at *; generalize (decide (cmpV a b < 0)) = z2 at *; subst_vars; simp_all; done)
        ·have hg58' := hg58; (try simp only [V.cnd, ne_eq] at hg58')
         refine os_ mv_ ?_
         refine os_ bn_ ?_
         refine os_ mv_ ?_
         refine OD.split (t := 61) lk (fun hg61 => ?_) (fun hg61 => ?_)
         ·have hg61' := hg61; (try simp only [V.cnd, ne_eq] at hg61')
          refine os_ mv_ ?_
          refine os_ bn_ ?_
          refine os_ pkT_ ?_
          refine os_ pkF_ ?_
          refine OD.callP (wants_plain rfl) rfl rfl rfl Tryz.call45 (truth_vp _) ⟨ot, trivial⟩ ?_
          refine OD.store (k := 0) (cs' := [_, _, _]) (wants_plain rfl) rfl rfl ot rfl rfl ot rfl rfl Tryz.sizeOf26 rfl rfl rfl ?_
          refine os_ mv_ ?_
          refine OD.wk (Wk.as_ (n := 106) (l' := [(6, _), (7, _)]) (S' := [⟨b6, 26, 3, [_, _, _]⟩, ⟨b5, 26, 3, [_, _, _]⟩, ⟨b4, 26, 3, [_, _, _]⟩]) rfl rfl ⟨lk, lk, trivial⟩) ?_
          refine OD.nil ?_
          refine CD.ret ?_
          refine ⟨.inr rfl, _, [], List.nil_sublist _, ret_two Tryz.results29 (res_cells (k := 0) (ds := [_, _, _]) (Nat.le_of_ble_eq_true rfl) lk rfl rfl Tryz.isAgg26 Tryz.sizeOf26 rfl rfl) (res_tmp (Nat.le_of_ble_eq_true rfl) lk), ?_⟩
          rw [hres]
          first | exact ⟨rfl, rfl⟩ | (refine ⟨?_, rfl⟩; clear hres hcv hav hl0 hl1 hbv hnv; generalize (cmpV a b == 0) = z1 at *; generalize (decide (cmpV a b < 0)) = z2 at *; subst_vars; simp_all; done)
         ·have hg61' := hg61; (try simp only [V.cnd, ne_eq] at hg61')
          refine sk_ ?_
          refine sk_ ?_
          refine os_ pkF_ ?_
          refine os_ pkF_ ?_
          refine OD.callP (wants_plain rfl) rfl rfl rfl Tryz.call45 (truth_vp _) ⟨ot, trivial⟩ ?_
          refine OD.store (k := 0) (cs' := [_, _, _]) (wants_plain rfl) rfl rfl ot rfl rfl ot rfl rfl Tryz.sizeOf26 rfl rfl rfl ?_
          refine os_ mv_ ?_
          refine OD.wk (Wk.as_ (n := 106) (l' := [(6, _), (7, _)]) (S' := [⟨b6, 26, 3, [_, _, _]⟩, ⟨b5, 26, 3, [_, _, _]⟩, ⟨b4, 26, 3, [_, _, _]⟩]) rfl rfl ⟨lk, lk, trivial⟩) ?_
          refine OD.nil ?_
          refine CD.ret ?_
          refine ⟨.inr rfl, _, [], List.nil_sublist _, ret_two Tryz.results29 (res_cells (k := 0) (ds := [_, _, _]) (Nat.le_of_ble_eq_true rfl) lk rfl rfl Tryz.isAgg26 Tryz.sizeOf26 rfl rfl) (res_tmp (Nat.le_of_ble_eq_true rfl) lk), ?_⟩
          rw [hres]
          first | exact ⟨rfl, rfl⟩ | (refine ⟨?_, rfl⟩; clear hres hcv hav hl0 hl1 hbv hnv; generalize (cmpV a b == 0) = z1 at *; generalize (decide (cmpV a b < 0)) = z2 at *; subst_vars; simp_all; done)
       ·have hg54' := hg54; (try simp only [V.cnd, ne_eq] at hg54')
        refine sk_ ?_
        refine sk_ ?_
        refine os_ pkF_ ?_
        refine os_ mv_ ?_
        refine os_ mv_ ?_
        refine os_ bn_ ?_
        refine os_ mv_ ?_
        refine OD.split (t := 61) lk (fun hg61 => ?_) (fun hg61 => ?_)
        ·have hg61' := hg61; (try simp only [V.cnd, ne_eq] at hg61')
         refine os_ mv_ ?_
         refine os_ bn_ ?_
         refine os_ pkT_ ?_
         refine os_ pkF_ ?_
         refine OD.callP (wants_plain rfl) rfl rfl rfl Tryz.call45 (truth_vp _) ⟨ot, trivial⟩ ?_
         refine OD.store (k := 0) (cs' := [_, _, _]) (wants_plain rfl) rfl rfl ot rfl rfl ot rfl rfl Tryz.sizeOf26 rfl rfl rfl ?_
         refine os_ mv_ ?_
         refine OD.wk (Wk.as_ (n := 106) (l' := [(6, _), (7, _)]) (S' := [⟨b6, 26, 3, [_, _, _]⟩, ⟨b5, 26, 3, [_, _, _]⟩, ⟨b4, 26, 3, [_, _, _]⟩]) rfl rfl ⟨lk, lk, trivial⟩) ?_
         refine OD.nil ?_
         refine CD.ret ?_
         refine ⟨.inr rfl, _, [], List.nil_sublist _, ret_two Tryz.results29 (res_cells (k := 0) (ds := [_, _, _]) (Nat.le_of_ble_eq_true rfl) lk rfl rfl Tryz.isAgg26 Tryz.sizeOf26 rfl rfl) (res_tmp (Nat.le_of_ble_eq_true rfl) lk), ?_⟩
         rw [hres]
         first | exact ⟨rfl, rfl⟩ | (refine ⟨?_, rfl⟩; clear hres hcv hav hl0 hl1 hbv hnv; generalize (cmpV a b == 0) = z1 at *; generalize (decide (cmpV a b < 0)) = z2 at *; subst_vars; simp_all; done)
        ·have hg61' := hg61; (try simp only [V.cnd, ne_eq] at hg61')
         refine sk_ ?_
         refine sk_ ?_
         refine os_ pkF_ ?_
         refine os_ pkF_ ?_
         refine OD.callP (wants_plain rfl) rfl rfl rfl Tryz.call45 (truth_vp _) ⟨ot, trivial⟩ ?_
         refine OD.store (k := 0) (cs' := [_, _, _]) (wants_plain rfl) rfl rfl ot rfl rfl ot rfl rfl Tryz.sizeOf26 rfl rfl rfl ?_
         refine os_ mv_ ?_
         refine OD.wk (Wk.as_ (n := 106) (l' := [(6, _), (7, _)]) (S' := [⟨b6, 26, 3, [_, _, _]⟩, ⟨b5, 26, 3, [_, _, _]⟩, ⟨b4, 26, 3, [_, _, _]⟩]) rfl rfl ⟨lk, lk, trivial⟩) ?_
         refine OD.nil ?_
         refine CD.ret ?_
         refine ⟨.inr rfl, _, [], List.nil_sublist _, ret_two Tryz.results29 (res_cells (k := 0) (ds := [_, _, _]) (Nat.le_of_ble_eq_true rfl) lk rfl rfl Tryz.isAgg26 Tryz.sizeOf26 rfl rfl) (res_tmp (Nat.le_of_ble_eq_true rfl) lk), ?_⟩
         rw [hres]
         first | exact ⟨rfl, rfl⟩ | (refine ⟨?_, rfl⟩; clear hres hcv hav hl0 hl1 hbv hnv; generalize (cmpV a b == 0) = z1 at *; generalize (decide (cmpV a b < 0)) = z2 at *; subst_vars; simp_all; done)
    ·have hc3' := hc3
     (try simp only [V.cnd, ne_eq] at hc3')
     refine CD.region ?_
     refine os_ bn_ ?_
     refine os_ mv_ ?_
     refine nm_ [0, 4, 5, 6, 21, 36] ?_
     refine CD.cond ot (fun hc4 => ?_) (fun hc4 => ?_)
     ·have hc4' := hc4
      (try simp only [V.cnd, ne_eq] at hc4')
      refine CD.seq ?_
      refine sr_ ?_
      refine os_ (lab_ 2 [_, _, _]) ?_
      refine os_ (lab_ 1 [_, _, _]) ?_
      refine OD.callP (wants_plain rfl) rfl rfl rfl Tryz.call48 (hnv) ⟨ot, ot, trivial⟩ ?_
      refine OD.wk (Wk.as_ (n := 106) (l' := [(0, _), (4, _), (5, _), (6, _), (41, _)]) (S' := [⟨b6, 26, 3, [_, _, _]⟩, ⟨b5, 26, 3, [_, _, _]⟩, ⟨b4, 26, 3, [_, _, _]⟩]) rfl rfl ⟨lk, lk, lk, lk, lk, trivial⟩) ?_
      refine OD.nil ?_
      refine CD.cond ot (fun hc5 => ?_) (fun hc5 => ?_)
      ·have hc5' := hc5
       (try simp only [V.cnd, ne_eq] at hc5')
       have hres : twoF k a b = (noVl, 0) := by unfold twoF; rw [if_neg (by simp [hb0]), if_neg (by omega), if_neg (by omega), if_pos (by omega), if_pos hc5]
       refine sr_ ?_
       refine OD.still (wants_plain rfl) rfl (still_bld (pl := []) (ds := [_, _, _]) rfl Tryz.zeroValue26 Tryz.runUnderlying26 places26_Ex2 trivial rfl rfl) ?_
       refine OD.store (k := 0) (cs' := [_, _, _]) (wants_plain rfl) rfl rfl ot rfl rfl ot rfl rfl Tryz.sizeOf26 rfl rfl rfl ?_
       refine os_ mv_ ?_
       refine OD.wk (Wk.as_ (n := 106) (l' := [(6, _), (7, _)]) (S' := [⟨b6, 26, 3, [_, _, _]⟩, ⟨b5, 26, 3, [_, _, _]⟩, ⟨b4, 26, 3, [_, _, _]⟩]) rfl rfl ⟨lk, lk, trivial⟩) ?_
       refine OD.nil ?_
       refine CD.ret ?_
       refine ⟨.inr rfl, _, [], List.nil_sublist _, ret_two Tryz.results29 (res_cells (k := 0) (ds := [_, _, _]) (Nat.le_of_ble_eq_true rfl) lk rfl rfl Tryz.isAgg26 Tryz.sizeOf26 rfl rfl) (res_tmp (Nat.le_of_ble_eq_true rfl) lk), ?_⟩
       rw [hres]
       first | exact ⟨rfl, rfl⟩ | (refine ⟨?_, rfl⟩; clear hres hcv hav hl0 hl1 hbv hnv; generalize (cmpV a b == 0) = z1 at *; generalize (decide (cmpV a b < 0)) = z2 at *; subst_vars; simp_all; done)
      ·have hc5' := hc5
       (try simp only [V.cnd, ne_eq] at hc5')
       refine CD.skip ?_
       refine CD.seq ?_
       refine sr_ ?_
       refine os_ (fa_ 0) ?_
       refine os_ (lb_ 2) ?_
       refine os_ (fa_ 0) ?_
       refine os_ (lb_ 1) ?_
       refine os_ bn_ ?_
       refine nm_ [0, 4, 5, 6, 47] ?_
       refine CD.cond ot (fun hc6 => ?_) (fun hc6 => ?_)
       ·have hc6' := hc6
        (try simp only [V.cnd, ne_eq] at hc6')
        have hres : twoF k a b = (noVl, 4) := by unfold twoF; rw [if_neg (by simp [hb0]), if_neg (by omega), if_neg (by omega), if_pos (by omega), if_neg (by rw [hc5]; simp), if_pos (by simpa using hc6)]
        refine sr_ ?_
        refine OD.still (wants_plain rfl) rfl (still_bld (pl := []) (ds := [_, _, _]) rfl Tryz.zeroValue26 Tryz.runUnderlying26 places26_Ex2 trivial rfl rfl) ?_
        refine OD.store (k := 0) (cs' := [_, _, _]) (wants_plain rfl) rfl rfl ot rfl rfl ot rfl rfl Tryz.sizeOf26 rfl rfl rfl ?_
        refine os_ mv_ ?_
        refine OD.wk (Wk.as_ (n := 106) (l' := [(6, _), (7, _)]) (S' := [⟨b6, 26, 3, [_, _, _]⟩, ⟨b5, 26, 3, [_, _, _]⟩, ⟨b4, 26, 3, [_, _, _]⟩]) rfl rfl ⟨lk, lk, trivial⟩) ?_
        refine OD.nil ?_
        refine CD.ret ?_
        refine ⟨.inr rfl, _, [], List.nil_sublist _, ret_two Tryz.results29 (res_cells (k := 0) (ds := [_, _, _]) (Nat.le_of_ble_eq_true rfl) lk rfl rfl Tryz.isAgg26 Tryz.sizeOf26 rfl rfl) (res_tmp (Nat.le_of_ble_eq_true rfl) lk), ?_⟩
        rw [hres]
        first | exact ⟨rfl, rfl⟩ | (refine ⟨?_, rfl⟩; clear hres hcv hav hl0 hl1 hbv hnv; generalize (cmpV a b == 0) = z1 at *; generalize (decide (cmpV a b < 0)) = z2 at *; subst_vars; simp_all; done)
       ·have hc6' := hc6
        (try simp only [V.cnd, ne_eq] at hc6')
        have hres : twoF k a b = (truthV ((cmpV a b == 0 && k == 6) || (decide (cmpV a b < 0) && k == 7)), 0) := by unfold twoF; rw [if_neg (by simp [hb0]), if_neg (by omega), if_neg (by omega), if_pos (by omega), if_neg (by rw [hc5]; simp), if_neg (by simpa using hc6)]
        refine CD.skip ?_
        refine sr_ ?_
        refine os_ (lab_ 2 [_, _, _]) ?_
        refine os_ (lab_ 1 [_, _, _]) ?_
        refine OD.callP (wants_plain rfl) rfl rfl rfl Tryz.call49 (hcv) ⟨ot, ot, trivial⟩ ?_
        refine os_ mv_ ?_
        refine OD.wk (Wk.as_ (n := 106) (l' := [(0, _), (6, _), (9, _)]) (S' := [⟨b6, 26, 3, [_, _, _]⟩, ⟨b5, 26, 3, [_, _, _]⟩, ⟨b4, 26, 3, [_, _, _]⟩]) rfl rfl ⟨lk, lk, lk, trivial⟩) ?_
        refine OD.nil ?_
        refine sr_ ?_
        refine os_ mv_ ?_
        refine os_ bn_ ?_
        refine os_ mv_ ?_
        refine OD.split (t := 54) lk (fun hg54 => ?_) (fun hg54 => ?_)
        ·have hg54' := hg54; (try simp only [V.cnd, ne_eq] at hg54')
         refine os_ mv_ ?_
         refine os_ bn_ ?_
         refine os_ pkT_ ?_
         refine os_ mv_ ?_
         refine OD.split (t := 58) lk (fun hg58 => ?_) (fun hg58 => ?_)
         ·have hg58' := hg58; (try simp only [V.cnd, ne_eq] at hg58')
          refine sk_ ?_
          refine sk_ ?_
          refine sk_ ?_
          refine sj_ ?_
          refine sj_ ?_
          refine sk_ ?_
          refine os_ pkT_ ?_
          refine OD.callP (wants_plain rfl) rfl rfl rfl Tryz.call45 (truth_vp _) ⟨ot, trivial⟩ ?_
          refine OD.store (k := 0) (cs' := [_, _, _]) (wants_plain rfl) rfl rfl ot rfl rfl ot rfl rfl Tryz.sizeOf26 rfl rfl rfl ?_
          refine os_ mv_ ?_
          refine OD.wk (Wk.as_ (n := 106) (l' := [(6, _), (7, _)]) (S' := [⟨b6, 26, 3, [_, _, _]⟩, ⟨b5, 26, 3, [_, _, _]⟩, ⟨b4, 26, 3, [_, _, _]⟩]) rfl rfl ⟨lk, lk, trivial⟩) ?_
          refine OD.nil ?_
          refine CD.ret ?_
          refine ⟨.inr rfl, _, [], List.nil_sublist _, ret_two Tryz.results29 (res_cells (k := 0) (ds := [_, _, _]) (Nat.le_of_ble_eq_true rfl) lk rfl rfl Tryz.isAgg26 Tryz.sizeOf26 rfl rfl) (res_tmp (Nat.le_of_ble_eq_true rfl) lk), ?_⟩
          rw [hres]
          first | exact ⟨rfl, rfl⟩ | (refine ⟨?_, rfl⟩; clear hres hcv hav hl0 hl1 hbv hnv; generalize (cmpV a b == 0) = z1 at *; generalize (decide (cmpV a b < 0)) = z2 at *; subst_vars; simp_all; done)
         ·have hg58' := hg58; (try simp only [V.cnd, ne_eq] at hg58')
          refine os_ mv_ ?_
          refine os_ bn_ ?_
          refine os_ mv_ ?_
          refine OD.split (t := 61) lk (fun hg61 => ?_) (fun hg61 => ?_)
          ·have hg61' := hg61; (try simp only [V.cnd, ne_eq] at hg61')
           refine os_ mv_ ?_
           refine os_ bn_ ?_
           refine os_ pkT_ ?_
           refine os_ pkF_ ?_
           refine OD.callP (wants_plain rfl) rfl rfl rfl Tryz.call45 (truth_vp _) ⟨ot, trivial⟩ ?_
           refine OD.store (k := 0) (cs' := [_, _, _]) (wants_plain rfl) rfl rfl ot rfl rfl ot rfl rfl Tryz.sizeOf26 rfl rfl rfl ?_
           refine os_ mv_ ?_
           refine OD.wk (Wk.as_ (n := 106) (l' := [(6, _), (7, _)]) (S' := [⟨b6, 26, 3, [_, _, _]⟩, ⟨b5, 26, 3, [_, _, _]⟩, ⟨b4, 26, 3, [_, _, _]⟩]) rfl rfl ⟨lk, lk, trivial⟩) ?_
           refine OD.nil ?_
           refine CD.ret ?_
           refine ⟨.inr rfl, _, [], List.nil_sublist _, ret_two Tryz.results29 (res_cells (k := 0) (ds := [_, _, _]) (Nat.le_of_ble_eq_true rfl) lk rfl rfl Tryz.isAgg26 Tryz.sizeOf26 rfl rfl) (res_tmp (Nat.le_of_ble_eq_true rfl) lk), ?_⟩
           rw [hres]
           first | exact ⟨rfl, rfl⟩ | (refine ⟨?_, rfl⟩; clear hres hcv hav hl0 hl1 hbv hnv; generalize (cmpV a b == 0) = z1 at *; generalize (decide (cmpV a b < 0)) = z2 at *; subst_vars; simp_all; done)
          ·have hg61' := hg61; (try simp only [V.cnd, ne_eq] at hg61')
           refine sk_ ?_
           refine sk_ ?_
           refine os_ pkF_ ?_
           refine os_ pkF_ ?_
           refine OD.callP (wants_plain rfl) rfl rfl rfl Tryz.call45 (truth_vp _) ⟨ot, trivial⟩ ?_
           refine OD.store (k := 0) (cs' := [_, _, _]) (wants_plain rfl) rfl rfl ot rfl rfl ot rfl rfl Tryz.sizeOf26 rfl rfl rfl ?_
           refine os_ mv_ ?_
           refine OD.wk (Wk.as_ (n := 106) (l' := [(6, _), (7, _)]) (S' := [⟨b6, 26, 3, [_, _, _]⟩, ⟨b5, 26, 3, [_, _, _]⟩, ⟨b4, 26, 3, [_, _, _]⟩]) rfl rfl ⟨lk, lk, trivial⟩) ?_
           refine OD.nil ?_
           refine CD.ret ?_
           refine ⟨.inr rfl, _, [], List.nil_sublist _, ret_two Tryz.results29 (res_cells (k := 0) (ds := [_, _, _]) (Nat.le_of_ble_eq_true rfl) lk rfl rfl Tryz.isAgg26 Tryz.sizeOf26 rfl rfl) (res_tmp (Nat.le_of_ble_eq_true rfl) lk), ?_⟩
           rw [hres]
           first | exact ⟨rfl, rfl⟩ | (refine ⟨?_, rfl⟩; clear hres hcv hav hl0 hl1 hbv hnv; generalize (cmpV a b == 0) = z1 at *; generalize (decide (cmpV a b < 0)) = z2 at *; subst_vars; simp_all; done)
        ·have hg54' := hg54; (try simp only [V.cnd, ne_eq] at hg54')
         refine sk_ ?_
         refine sk_ ?_
         refine os_ pkF_ ?_
         refine os_ mv_ ?_
         refine os_ mv_ ?_
         refine os_ bn_ ?_
         refine os_ mv_ ?_
         refine OD.split (t := 61) lk (fun hg61 => ?_) (fun hg61 => ?_)
         ·have hg61' := hg61; (try simp only [V.cnd, ne_eq] at hg61')
          refine os_ mv_ ?_
          refine os_ bn_ ?_
          refine os_ pkT_ ?_
          refine os_ pkF_ ?_
          refine OD.callP (wants_plain rfl) rfl rfl rfl Tryz.call45 (truth_vp _) ⟨ot, trivial⟩ ?_
          refine OD.store (k := 0) (cs' := [_, _, _]) (wants_plain rfl) rfl rfl ot rfl rfl ot rfl rfl Tryz.sizeOf26 rfl rfl rfl ?_
          refine os_ mv_ ?_
          refine OD.wk (Wk.as_ (n := 106) (l' := [(6, _), (7, _)]) (S' := [⟨b6, 26, 3, [_, _, _]⟩, ⟨b5, 26, 3, [_, _, _]⟩, ⟨b4, 26, 3, [_, _, _]⟩]) rfl rfl ⟨lk, lk, trivial⟩) ?_
          refine OD.nil ?_
          refine CD.ret ?_
          refine ⟨.inr rfl, _, [], List.nil_sublist _, ret_two Tryz.results29 (res_cells (k := 0) (ds := [_, _, _]) (Nat.le_of_ble_eq_true rfl) lk rfl rfl Tryz.isAgg26 Tryz.sizeOf26 rfl rfl) (res_tmp (Nat.le_of_ble_eq_true rfl) lk), ?_⟩
          rw [hres]
          first | exact ⟨rfl, rfl⟩ | (refine ⟨?_, rfl⟩; clear hres hcv hav hl0 hl1 hbv hnv; generalize (cmpV a b == 0) = z1 at *; generalize (decide (cmpV a b < 0)) = z2 at *; subst_vars; simp_all; done)
         ·have hg61' := hg61; (try simp only [V.cnd, ne_eq] at hg61')
          refine sk_ ?_
          refine sk_ ?_
          refine os_ pkF_ ?_
          refine os_ pkF_ ?_
          refine OD.callP (wants_plain rfl) rfl rfl rfl Tryz.call45 (truth_vp _) ⟨ot, trivial⟩ ?_
          refine OD.store (k := 0) (cs' := [_, _, _]) (wants_plain rfl) rfl rfl ot rfl rfl ot rfl rfl Tryz.sizeOf26 rfl rfl rfl ?_
          refine os_ mv_ ?_
          refine OD.wk (Wk.as_ (n := 106) (l' := [(6, _), (7, _)]) (S' := [⟨b6, 26, 3, [_, _, _]⟩, ⟨b5, 26, 3, [_, _, _]⟩, ⟨b4, 26, 3, [_, _, _]⟩]) rfl rfl ⟨lk, lk, trivial⟩) ?_
          refine OD.nil ?_
          refine CD.ret ?_
          refine ⟨.inr rfl, _, [], List.nil_sublist _, ret_two Tryz.results29 (res_cells (k := 0) (ds := [_, _, _]) (Nat.le_of_ble_eq_true rfl) lk rfl rfl Tryz.isAgg26 Tryz.sizeOf26 rfl rfl) (res_tmp (Nat.le_of_ble_eq_true rfl) lk), ?_⟩
          rw [hres]
          first | exact ⟨rfl, rfl⟩ | (refine ⟨?_, rfl⟩; clear hres hcv hav hl0 hl1 hbv hnv; generalize (cmpV a b == 0) = z1 at *; generalize (decide (cmpV a b < 0)) = z2 at *; subst_vars; simp_all; done)
     ·have hc4' := hc4
      (try simp only [V.cnd, ne_eq] at hc4')
      refine CD.seq ?_
      refine sr_ ?_
      refine os_ bn_ ?_
      refine os_ mv_ ?_
      refine nm_ [0, 4, 5, 6, 21, 67] ?_
      refine CD.cond ot (fun hc7 => ?_) (fun hc7 => ?_)
      ·have hc7' := hc7
       (try simp only [V.cnd, ne_eq] at hc7')
       refine CD.skip ?_
       refine CD.condT ot (by first | rfl | assumption) ?_
       refine CD.seq ?_
       refine sr_ ?_
       refine os_ (lab_ 2 [_, _, _]) ?_
       refine os_ (lab_ 1 [_, _, _]) ?_
       refine OD.still (wants_plain rfl) rfl (still_bldA (pl := [(0, _), (1, _)]) (ds := [_, _, _, _, _, _]) rfl Tryz.zeroValue92 Tryz.runUnderlying92 Tryz.sizeOf26 ⟨rfl, ot, rfl, ot, trivial⟩ rfl rfl) ?_
       refine os_ mv_ ?_
       refine OD.wk (Wk.as_ (n := 106) (l' := [(0, _), (4, _), (5, _), (6, _), (73, _), (74, _)]) (S' := [⟨b6, 26, 3, [_, _, _]⟩, ⟨b5, 26, 3, [_, _, _]⟩, ⟨b4, 26, 3, [_, _, _]⟩]) rfl rfl ⟨lk, lk, lk, lk, lk, lk, trivial⟩) ?_
       refine OD.nil ?_
       refine CD.block ?_
       refine CD.wk (Wk.asS (n := 106) (l' := [(0, .v (.int .i64 k)), (4, .v (.pointer (some ⟨b4, 0, none⟩))), (5, .v (.pointer (some ⟨b5, 0, none⟩))), (6, .v (.pointer (some ⟨b6, 0, none⟩))), (73, .agg [.v (.int .i64 a.k), .v (.int .i64 a.n), .v (.string a.s), .v (.int .i64 b.k), .v (.int .i64 b.n), .v (.string b.s)]), (74, .v (.int .i64 ((0) : Nat)))]) (S' := [⟨b6, 26, 3, [.v (.int .i64 0), .v (.int .i64 0), .v (.string ⟨#[]⟩)]⟩, ⟨b5, 26, 3, [.v (.int .i64 b.k), .v (.int .i64 b.n), .v (.string b.s)]⟩, ⟨b4, 26, 3, [.v (.int .i64 a.k), .v (.int .i64 a.n), .v (.string a.s)]⟩]) rfl (by repeat (first | exact List.Sublist.refl _ | apply List.Sublist.cons)) ⟨(by (repeat (first | exact look_hit | (apply look_at; focus (first | rfl | (simp; done) | (congr 2; omega))) | (apply look_miss; focus rfl))); done), (by (repeat (first | exact look_hit | (apply look_at; focus (first | rfl | (simp; done) | (congr 2; omega))) | (apply look_miss; focus rfl))); done), (by (repeat (first | exact look_hit | (apply look_at; focus (first | rfl | (simp; done) | (congr 2; omega))) | (apply look_miss; focus rfl))); done), (by (repeat (first | exact look_hit | (apply look_at; focus (first | rfl | (simp; done) | (congr 2; omega))) | (apply look_miss; focus rfl))); done), (by (repeat (first | exact look_hit | (apply look_at; focus (first | rfl | (simp; done) | (congr 2; omega))) | (apply look_miss; focus rfl))); done), (by (repeat (first | exact look_hit | (apply look_at; focus (first | rfl | (simp; done) | (congr 2; omega))) | (apply look_miss; focus rfl))); done), trivial⟩) (CD.loop (fun (i : Nat) y__ => (i ≤ 2) ∧ (∀ j, j < i → ¬ ((selV a b j).k ≠ 2 ∧ (selV a b j).k ≠ 0)) ∧ y__ = (⟨106, [(0, .v (.int .i64 k)), (4, .v (.pointer (some ⟨b4, 0, none⟩))), (5, .v (.pointer (some ⟨b5, 0, none⟩))), (6, .v (.pointer (some ⟨b6, 0, none⟩))), (73, .agg [.v (.int .i64 a.k), .v (.int .i64 a.n), .v (.string a.s), .v (.int .i64 b.k), .v (.int .i64 b.n), .v (.string b.s)]), (74, .v (.int .i64 (i : Nat)))], [⟨b6, 26, 3, [.v (.int .i64 0), .v (.int .i64 0), .v (.string ⟨#[]⟩)]⟩, ⟨b5, 26, 3, [.v (.int .i64 b.k), .v (.int .i64 b.n), .v (.string b.s)]⟩, ⟨b4, 26, 3, [.v (.int .i64 a.k), .v (.int .i64 a.n), .v (.string a.s)]⟩]⟩ : St)) (fun (i : Nat) => 2 - i) 0 ⟨(Nat.zero_le _), (fun j hj => absurd hj (Nat.not_lt_zero _)), rfl⟩ ?_)
       rintro i _ ⟨hi, hall, rfl⟩
       have hk8 : k = 8 ∨ k = 9 ∨ k = 10 := by omega
       refine sr_ ?_
       refine os_ bn_ ?_
       refine nm_ [0, 4, 5, 6, 73, 74, 75] ?_
       refine CD.seq ?_
       refine CD.cond ot (fun hc10 => ?_) (fun hc10 => ?_)
       ·have hc10' := hc10
        (try simp only [V.cnd, ne_eq] at hc10')
        have hlt : i < 2 := by omega
        refine CD.skip ?_
        refine CD.seq ?_
        refine CD.block ?_
        refine sr_ ?_
        refine OD.still (wants_plain rfl) rfl (still_vidxs (j := i) rfl ot ot Tryz.runUnderlying92 Tryz.sizeOf26 Tryz.isAgg26 rfl hlt (sel_cells a b hlt)) ?_
        refine OD.alloc (ds := [_, _, _]) (wants_plain rfl) rfl rfl Tryz.zeroValue26 rfl (fun b11 => ?_)
        refine OD.store (k := 0) (cs' := [_, _, _]) (wants_plain rfl) rfl rfl ot rfl rfl ot rfl rfl Tryz.sizeOf26 rfl rfl rfl ?_
        refine OD.wk (Wk.as_ (n := 106) (l' := [(0, _), (4, _), (5, _), (6, _), (11, _), (73, _), (74, _)]) (S' := [⟨b11, 26, 3, [_, _, _]⟩, ⟨b6, 26, 3, [_, _, _]⟩, ⟨b5, 26, 3, [_, _, _]⟩, ⟨b4, 26, 3, [_, _, _]⟩]) rfl rfl ⟨lk, lk, lk, lk, lk, lk, lk, trivial⟩) ?_
        refine OD.nil ?_
        refine sr_ ?_
        refine os_ (fa_ 0) ?_
        refine os_ (lb_ 0) ?_
        refine os_ bn_ ?_
        refine os_ mv_ ?_
        refine OD.split (t := 80) lk (fun hg80 => ?_) (fun hg80 => ?_)
        ·have hg80' := hg80; (try simp only [V.cnd, ne_eq] at hg80')
         refine os_ (fa_ 0) ?_
         refine os_ (lb_ 0) ?_
         refine os_ bn_ ?_
         refine os_ pkT_ ?_
         refine nm_ [0, 4, 5, 6, 73, 74, 84] ?_
         refine CD.cond ot (fun hc11 => ?_) (fun hc11 => ?_)
         ·have hc11' := hc11
          (try simp only [V.cnd, ne_eq] at hc11')
          have hres : twoF k a b = (noVl, 4) := two_bad hb0 hk8 hlt (by simp_all) (by simp_all)
          refine sr_ ?_
          refine OD.still (wants_plain rfl) rfl (still_bld (pl := []) (ds := [_, _, _]) rfl Tryz.zeroValue26 Tryz.runUnderlying26 places26_Ex2 trivial rfl rfl) ?_
          refine OD.store (k := 1) (cs' := [_, _, _]) (wants_plain rfl) rfl rfl ot rfl rfl ot rfl rfl Tryz.sizeOf26 rfl rfl rfl ?_
          refine os_ mv_ ?_
          refine OD.wk (Wk.as_ (n := 106) (l' := [(6, _), (7, _)]) (S' := [⟨b11, 26, 3, [_, _, _]⟩, ⟨b6, 26, 3, [_, _, _]⟩, ⟨b5, 26, 3, [_, _, _]⟩, ⟨b4, 26, 3, [_, _, _]⟩]) rfl rfl ⟨lk, lk, trivial⟩) ?_
          refine OD.nil ?_
          refine CD.ret ?_
          refine ⟨.inr rfl, _, [], List.nil_sublist _, ret_two Tryz.results29 (res_cells (k := 1) (ds := [_, _, _]) (Nat.le_of_ble_eq_true rfl) lk rfl rfl Tryz.isAgg26 Tryz.sizeOf26 rfl rfl) (res_tmp (Nat.le_of_ble_eq_true rfl) lk), ?_⟩
          rw [hres]
          first | exact ⟨rfl, rfl⟩ | (refine ⟨?_, rfl⟩; clear hres hcv hav hl0 hl1 hbv hnv; generalize (cmpV a b == 0) = z1 at *; generalize (decide (cmpV a b < 0)) = z2 at *; subst_vars; simp_all; done)
         ·have hc11' := hc11
          (try simp only [V.cnd, ne_eq] at hc11')
          have hone : ¬ ((selV a b i).k ≠ 2 ∧ (selV a b i).k ≠ 0) := by simp_all
          refine CD.skip ?_
          refine CD.region ?_
          refine os_ bn_ ?_
          refine os_ mv_ ?_
          refine nm_ [0, 4, 5, 6, 73, 74] ?_
          refine ⟨(i + 1), ⟨106, [(0, .v (.int .i64 k)), (4, .v (.pointer (some ⟨b4, 0, none⟩))), (5, .v (.pointer (some ⟨b5, 0, none⟩))), (6, .v (.pointer (some ⟨b6, 0, none⟩))), (73, .agg [.v (.int .i64 a.k), .v (.int .i64 a.n), .v (.string a.s), .v (.int .i64 b.k), .v (.int .i64 b.n), .v (.string b.s)]), (74, .v (.int .i64 (((i + 1)) : Nat)))], [⟨b6, 26, 3, [.v (.int .i64 0), .v (.int .i64 0), .v (.string ⟨#[]⟩)]⟩, ⟨b5, 26, 3, [.v (.int .i64 b.k), .v (.int .i64 b.n), .v (.string b.s)]⟩, ⟨b4, 26, 3, [.v (.int .i64 a.k), .v (.int .i64 a.n), .v (.string a.s)]⟩]⟩, ?_, Wk.asS (n := 106) rfl (by repeat (first | exact List.Sublist.refl _ | apply List.Sublist.cons)) ⟨(by (repeat (first | exact look_hit | (apply look_at; focus (first | rfl | (simp; done) | (congr 2; omega))) | (apply look_miss; focus rfl))); done), (by (repeat (first | exact look_hit | (apply look_at; focus (first | rfl | (simp; done) | (congr 2; omega))) | (apply look_miss; focus rfl))); done), (by (repeat (first | exact look_hit | (apply look_at; focus (first | rfl | (simp; done) | (congr 2; omega))) | (apply look_miss; focus rfl))); done), (by (repeat (first | exact look_hit | (apply look_at; focus (first | rfl | (simp; done) | (congr 2; omega))) | (apply look_miss; focus rfl))); done), (by (repeat (first | exact look_hit | (apply look_at; focus (first | rfl | (simp; done) | (congr 2; omega))) | (apply look_miss; focus rfl))); done), (by (repeat (first | exact look_hit | (apply look_at; focus (first | rfl | (simp; done) | (congr 2; omega))) | (apply look_miss; focus rfl))); done), trivial⟩, (by omega), (sel_more (p := fun v => ¬ (v.k ≠ 2 ∧ v.k ≠ 0)) hall hone), rfl⟩
          first | omega | (simp only []; omega)
        ·have hg80' := hg80; (try simp only [V.cnd, ne_eq] at hg80')
         refine sk_ ?_
         refine sk_ ?_
         refine sk_ ?_
         refine os_ pkF_ ?_
         refine nm_ [0, 4, 5, 6, 73, 74, 84] ?_
         refine CD.condF ot (by first | rfl | assumption) ?_
         have hone : ¬ ((selV a b i).k ≠ 2 ∧ (selV a b i).k ≠ 0) := by simp_all
         refine CD.skip ?_
         refine CD.region ?_
         refine os_ bn_ ?_
         refine os_ mv_ ?_
         refine nm_ [0, 4, 5, 6, 73, 74] ?_
         refine ⟨(i + 1), ⟨106, [(0, .v (.int .i64 k)), (4, .v (.pointer (some ⟨b4, 0, none⟩))), (5, .v (.pointer (some ⟨b5, 0, none⟩))), (6, .v (.pointer (some ⟨b6, 0, none⟩))), (73, .agg [.v (.int .i64 a.k), .v (.int .i64 a.n), .v (.string a.s), .v (.int .i64 b.k), .v (.int .i64 b.n), .v (.string b.s)]), (74, .v (.int .i64 (((i + 1)) : Nat)))], [⟨b6, 26, 3, [.v (.int .i64 0), .v (.int .i64 0), .v (.string ⟨#[]⟩)]⟩, ⟨b5, 26, 3, [.v (.int .i64 b.k), .v (.int .i64 b.n), .v (.string b.s)]⟩, ⟨b4, 26, 3, [.v (.int .i64 a.k), .v (.int .i64 a.n), .v (.string a.s)]⟩]⟩, ?_, Wk.asS (n := 106) rfl (by repeat (first | exact List.Sublist.refl _ | apply List.Sublist.cons)) ⟨(by (repeat (first | exact look_hit | (apply look_at; focus (first | rfl | (simp; done) | (congr 2; omega))) | (apply look_miss; focus rfl))); done), (by (repeat (first | exact look_hit | (apply look_at; focus (first | rfl | (simp; done) | (congr 2; omega))) | (apply look_miss; focus rfl))); done), (by (repeat (first | exact look_hit | (apply look_at; focus (first | rfl | (simp; done) | (congr 2; omega))) | (apply look_miss; focus rfl))); done), (by (repeat (first | exact look_hit | (apply look_at; focus (first | rfl | (simp; done) | (congr 2; omega))) | (apply look_miss; focus rfl))); done), (by (repeat (first | exact look_hit | (apply look_at; focus (first | rfl | (simp; done) | (congr 2; omega))) | (apply look_miss; focus rfl))); done), (by (repeat (first | exact look_hit | (apply look_at; focus (first | rfl | (simp; done) | (congr 2; omega))) | (apply look_miss; focus rfl))); done), trivial⟩, (by omega), (sel_more (p := fun v => ¬ (v.k ≠ 2 ∧ v.k ≠ 0)) hall hone), rfl⟩
         first | omega | (simp only []; omega)
       ·have hc10' := hc10
        (try simp only [V.cnd, ne_eq] at hc10')
        have hAB := sel_all (p := fun v => ¬ (v.k ≠ 2 ∧ v.k ≠ 0)) hall (by omega)
        have har := two_arith hb0 hk8 (fun h => h.elim hAB.1 hAB.2)
        refine CD.exit ?_
        refine CD.seq ?_
        refine sr_ ?_
        refine os_ (lab_ 2 [_, _, _]) ?_
        refine os_ (lab_ 1 [_, _, _]) ?_
        refine OD.callP (wants_plain rfl) rfl rfl rfl Tryz.call48 (hnv) ⟨ot, ot, trivial⟩ ?_
        refine OD.wk (Wk.as_ (n := 106) (l' := [(0, _), (4, _), (5, _), (6, _), (89, _)]) (S' := [⟨b6, 26, 3, [_, _, _]⟩, ⟨b5, 26, 3, [_, _, _]⟩, ⟨b4, 26, 3, [_, _, _]⟩]) rfl rfl ⟨lk, lk, lk, lk, lk, trivial⟩) ?_
        refine OD.nil ?_
        refine CD.cond ot (fun hc12 => ?_) (fun hc12 => ?_)
        ·have hc12' := hc12
         (try simp only [V.cnd, ne_eq] at hc12')
         have hres : twoF k a b = (noVl, 0) := by rw [har, if_pos hc12]
         refine sr_ ?_
         refine OD.still (wants_plain rfl) rfl (still_bld (pl := []) (ds := [_, _, _]) rfl Tryz.zeroValue26 Tryz.runUnderlying26 places26_Ex2 trivial rfl rfl) ?_
         refine OD.store (k := 0) (cs' := [_, _, _]) (wants_plain rfl) rfl rfl ot rfl rfl ot rfl rfl Tryz.sizeOf26 rfl rfl rfl ?_
         refine os_ mv_ ?_
         refine OD.wk (Wk.as_ (n := 106) (l' := [(6, _), (7, _)]) (S' := [⟨b6, 26, 3, [_, _, _]⟩, ⟨b5, 26, 3, [_, _, _]⟩, ⟨b4, 26, 3, [_, _, _]⟩]) rfl rfl ⟨lk, lk, trivial⟩) ?_
         refine OD.nil ?_
         refine CD.ret ?_
         refine ⟨.inr rfl, _, [], List.nil_sublist _, ret_two Tryz.results29 (res_cells (k := 0) (ds := [_, _, _]) (Nat.le_of_ble_eq_true rfl) lk rfl rfl Tryz.isAgg26 Tryz.sizeOf26 rfl rfl) (res_tmp (Nat.le_of_ble_eq_true rfl) lk), ?_⟩
         rw [hres]
         first | exact ⟨rfl, rfl⟩ | (refine ⟨?_, rfl⟩; clear hres hcv hav hl0 hl1 hbv hnv; generalize (cmpV a b == 0) = z1 at *; generalize (decide (cmpV a b < 0)) = z2 at *; subst_vars; simp_all; done)
        ·have hc12' := hc12
         (try simp only [V.cnd, ne_eq] at hc12')
         refine CD.skip ?_
         refine sr_ ?_
         refine os_ mv_ ?_
         refine os_ (fa_ 1) ?_
         refine os_ (lb_ 2) ?_
         refine os_ (fa_ 1) ?_
         refine os_ (lb_ 1) ?_
         refine OD.callP (wants_plain rfl) rfl rfl rfl Tryz.call50 (hav) ⟨ot, ot, ot, trivial⟩ ?_
         refine os_ mv_ ?_
         refine os_ ex_ ?_
         refine os_ ex_ ?_
         refine os_ mv_ ?_
         refine os_ mv_ ?_
         refine OD.wk (Wk.as_ (n := 106) (l' := [(6, _), (12, _), (13, _)]) (S' := [⟨b6, 26, 3, [_, _, _]⟩, ⟨b5, 26, 3, [_, _, _]⟩, ⟨b4, 26, 3, [_, _, _]⟩]) rfl rfl ⟨lk, lk, lk, trivial⟩) ?_
         refine OD.nil ?_
         refine CD.seq ?_
         refine sr_ ?_
         refine os_ mv_ ?_
         refine os_ un_ ?_
         refine nm_ [6, 12, 101] ?_
         refine CD.cond ot (fun hc13 => ?_) (fun hc13 => ?_)
         ·have hc13' := hc13
          (try simp only [V.cnd, ne_eq] at hc13')
          have hres : twoF k a b = (noVl, 5) := by rw [har, if_neg (by rw [hc12]; simp), if_neg (by simpa using hc13)]
          refine sr_ ?_
          refine OD.still (wants_plain rfl) rfl (still_bld (pl := []) (ds := [_, _, _]) rfl Tryz.zeroValue26 Tryz.runUnderlying26 places26_Ex2 trivial rfl rfl) ?_
          refine OD.store (k := 0) (cs' := [_, _, _]) (wants_plain rfl) rfl rfl ot rfl rfl ot rfl rfl Tryz.sizeOf26 rfl rfl rfl ?_
          refine os_ mv_ ?_
          refine OD.wk (Wk.as_ (n := 106) (l' := [(6, _), (7, _)]) (S' := [⟨b6, 26, 3, [_, _, _]⟩, ⟨b5, 26, 3, [_, _, _]⟩, ⟨b4, 26, 3, [_, _, _]⟩]) rfl rfl ⟨lk, lk, trivial⟩) ?_
          refine OD.nil ?_
          refine CD.ret ?_
          refine ⟨.inr rfl, _, [], List.nil_sublist _, ret_two Tryz.results29 (res_cells (k := 0) (ds := [_, _, _]) (Nat.le_of_ble_eq_true rfl) lk rfl rfl Tryz.isAgg26 Tryz.sizeOf26 rfl rfl) (res_tmp (Nat.le_of_ble_eq_true rfl) lk), ?_⟩
          rw [hres]
          first | exact ⟨rfl, rfl⟩ | (refine ⟨?_, rfl⟩; clear hres hcv hav hl0 hl1 hbv hnv; generalize (cmpV a b == 0) = z1 at *; generalize (decide (cmpV a b < 0)) = z2 at *; subst_vars; simp_all; done)
         ·have hc13' := hc13
          (try simp only [V.cnd, ne_eq] at hc13')
          have hres : twoF k a b = (⟨2, (arithF k a.n b.n).1, ⟨#[]⟩⟩, 0) := by rw [har, if_neg (by rw [hc12]; simp), if_pos (by simpa using hc13)]
          refine CD.skip ?_
          refine sr_ ?_
          refine os_ mv_ ?_
          refine OD.still (wants_plain rfl) rfl (still_bld (pl := [(0, _), (1, _)]) (ds := [_, _, _]) rfl Tryz.zeroValue26 Tryz.runUnderlying26 places26_Ex2 ⟨rfl, opd_const, rfl, ot, trivial⟩ rfl rfl) ?_
          refine OD.store (k := 0) (cs' := [_, _, _]) (wants_plain rfl) rfl rfl ot rfl rfl ot rfl rfl Tryz.sizeOf26 rfl rfl rfl ?_
          refine os_ mv_ ?_
          refine OD.wk (Wk.as_ (n := 106) (l' := [(6, _), (7, _)]) (S' := [⟨b6, 26, 3, [_, _, _]⟩, ⟨b5, 26, 3, [_, _, _]⟩, ⟨b4, 26, 3, [_, _, _]⟩]) rfl rfl ⟨lk, lk, trivial⟩) ?_
          refine OD.nil ?_
          refine CD.ret ?_
          refine ⟨.inr rfl, _, [], List.nil_sublist _, ret_two Tryz.results29 (res_cells (k := 0) (ds := [_, _, _]) (Nat.le_of_ble_eq_true rfl) lk rfl rfl Tryz.isAgg26 Tryz.sizeOf26 rfl rfl) (res_tmp (Nat.le_of_ble_eq_true rfl) lk), ?_⟩
          rw [hres]
          first | exact ⟨rfl, rfl⟩ | (refine ⟨?_, rfl⟩; clear hres hcv hav hl0 hl1 hbv hnv; generalize (cmpV a b == 0) = z1 at *; generalize (decide (cmpV a b < 0)) = z2 at *; subst_vars; simp_all; done)
      ·have hc7' := hc7
       (try simp only [V.cnd, ne_eq] at hc7')
       refine sr_ ?_
       refine os_ bn_ ?_
       refine os_ mv_ ?_
       refine nm_ [0, 4, 5, 6, 21, 67] ?_
       refine CD.cond ot (fun hc8 => ?_) (fun hc8 => ?_)
       ·have hc8' := hc8
        (try simp only [V.cnd, ne_eq] at hc8')
        refine CD.skip ?_
        refine CD.condT ot (by first | rfl | assumption) ?_
        refine CD.seq ?_
        refine sr_ ?_
        refine os_ (lab_ 2 [_, _, _]) ?_
        refine os_ (lab_ 1 [_, _, _]) ?_
        refine OD.still (wants_plain rfl) rfl (still_bldA (pl := [(0, _), (1, _)]) (ds := [_, _, _, _, _, _]) rfl Tryz.zeroValue92 Tryz.runUnderlying92 Tryz.sizeOf26 ⟨rfl, ot, rfl, ot, trivial⟩ rfl rfl) ?_
        refine os_ mv_ ?_
        refine OD.wk (Wk.as_ (n := 106) (l' := [(0, _), (4, _), (5, _), (6, _), (73, _), (74, _)]) (S' := [⟨b6, 26, 3, [_, _, _]⟩, ⟨b5, 26, 3, [_, _, _]⟩, ⟨b4, 26, 3, [_, _, _]⟩]) rfl rfl ⟨lk, lk, lk, lk, lk, lk, trivial⟩) ?_
        refine OD.nil ?_
        refine CD.block ?_
        refine CD.wk (Wk.asS (n := 106) (l' := [(0, .v (.int .i64 k)), (4, .v (.pointer (some ⟨b4, 0, none⟩))), (5, .v (.pointer (some ⟨b5, 0, none⟩))), (6, .v (.pointer (some ⟨b6, 0, none⟩))), (73, .agg [.v (.int .i64 a.k), .v (.int .i64 a.n), .v (.string a.s), .v (.int .i64 b.k), .v (.int .i64 b.n), .v (.string b.s)]), (74, .v (.int .i64 ((0) : Nat)))]) (S' := [⟨b6, 26, 3, [.v (.int .i64 0), .v (.int .i64 0), .v (.string ⟨#[]⟩)]⟩, ⟨b5, 26, 3, [.v (.int .i64 b.k), .v (.int .i64 b.n), .v (.string b.s)]⟩, ⟨b4, 26, 3, [.v (.int .i64 a.k), .v (.int .i64 a.n), .v (.string a.s)]⟩]) rfl (by repeat (first | exact List.Sublist.refl _ | apply List.Sublist.cons)) ⟨(by (repeat (first | exact look_hit | (apply look_at; focus (first | rfl | (simp; done) | (congr 2; omega))) | (apply look_miss; focus rfl))); done), (by (repeat (first | exact look_hit | (apply look_at; focus (first | rfl | (simp; done) | (congr 2; omega))) | (apply look_miss; focus rfl))); done), (by (repeat (first | exact look_hit | (apply look_at; focus (first | rfl | (simp; done) | (congr 2; omega))) | (apply look_miss; focus rfl))); done), (by (repeat (first | exact look_hit | (apply look_at; focus (first | rfl | (simp; done) | (congr 2; omega))) | (apply look_miss; focus rfl))); done), (by (repeat (first | exact look_hit | (apply look_at; focus (first | rfl | (simp; done) | (congr 2; omega))) | (apply look_miss; focus rfl))); done), (by (repeat (first | exact look_hit | (apply look_at; focus (first | rfl | (simp; done) | (congr 2; omega))) | (apply look_miss; focus rfl))); done), trivial⟩) (CD.loop (fun (i : Nat) y__ => (i ≤ 2) ∧ (∀ j, j < i → ¬ ((selV a b j).k ≠ 2 ∧ (selV a b j).k ≠ 0)) ∧ y__ = (⟨106, [(0, .v (.int .i64 k)), (4, .v (.pointer (some ⟨b4, 0, none⟩))), (5, .v (.pointer (some ⟨b5, 0, none⟩))), (6, .v (.pointer (some ⟨b6, 0, none⟩))), (73, .agg [.v (.int .i64 a.k), .v (.int .i64 a.n), .v (.string a.s), .v (.int .i64 b.k), .v (.int .i64 b.n), .v (.string b.s)]), (74, .v (.int .i64 (i : Nat)))], [⟨b6, 26, 3, [.v (.int .i64 0), .v (.int .i64 0), .v (.string ⟨#[]⟩)]⟩, ⟨b5, 26, 3, [.v (.int .i64 b.k), .v (.int .i64 b.n), .v (.string b.s)]⟩, ⟨b4, 26, 3, [.v (.int .i64 a.k), .v (.int .i64 a.n), .v (.string a.s)]⟩]⟩ : St)) (fun (i : Nat) => 2 - i) 0 ⟨(Nat.zero_le _), (fun j hj => absurd hj (Nat.not_lt_zero _)), rfl⟩ ?_)
        rintro i _ ⟨hi, hall, rfl⟩
        have hk8 : k = 8 ∨ k = 9 ∨ k = 10 := by omega
        refine sr_ ?_
        refine os_ bn_ ?_
        refine nm_ [0, 4, 5, 6, 73, 74, 75] ?_
        refine CD.seq ?_
        refine CD.cond ot (fun hc10 => ?_) (fun hc10 => ?_)
        ·have hc10' := hc10
         (try simp only [V.cnd, ne_eq] at hc10')
         have hlt : i < 2 := by omega
         refine CD.skip ?_
         refine CD.seq ?_
         refine CD.block ?_
         refine sr_ ?_
         refine OD.still (wants_plain rfl) rfl (still_vidxs (j := i) rfl ot ot Tryz.runUnderlying92 Tryz.sizeOf26 Tryz.isAgg26 rfl hlt (sel_cells a b hlt)) ?_
         refine OD.alloc (ds := [_, _, _]) (wants_plain rfl) rfl rfl Tryz.zeroValue26 rfl (fun b11 => ?_)
         refine OD.store (k := 0) (cs' := [_, _, _]) (wants_plain rfl) rfl rfl ot rfl rfl ot rfl rfl Tryz.sizeOf26 rfl rfl rfl ?_
         refine OD.wk (Wk.as_ (n := 106) (l' := [(0, _), (4, _), (5, _), (6, _), (11, _), (73, _), (74, _)]) (S' := [⟨b11, 26, 3, [_, _, _]⟩, ⟨b6, 26, 3, [_, _, _]⟩, ⟨b5, 26, 3, [_, _, _]⟩, ⟨b4, 26, 3, [_, _, _]⟩]) rfl rfl ⟨lk, lk, lk, lk, lk, lk, lk, trivial⟩) ?_
         refine OD.nil ?_
         refine sr_ ?_
         refine os_ (fa_ 0) ?_
         refine os_ (lb_ 0) ?_
         refine os_ bn_ ?_
         refine os_ mv_ ?_
         refine OD.split (t := 80) lk (fun hg80 => ?_) (fun hg80 => ?_)
         ·have hg80' := hg80; (try simp only [V.cnd, ne_eq] at hg80')
          refine os_ (fa_ 0) ?_
          refine os_ (lb_ 0) ?_
          refine os_ bn_ ?_
          refine os_ pkT_ ?_
          refine nm_ [0, 4, 5, 6, 73, 74, 84] ?_
          refine CD.cond ot (fun hc11 => ?_) (fun hc11 => ?_)
          ·have hc11' := hc11
           (try simp only [V.cnd, ne_eq] at hc11')
           have hres : twoF k a b = (noVl, 4) := two_bad hb0 hk8 hlt (by simp_all) (by simp_all)
           refine sr_ ?_
           refine OD.still (wants_plain rfl) rfl (still_bld (pl := []) (ds := [_, _, _]) rfl Tryz.zeroValue26 Tryz.runUnderlying26 places26_Ex2 trivial rfl rfl) ?_
           refine OD.store (k := 1) (cs' := [_, _, _]) (wants_plain rfl) rfl rfl ot rfl rfl ot rfl rfl Tryz.sizeOf26 rfl rfl rfl ?_
           refine os_ mv_ ?_
           refine OD.wk (Wk.as_ (n := 106) (l' := [(6, _), (7, _)]) (S' := [⟨b11, 26, 3, [_, _, _]⟩, ⟨b6, 26, 3, [_, _, _]⟩, ⟨b5, 26, 3, [_, _, _]⟩, ⟨b4, 26, 3, [_, _, _]⟩]) rfl rfl ⟨lk, lk, trivial⟩) ?_
           refine OD.nil ?_
           refine CD.ret ?_
           refine ⟨.inr rfl, _, [], List.nil_sublist _, ret_two Tryz.results29 (res_cells (k := 1) (ds := [_, _, _]) (Nat.le_of_ble_eq_true rfl) lk rfl rfl Tryz.isAgg26 Tryz.sizeOf26 rfl rfl) (res_tmp (Nat.le_of_ble_eq_true rfl) lk), ?_⟩
           rw [hres]
           first | exact ⟨rfl, rfl⟩ | (refine ⟨?_, rfl⟩; clear hres hcv hav hl0 hl1 hbv hnv; generalize (cmpV a b == 0) = z1 at *; generalize (decide (cmpV a b < 0)) = z2 at *; subst_vars; simp_all; done)
          ·have hc11' := hc11
           (try simp only [V.cnd, ne_eq] at hc11')
           have hone : ¬ ((selV a b i).k ≠ 2 ∧ (selV a b i).k ≠ 0) := by simp_all
           refine CD.skip ?_
           refine CD.region ?_
           refine os_ bn_ ?_
           refine os_ mv_ ?_
           refine nm_ [0, 4, 5, 6, 73, 74] ?_
           refine ⟨(i + 1), ⟨106, [(0, .v (.int .i64 k)), (4, .v (.pointer (some ⟨b4, 0, none⟩))), (5, .v (.pointer (some ⟨b5, 0, none⟩))), (6, .v (.pointer (some ⟨b6, 0, none⟩))), (73, .agg [.v (.int .i64 a.k), .v (.int .i64 a.n), .v (.string a.s), .v (.int .i64 b.k), .v (.int .i64 b.n), .v (.string b.s)]), (74, .v (.int .i64 (((i + 1)) : Nat)))], [⟨b6, 26, 3, [.v (.int .i64 0), .v (.int .i64 0), .v (.string ⟨#[]⟩)]⟩, ⟨b5, 26, 3, [.v (.int .i64 b.k), .v (.int .i64 b.n), .v (.string b.s)]⟩, ⟨b4, 26, 3, [.v (.int .i64 a.k), .v (.int .i64 a.n), .v (.string a.s)]⟩]⟩, ?_, Wk.asS (n := 106) rfl (by repeat (first | exact List.Sublist.refl _ | apply List.Sublist.cons)) ⟨(by (repeat (first | exact look_hit | (apply look_at; focus (first | rfl | (simp; done) | (congr 2; omega))) | (apply look_miss; focus rfl))); done), (by (repeat (first | exact look_hit | (apply look_at; focus (first | rfl | (simp; done) | (congr 2; omega))) | (apply look_miss; focus rfl))); done), (by (repeat (first | exact look_hit | (apply look_at; focus (first | rfl | (simp; done) | (congr 2; omega))) | (apply look_miss; focus rfl))); done), (by (repeat (first | exact look_hit | (apply look_at; focus (first | rfl | (simp; done) | (congr 2; omega))) | (apply look_miss; focus rfl))); done), (by (repeat (first | exact look_hit | (apply look_at; focus (first | rfl | (simp; done) | (congr 2; omega))) | (apply look_miss; focus rfl))); done), (by (repeat (first | exact look_hit | (apply look_at; focus (first | rfl | (simp; done) | (congr 2; omega))) | (apply look_miss; focus rfl))); done), trivial⟩, (by omega), (sel_more (p := fun v => ¬ (v.k ≠ 2 ∧ v.k ≠ 0)) hall hone), rfl⟩
           first | omega | (simp only []; omega)
         ·have hg80' := hg80; (try simp only [V.cnd, ne_eq] at hg80')
          refine sk_ ?_
          refine sk_ ?_
          refine sk_ ?_
          refine os_ pkF_ ?_
          refine nm_ [0, 4, 5, 6, 73, 74, 84] ?_
          refine CD.condF ot (by first | rfl | assumption) ?_
          have hone : ¬ ((selV a b i).k ≠ 2 ∧ (selV a b i).k ≠ 0) := by simp_all
          refine CD.skip ?_
          refine CD.region ?_
          refine os_ bn_ ?_
          refine os_ mv_ ?_
          refine nm_ [0, 4, 5, 6, 73, 74] ?_
          refine ⟨(i + 1), ⟨106, [(0, .v (.int .i64 k)), (4, .v (.pointer (some ⟨b4, 0, none⟩))), (5, .v (.pointer (some ⟨b5, 0, none⟩))), (6, .v (.pointer (some ⟨b6, 0, none⟩))), (73, .agg [.v (.int .i64 a.k), .v (.int .i64 a.n), .v (.string a.s), .v (.int .i64 b.k), .v (.int .i64 b.n), .v (.string b.s)]), (74, .v (.int .i64 (((i + 1)) : Nat)))], [⟨b6, 26, 3, [.v (.int .i64 0), .v (.int .i64 0), .v (.string ⟨#[]⟩)]⟩, ⟨b5, 26, 3, [.v (.int .i64 b.k), .v (.int .i64 b.n), .v (.string b.s)]⟩, ⟨b4, 26, 3, [.v (.int .i64 a.k), .v (.int .i64 a.n), .v (.string a.s)]⟩]⟩, ?_, Wk.asS (n := 106) rfl (by repeat (first | exact List.Sublist.refl _ | apply List.Sublist.cons)) ⟨(by (repeat (first | exact look_hit | (apply look_at; focus (first | rfl | (simp; done) | (congr 2; omega))) | (apply look_miss; focus rfl))); done), (by (repeat (first | exact look_hit | (apply look_at; focus (first | rfl | (simp; done) | (congr 2; omega))) | (apply look_miss; focus rfl))); done), (by (repeat (first | exact look_hit | (apply look_at; focus (first | rfl | (simp; done) | (congr 2; omega))) | (apply look_miss; focus rfl))); done), (by (repeat (first | exact look_hit | (apply look_at; focus (first | rfl | (simp; done) | (congr 2; omega))) | (apply look_miss; focus rfl))); done), (by (repeat (first | exact look_hit | (apply look_at; focus (first | rfl | (simp; done) | (congr 2; omega))) | (apply look_miss; focus rfl))); done), (by (repeat (first | exact look_hit | (apply look_at; focus (first | rfl | (simp; done) | (congr 2; omega))) | (apply look_miss; focus rfl))); done), trivial⟩, (by omega), (sel_more (p := fun v => ¬ (v.k ≠ 2 ∧ v.k ≠ 0)) hall hone), rfl⟩
          first | omega | (simp only []; omega)
        ·have hc10' := hc10
         (try simp only [V.cnd, ne_eq] at hc10')
         have hAB := sel_all (p := fun v => ¬ (v.k ≠ 2 ∧ v.k ≠ 0)) hall (by omega)
         have har := two_arith hb0 hk8 (fun h => h.elim hAB.1 hAB.2)
         refine CD.exit ?_
         refine CD.seq ?_
         refine sr_ ?_
         refine os_ (lab_ 2 [_, _, _]) ?_
         refine os_ (lab_ 1 [_, _, _]) ?_
         refine OD.callP (wants_plain rfl) rfl rfl rfl Tryz.call48 (hnv) ⟨ot, ot, trivial⟩ ?_
         refine OD.wk (Wk.as_ (n := 106) (l' := [(0, _), (4, _), (5, _), (6, _), (89, _)]) (S' := [⟨b6, 26, 3, [_, _, _]⟩, ⟨b5, 26, 3, [_, _, _]⟩, ⟨b4, 26, 3, [_, _, _]⟩]) rfl rfl ⟨lk, lk, lk, lk, lk, trivial⟩) ?_
         refine OD.nil ?_
         refine CD.cond ot (fun hc12 => ?_) (fun hc12 => ?_)
         ·have hc12' := hc12
          (try simp only [V.cnd, ne_eq] at hc12')
          have hres : twoF k a b = (noVl, 0) := by rw [har, if_pos hc12]
          refine sr_ ?_
          refine OD.still (wants_plain rfl) rfl (still_bld (pl := []) (ds := [_, _, _]) rfl Tryz.zeroValue26 Tryz.runUnderlying26 places26_Ex2 trivial rfl rfl) ?_
          refine OD.store (k := 0) (cs' := [_, _, _]) (wants_plain rfl) rfl rfl ot rfl rfl ot rfl rfl Tryz.sizeOf26 rfl rfl rfl ?_
          refine os_ mv_ ?_
          refine OD.wk (Wk.as_ (n := 106) (l' := [(6, _), (7, _)]) (S' := [⟨b6, 26, 3, [_, _, _]⟩, ⟨b5, 26, 3, [_, _, _]⟩, ⟨b4, 26, 3, [_, _, _]⟩]) rfl rfl ⟨lk, lk, trivial⟩) ?_
          refine OD.nil ?_
          refine CD.ret ?_
          refine ⟨.inr rfl, _, [], List.nil_sublist _, ret_two Tryz.results29 (res_cells (k := 0) (ds := [_, _, _]) (Nat.le_of_ble_eq_true rfl) lk rfl rfl Tryz.isAgg26 Tryz.sizeOf26 rfl rfl) (res_tmp (Nat.le_of_ble_eq_true rfl) lk), ?_⟩
          rw [hres]
          first | exact ⟨rfl, rfl⟩ | (refine ⟨?_, rfl⟩; clear hres hcv hav hl0 hl1 hbv hnv; generalize (cmpV a b == 0) = z1 at *; generalize (decide (cmpV a b < 0)) = z2 at *; subst_vars; simp_all; done)
         ·have hc12' := hc12
          (try simp only [V.cnd, ne_eq] at hc12')
          refine CD.skip ?_
          refine sr_ ?_
          refine os_ mv_ ?_
          refine os_ (fa_ 1) ?_
          refine os_ (lb_ 2) ?_
          refine os_ (fa_ 1) ?_
          refine os_ (lb_ 1) ?_
          refine OD.callP (wants_plain rfl) rfl rfl rfl Tryz.call50 (hav) ⟨ot, ot, ot, trivial⟩ ?_
          refine os_ mv_ ?_
          refine os_ ex_ ?_
          refine os_ ex_ ?_
          refine os_ mv_ ?_
          refine os_ mv_ ?_
          refine OD.wk (Wk.as_ (n := 106) (l' := [(6, _), (12, _), (13, _)]) (S' := [⟨b6, 26, 3, [_, _, _]⟩, ⟨b5, 26, 3, [_, _, _]⟩, ⟨b4, 26, 3, [_, _, _]⟩]) rfl rfl ⟨lk, lk, lk, trivial⟩) ?_
          refine OD.nil ?_
          refine CD.seq ?_
          refine sr_ ?_
          refine os_ mv_ ?_
          refine os_ un_ ?_
          refine nm_ [6, 12, 101] ?_
          refine CD.cond ot (fun hc13 => ?_) (fun hc13 => ?_)
          ·have hc13' := hc13
           (try simp only [V.cnd, ne_eq] at hc13')
           have hres : twoF k a b = (noVl, 5) := by rw [har, if_neg (by rw [hc12]; simp), if_neg (by simpa using hc13)]
           refine sr_ ?_
           refine OD.still (wants_plain rfl) rfl (still_bld (pl := []) (ds := [_, _, _]) rfl Tryz.zeroValue26 Tryz.runUnderlying26 places26_Ex2 trivial rfl rfl) ?_
           refine OD.store (k := 0) (cs' := [_, _, _]) (wants_plain rfl) rfl rfl ot rfl rfl ot rfl rfl Tryz.sizeOf26 rfl rfl rfl ?_
           refine os_ mv_ ?_
           refine OD.wk (Wk.as_ (n := 106) (l' := [(6, _), (7, _)]) (S' := [⟨b6, 26, 3, [_, _, _]⟩, ⟨b5, 26, 3, [_, _, _]⟩, ⟨b4, 26, 3, [_, _, _]⟩]) rfl rfl ⟨lk, lk, trivial⟩) ?_
           refine OD.nil ?_
           refine CD.ret ?_
           refine ⟨.inr rfl, _, [], List.nil_sublist _, ret_two Tryz.results29 (res_cells (k := 0) (ds := [_, _, _]) (Nat.le_of_ble_eq_true rfl) lk rfl rfl Tryz.isAgg26 Tryz.sizeOf26 rfl rfl) (res_tmp (Nat.le_of_ble_eq_true rfl) lk), ?_⟩
           rw [hres]
           first | exact ⟨rfl, rfl⟩ | (refine ⟨?_, rfl⟩; clear hres hcv hav hl0 hl1 hbv hnv; generalize (cmpV a b == 0) = z1 at *; generalize (decide (cmpV a b < 0)) = z2 at *; subst_vars; simp_all; done)
          ·have hc13' := hc13
           (try simp only [V.cnd, ne_eq] at hc13')
           have hres : twoF k a b = (⟨2, (arithF k a.n b.n).1, ⟨#[]⟩⟩, 0) := by rw [har, if_neg (by rw [hc12]; simp), if_pos (by simpa using hc13)]
           refine CD.skip ?_
           refine sr_ ?_
           refine os_ mv_ ?_
           refine OD.still (wants_plain rfl) rfl (still_bld (pl := [(0, _), (1, _)]) (ds := [_, _, _]) rfl Tryz.zeroValue26 Tryz.runUnderlying26 places26_Ex2 ⟨rfl, opd_const, rfl, ot, trivial⟩ rfl rfl) ?_
           refine OD.store (k := 0) (cs' := [_, _, _]) (wants_plain rfl) rfl rfl ot rfl rfl ot rfl rfl Tryz.sizeOf26 rfl rfl rfl ?_
           refine os_ mv_ ?_
           refine OD.wk (Wk.as_ (n := 106) (l' := [(6, _), (7, _)]) (S' := [⟨b6, 26, 3, [_, _, _]⟩, ⟨b5, 26, 3, [_, _, _]⟩, ⟨b4, 26, 3, [_, _, _]⟩]) rfl rfl ⟨lk, lk, trivial⟩) ?_
           refine OD.nil ?_
           refine CD.ret ?_
           refine ⟨.inr rfl, _, [], List.nil_sublist _, ret_two Tryz.results29 (res_cells (k := 0) (ds := [_, _, _]) (Nat.le_of_ble_eq_true rfl) lk rfl rfl Tryz.isAgg26 Tryz.sizeOf26 rfl rfl) (res_tmp (Nat.le_of_ble_eq_true rfl) lk), ?_⟩
           rw [hres]
           first | exact ⟨rfl, rfl⟩ | (refine ⟨?_, rfl⟩; clear hres hcv hav hl0 hl1 hbv hnv; generalize (cmpV a b == 0) = z1 at *; generalize (decide (cmpV a b < 0)) = z2 at *; subst_vars; simp_all; done)
       ·have hc8' := hc8
        (try simp only [V.cnd, ne_eq] at hc8')
        refine CD.region ?_
        refine os_ bn_ ?_
        refine os_ mv_ ?_
        refine nm_ [0, 4, 5, 6, 67] ?_
        refine CD.cond ot (fun hc9 => ?_) (fun hc9 => ?_)
        ·have hc9' := hc9
         (try simp only [V.cnd, ne_eq] at hc9')
         refine CD.seq ?_
         refine sr_ ?_
         refine os_ (lab_ 2 [_, _, _]) ?_
         refine os_ (lab_ 1 [_, _, _]) ?_
         refine OD.still (wants_plain rfl) rfl (still_bldA (pl := [(0, _), (1, _)]) (ds := [_, _, _, _, _, _]) rfl Tryz.zeroValue92 Tryz.runUnderlying92 Tryz.sizeOf26 ⟨rfl, ot, rfl, ot, trivial⟩ rfl rfl) ?_
         refine os_ mv_ ?_
         refine OD.wk (Wk.as_ (n := 106) (l' := [(0, _), (4, _), (5, _), (6, _), (73, _), (74, _)]) (S' := [⟨b6, 26, 3, [_, _, _]⟩, ⟨b5, 26, 3, [_, _, _]⟩, ⟨b4, 26, 3, [_, _, _]⟩]) rfl rfl ⟨lk, lk, lk, lk, lk, lk, trivial⟩) ?_
         refine OD.nil ?_
         refine CD.block ?_
         refine CD.wk (Wk.asS (n := 106) (l' := [(0, .v (.int .i64 k)), (4, .v (.pointer (some ⟨b4, 0, none⟩))), (5, .v (.pointer (some ⟨b5, 0, none⟩))), (6, .v (.pointer (some ⟨b6, 0, none⟩))), (73, .agg [.v (.int .i64 a.k), .v (.int .i64 a.n), .v (.string a.s), .v (.int .i64 b.k), .v (.int .i64 b.n), .v (.string b.s)]), (74, .v (.int .i64 ((0) : Nat)))]) (S' := [⟨b6, 26, 3, [.v (.int .i64 0), .v (.int .i64 0), .v (.string ⟨#[]⟩)]⟩, ⟨b5, 26, 3, [.v (.int .i64 b.k), .v (.int .i64 b.n), .v (.string b.s)]⟩, ⟨b4, 26, 3, [.v (.int .i64 a.k), .v (.int .i64 a.n), .v (.string a.s)]⟩]) rfl (by repeat (first | exact List.Sublist.refl _ | apply List.Sublist.cons)) ⟨(by (repeat (first | exact look_hit | (apply look_at; focus (first | rfl | (simp; done) | (congr 2; omega))) | (apply look_miss; focus rfl))); done), (by (repeat (first | exact look_hit | (apply look_at; focus (first | rfl | (simp; done) | (congr 2; omega))) | (apply look_miss; focus rfl))); done), (by (repeat (first | exact look_hit | (apply look_at; focus (first | rfl | (simp; done) | (congr 2; omega))) | (apply look_miss; focus rfl))); done), (by (repeat (first | exact look_hit | (apply look_at; focus (first | rfl | (simp; done) | (congr 2; omega))) | (apply look_miss; focus rfl))); done), (by (repeat (first | exact look_hit | (apply look_at; focus (first | rfl | (simp; done) | (congr 2; omega))) | (apply look_miss; focus rfl))); done), (by (repeat (first | exact look_hit | (apply look_at; focus (first | rfl | (simp; done) | (congr 2; omega))) | (apply look_miss; focus rfl))); done), trivial⟩) (CD.loop (fun (i : Nat) y__ => (i ≤ 2) ∧ (∀ j, j < i → ¬ ((selV a b j).k ≠ 2 ∧ (selV a b j).k ≠ 0)) ∧ y__ = (⟨106, [(0, .v (.int .i64 k)), (4, .v (.pointer (some ⟨b4, 0, none⟩))), (5, .v (.pointer (some ⟨b5, 0, none⟩))), (6, .v (.pointer (some ⟨b6, 0, none⟩))), (73, .agg [.v (.int .i64 a.k), .v (.int .i64 a.n), .v (.string a.s), .v (.int .i64 b.k), .v (.int .i64 b.n), .v (.string b.s)]), (74, .v (.int .i64 (i : Nat)))], [⟨b6, 26, 3, [.v (.int .i64 0), .v (.int .i64 0), .v (.string ⟨#[]⟩)]⟩, ⟨b5, 26, 3, [.v (.int .i64 b.k), .v (.int .i64 b.n), .v (.string b.s)]⟩, ⟨b4, 26, 3, [.v (.int .i64 a.k), .v (.int .i64 a.n), .v (.string a.s)]⟩]⟩ : St)) (fun (i : Nat) => 2 - i) 0 ⟨(Nat.zero_le _), (fun j hj => absurd hj (Nat.not_lt_zero _)), rfl⟩ ?_)
         rintro i _ ⟨hi, hall, rfl⟩
         have hk8 : k = 8 ∨ k = 9 ∨ k = 10 := by omega
         refine sr_ ?_
         refine os_ bn_ ?_
         refine nm_ [0, 4, 5, 6, 73, 74, 75] ?_
         refine CD.seq ?_
         refine CD.cond ot (fun hc10 => ?_) (fun hc10 => ?_)
         ·have hc10' := hc10
          (try simp only [V.cnd, ne_eq] at hc10')
          have hlt : i < 2 := by omega
          refine CD.skip ?_
          refine CD.seq ?_
          refine CD.block ?_
          refine sr_ ?_
          refine OD.still (wants_plain rfl) rfl (still_vidxs (j := i) rfl ot ot Tryz.runUnderlying92 Tryz.sizeOf26 Tryz.isAgg26 rfl hlt (sel_cells a b hlt)) ?_
          refine OD.alloc (ds := [_, _, _]) (wants_plain rfl) rfl rfl Tryz.zeroValue26 rfl (fun b11 => ?_)
          refine OD.store (k := 0) (cs' := [_, _, _]) (wants_plain rfl) rfl rfl ot rfl rfl ot rfl rfl Tryz.sizeOf26 rfl rfl rfl ?_
          refine OD.wk (Wk.as_ (n := 106) (l' := [(0, _), (4, _), (5, _), (6, _), (11, _), (73, _), (74, _)]) (S' := [⟨b11, 26, 3, [_, _, _]⟩, ⟨b6, 26, 3, [_, _, _]⟩, ⟨b5, 26, 3, [_, _, _]⟩, ⟨b4, 26, 3, [_, _, _]⟩]) rfl rfl ⟨lk, lk, lk, lk, lk, lk, lk, trivial⟩) ?_
          refine OD.nil ?_
          refine sr_ ?_
          refine os_ (fa_ 0) ?_
          refine os_ (lb_ 0) ?_
          refine os_ bn_ ?_
          refine os_ mv_ ?_
          refine OD.split (t := 80) lk (fun hg80 => ?_) (fun hg80 => ?_)
          ·have hg80' := hg80; (try simp only [V.cnd, ne_eq] at hg80')
           refine os_ (fa_ 0) ?_
           refine os_ (lb_ 0) ?_
           refine os_ bn_ ?_
           refine os_ pkT_ ?_
           refine nm_ [0, 4, 5, 6, 73, 74, 84] ?_
           refine CD.cond ot (fun hc11 => ?_) (fun hc11 => ?_)
           ·have hc11' := hc11
            (try simp only [V.cnd, ne_eq] at hc11')
            have hres : twoF k a b = (noVl, 4) := two_bad hb0 hk8 hlt (by simp_all) (by simp_all)
            refine sr_ ?_
            refine OD.still (wants_plain rfl) rfl (still_bld (pl := []) (ds := [_, _, _]) rfl Tryz.zeroValue26 Tryz.runUnderlying26 places26_Ex2 trivial rfl rfl) ?_
            refine OD.store (k := 1) (cs' := [_, _, _]) (wants_plain rfl) rfl rfl ot rfl rfl ot rfl rfl Tryz.sizeOf26 rfl rfl rfl ?_
            refine os_ mv_ ?_
            refine OD.wk (Wk.as_ (n := 106) (l' := [(6, _), (7, _)]) (S' := [⟨b11, 26, 3, [_, _, _]⟩, ⟨b6, 26, 3, [_, _, _]⟩, ⟨b5, 26, 3, [_, _, _]⟩, ⟨b4, 26, 3, [_, _, _]⟩]) rfl rfl ⟨lk, lk, trivial⟩) ?_
            refine OD.nil ?_
            refine CD.ret ?_
            refine ⟨.inr rfl, _, [], List.nil_sublist _, ret_two Tryz.results29 (res_cells (k := 1) (ds := [_, _, _]) (Nat.le_of_ble_eq_true rfl) lk rfl rfl Tryz.isAgg26 Tryz.sizeOf26 rfl rfl) (res_tmp (Nat.le_of_ble_eq_true rfl) lk), ?_⟩
            rw [hres]
            first | exact ⟨rfl, rfl⟩ | (refine ⟨?_, rfl⟩; clear hres hcv hav hl0 hl1 hbv hnv; generalize (cmpV a b == 0) = z1 at *; generalize (decide (cmpV a b < 0)) = z2 at *; subst_vars; simp_all; done)
           ·have hc11' := hc11
            (try simp only [V.cnd, ne_eq] at hc11')
            have hone : ¬ ((selV a b i).k ≠ 2 ∧ (selV a b i).k ≠ 0) := by simp_all
            refine CD.skip ?_
            refine CD.region ?_
            refine os_ bn_ ?_
            refine os_ mv_ ?_
            refine nm_ [0, 4, 5, 6, 73, 74] ?_
            refine ⟨(i + 1), ⟨106, [(0, .v (.int .i64 k)), (4, .v (.pointer (some ⟨b4, 0, none⟩))), (5, .v (.pointer (some ⟨b5, 0, none⟩))), (6, .v (.pointer (some ⟨b6, 0, none⟩))), (73, .agg [.v (.int .i64 a.k), .v (.int .i64 a.n), .v (.string a.s), .v (.int .i64 b.k), .v (.int .i64 b.n), .v (.string b.s)]), (74, .v (.int .i64 (((i + 1)) : Nat)))], [⟨b6, 26, 3, [.v (.int .i64 0), .v (.int .i64 0), .v (.string ⟨#[]⟩)]⟩, ⟨b5, 26, 3, [.v (.int .i64 b.k), .v (.int .i64 b.n), .v (.string b.s)]⟩, ⟨b4, 26, 3, [.v (.int .i64 a.k), .v (.int .i64 a.n), .v (.string a.s)]⟩]⟩, ?_, Wk.asS (n := 106) rfl (by repeat (first | exact List.Sublist.refl _ | apply List.Sublist.cons)) ⟨(by (repeat (first | exact look_hit | (apply look_at; focus (first | rfl | (simp; done) | (congr 2; omega))) | (apply look_miss; focus rfl))); done), (by (repeat (first | exact look_hit | (apply look_at; focus (first | rfl | (simp; done) | (congr 2; omega))) | (apply look_miss; focus rfl))); done), (by (repeat (first | exact look_hit | (apply look_at; focus (first | rfl | (simp; done) | (congr 2; omega))) | (apply look_miss; focus rfl))); done), (by (repeat (first | exact look_hit | (apply look_at; focus (first | rfl | (simp; done) | (congr 2; omega))) | (apply look_miss; focus rfl))); done), (by (repeat (first | exact look_hit | (apply look_at; focus (first | rfl | (simp; done) | (congr 2; omega))) | (apply look_miss; focus rfl))); done), (by (repeat (first | exact look_hit | (apply look_at; focus (first | rfl | (simp; done) | (congr 2; omega))) | (apply look_miss; focus rfl))); done), trivial⟩, (by omega), (sel_more (p := fun v => ¬ (v.k ≠ 2 ∧ v.k ≠ 0)) hall hone), rfl⟩
            first | omega | (simp only []; omega)
          ·have hg80' := hg80; (try simp only [V.cnd, ne_eq] at hg80')
           refine sk_ ?_
           refine sk_ ?_
           refine sk_ ?_
           refine os_ pkF_ ?_
           refine nm_ [0, 4, 5, 6, 73, 74, 84] ?_
           refine CD.condF ot (by first | rfl | assumption) ?_
           have hone : ¬ ((selV a b i).k ≠ 2 ∧ (selV a b i).k ≠ 0) := by simp_all
           refine CD.skip ?_
           refine CD.region ?_
           refine os_ bn_ ?_
           refine os_ mv_ ?_
           refine nm_ [0, 4, 5, 6, 73, 74] ?_
           refine ⟨(i + 1), ⟨106, [(0, .v (.int .i64 k)), (4, .v (.pointer (some ⟨b4, 0, none⟩))), (5, .v (.pointer (some ⟨b5, 0, none⟩))), (6, .v (.pointer (some ⟨b6, 0, none⟩))), (73, .agg [.v (.int .i64 a.k), .v (.int .i64 a.n), .v (.string a.s), .v (.int .i64 b.k), .v (.int .i64 b.n), .v (.string b.s)]), (74, .v (.int .i64 (((i + 1)) : Nat)))], [⟨b6, 26, 3, [.v (.int .i64 0), .v (.int .i64 0), .v (.string ⟨#[]⟩)]⟩, ⟨b5, 26, 3, [.v (.int .i64 b.k), .v (.int .i64 b.n), .v (.string b.s)]⟩, ⟨b4, 26, 3, [.v (.int .i64 a.k), .v (.int .i64 a.n), .v (.string a.s)]⟩]⟩, ?_, Wk.asS (n := 106) rfl (by repeat (first | exact List.Sublist.refl _ | apply List.Sublist.cons)) ⟨(by (repeat (first | exact look_hit | (apply look_at; focus (first | rfl | (simp; done) | (congr 2; omega))) | (apply look_miss; focus rfl))); done), (by (repeat (first | exact look_hit | (apply look_at; focus (first | rfl | (simp; done) | (congr 2; omega))) | (apply look_miss; focus rfl))); done), (by (repeat (first | exact look_hit | (apply look_at; focus (first | rfl | (simp; done) | (congr 2; omega))) | (apply look_miss; focus rfl))); done), (by (repeat (first | exact look_hit | (apply look_at; focus (first | rfl | (simp; done) | (congr 2; omega))) | (apply look_miss; focus rfl))); done), (by (repeat (first | exact look_hit | (apply look_at; focus (first | rfl | (simp; done) | (congr 2; omega))) | (apply look_miss; focus rfl))); done), (by (repeat (first | exact look_hit | (apply look_at; focus (first | rfl | (simp; done) | (congr 2; omega))) | (apply look_miss; focus rfl))); done), trivial⟩, (by omega), (sel_more (p := fun v => ¬ (v.k ≠ 2 ∧ v.k ≠ 0)) hall hone), rfl⟩
           first | omega | (simp only []; omega)
         ·have hc10' := hc10
          (try simp only [V.cnd, ne_eq] at hc10')
          have hAB := sel_all (p := fun v => ¬ (v.k ≠ 2 ∧ v.k ≠ 0)) hall (by omega)
          have har := two_arith hb0 hk8 (fun h => h.elim hAB.1 hAB.2)
          refine CD.exit ?_
          refine CD.seq ?_
          refine sr_ ?_
          refine os_ (lab_ 2 [_, _, _]) ?_
          refine os_ (lab_ 1 [_, _, _]) ?_
          refine OD.callP (wants_plain rfl) rfl rfl rfl Tryz.call48 (hnv) ⟨ot, ot, trivial⟩ ?_
          refine OD.wk (Wk.as_ (n := 106) (l' := [(0, _), (4, _), (5, _), (6, _), (89, _)]) (S' := [⟨b6, 26, 3, [_, _, _]⟩, ⟨b5, 26, 3, [_, _, _]⟩, ⟨b4, 26, 3, [_, _, _]⟩]) rfl rfl ⟨lk, lk, lk, lk, lk, trivial⟩) ?_
          refine OD.nil ?_
          refine CD.cond ot (fun hc12 => ?_) (fun hc12 => ?_)
          ·have hc12' := hc12
           (try simp only [V.cnd, ne_eq] at hc12')
           have hres : twoF k a b = (noVl, 0) := by rw [har, if_pos hc12]
           refine sr_ ?_
           refine OD.still (wants_plain rfl) rfl (still_bld (pl := []) (ds := [_, _, _]) rfl Tryz.zeroValue26 Tryz.runUnderlying26 places26_Ex2 trivial rfl rfl) ?_
           refine OD.store (k := 0) (cs' := [_, _, _]) (wants_plain rfl) rfl rfl ot rfl rfl ot rfl rfl Tryz.sizeOf26 rfl rfl rfl ?_
           refine os_ mv_ ?_
           refine OD.wk (Wk.as_ (n := 106) (l' := [(6, _), (7, _)]) (S' := [⟨b6, 26, 3, [_, _, _]⟩, ⟨b5, 26, 3, [_, _, _]⟩, ⟨b4, 26, 3, [_, _, _]⟩]) rfl rfl ⟨lk, lk, trivial⟩) ?_
           refine OD.nil ?_
           refine CD.ret ?_
           refine ⟨.inr rfl, _, [], List.nil_sublist _, ret_two Tryz.results29 (res_cells (k := 0) (ds := [_, _, _]) (Nat.le_of_ble_eq_true rfl) lk rfl rfl Tryz.isAgg26 Tryz.sizeOf26 rfl rfl) (res_tmp (Nat.le_of_ble_eq_true rfl) lk), ?_⟩
           rw [hres]
           first | exact ⟨rfl, rfl⟩ | (refine ⟨?_, rfl⟩; clear hres hcv hav hl0 hl1 hbv hnv; generalize (cmpV a b == 0) = z1 at *; generalize (decide (cmpV a b < 0)) = z2 at *; subst_vars; simp_all; done)
          ·have hc12' := hc12
           (try simp only [V.cnd, ne_eq] at hc12')
           refine CD.skip ?_
           refine sr_ ?_
           refine os_ mv_ ?_
           refine os_ (fa_ 1) ?_
           refine os_ (lb_ 2) ?_
           refine os_ (fa_ 1) ?_
           refine os_ (lb_ 1) ?_
           refine OD.callP (wants_plain rfl) rfl rfl rfl Tryz.call50 (hav) ⟨ot, ot, ot, trivial⟩ ?_
           refine os_ mv_ ?_
           refine os_ ex_ ?_
           refine os_ ex_ ?_
           refine os_ mv_ ?_
           refine os_ mv_ ?_
           refine OD.wk (Wk.as_ (n := 106) (l' := [(6, _), (12, _), (13, _)]) (S' := [⟨b6, 26, 3, [_, _, _]⟩, ⟨b5, 26, 3, [_, _, _]⟩, ⟨b4, 26, 3, [_, _, _]⟩]) rfl rfl ⟨lk, lk, lk, trivial⟩) ?_
           refine OD.nil ?_
           refine CD.seq ?_
           refine sr_ ?_
           refine os_ mv_ ?_
           refine os_ un_ ?_
           refine nm_ [6, 12, 101] ?_
           refine CD.cond ot (fun hc13 => ?_) (fun hc13 => ?_)
           ·have hc13' := hc13
            (try simp only [V.cnd, ne_eq] at hc13')
            have hres : twoF k a b = (noVl, 5) := by rw [har, if_neg (by rw [hc12]; simp), if_neg (by simpa using hc13)]
            refine sr_ ?_
            refine OD.still (wants_plain rfl) rfl (still_bld (pl := []) (ds := [_, _, _]) rfl Tryz.zeroValue26 Tryz.runUnderlying26 places26_Ex2 trivial rfl rfl) ?_
            refine OD.store (k := 0) (cs' := [_, _, _]) (wants_plain rfl) rfl rfl ot rfl rfl ot rfl rfl Tryz.sizeOf26 rfl rfl rfl ?_
            refine os_ mv_ ?_
            refine OD.wk (Wk.as_ (n := 106) (l' := [(6, _), (7, _)]) (S' := [⟨b6, 26, 3, [_, _, _]⟩, ⟨b5, 26, 3, [_, _, _]⟩, ⟨b4, 26, 3, [_, _, _]⟩]) rfl rfl ⟨lk, lk, trivial⟩) ?_
            refine OD.nil ?_
            refine CD.ret ?_
            refine ⟨.inr rfl, _, [], List.nil_sublist _, ret_two Tryz.results29 (res_cells (k := 0) (ds := [_, _, _]) (Nat.le_of_ble_eq_true rfl) lk rfl rfl Tryz.isAgg26 Tryz.sizeOf26 rfl rfl) (res_tmp (Nat.le_of_ble_eq_true rfl) lk), ?_⟩
            rw [hres]
            first | exact ⟨rfl, rfl⟩ | (refine ⟨?_, rfl⟩; clear hres hcv hav hl0 hl1 hbv hnv; generalize (cmpV a b == 0) = z1 at *; generalize (decide (cmpV a b < 0)) = z2 at *; subst_vars; simp_all; done)
           ·have hc13' := hc13
            (try simp only [V.cnd, ne_eq] at hc13')
            have hres : twoF k a b = (⟨2, (arithF k a.n b.n).1, ⟨#[]⟩⟩, 0) := by rw [har, if_neg (by rw [hc12]; simp), if_pos (by simpa using hc13)]
            refine CD.skip ?_
            refine sr_ ?_
            refine os_ mv_ ?_
            refine OD.still (wants_plain rfl) rfl (still_bld (pl := [(0, _), (1, _)]) (ds := [_, _, _]) rfl Tryz.zeroValue26 Tryz.runUnderlying26 places26_Ex2 ⟨rfl, opd_const, rfl, ot, trivial⟩ rfl rfl) ?_
            refine OD.store (k := 0) (cs' := [_, _, _]) (wants_plain rfl) rfl rfl ot rfl rfl ot rfl rfl Tryz.sizeOf26 rfl rfl rfl ?_
            refine os_ mv_ ?_
            refine OD.wk (Wk.as_ (n := 106) (l' := [(6, _), (7, _)]) (S' := [⟨b6, 26, 3, [_, _, _]⟩, ⟨b5, 26, 3, [_, _, _]⟩, ⟨b4, 26, 3, [_, _, _]⟩]) rfl rfl ⟨lk, lk, trivial⟩) ?_
            refine OD.nil ?_
            refine CD.ret ?_
            refine ⟨.inr rfl, _, [], List.nil_sublist _, ret_two Tryz.results29 (res_cells (k := 0) (ds := [_, _, _]) (Nat.le_of_ble_eq_true rfl) lk rfl rfl Tryz.isAgg26 Tryz.sizeOf26 rfl rfl) (res_tmp (Nat.le_of_ble_eq_true rfl) lk), ?_⟩
            rw [hres]
            first | exact ⟨rfl, rfl⟩ | (refine ⟨?_, rfl⟩; clear hres hcv hav hl0 hl1 hbv hnv; generalize (cmpV a b == 0) = z1 at *; generalize (decide (cmpV a b < 0)) = z2 at *; subst_vars; simp_all; done)
        ·have hc9' := hc9
         (try simp only [V.cnd, ne_eq] at hc9')
         have hres : twoF k a b = (noVl, 2) := by unfold twoF; rw [if_neg (by simp [hb0]), if_neg (by omega), if_neg (by omega), if_neg (by omega), if_neg (by omega)]
         refine CD.skip ?_
         refine sr_ ?_
         refine OD.still (wants_plain rfl) rfl (still_bld (pl := []) (ds := [_, _, _]) rfl Tryz.zeroValue26 Tryz.runUnderlying26 places26_Ex2 trivial rfl rfl) ?_
         refine OD.store (k := 0) (cs' := [_, _, _]) (wants_plain rfl) rfl rfl ot rfl rfl ot rfl rfl Tryz.sizeOf26 rfl rfl rfl ?_
         refine os_ mv_ ?_
         refine OD.wk (Wk.as_ (n := 106) (l' := [(6, _), (7, _)]) (S' := [⟨b6, 26, 3, [_, _, _]⟩, ⟨b5, 26, 3, [_, _, _]⟩, ⟨b4, 26, 3, [_, _, _]⟩]) rfl rfl ⟨lk, lk, trivial⟩) ?_
         refine OD.nil ?_
         refine CD.ret ?_
         refine ⟨.inr rfl, _, [], List.nil_sublist _, ret_two Tryz.results29 (res_cells (k := 0) (ds := [_, _, _]) (Nat.le_of_ble_eq_true rfl) lk rfl rfl Tryz.isAgg26 Tryz.sizeOf26 rfl rfl) (res_tmp (Nat.le_of_ble_eq_true rfl) lk), ?_⟩
         rw [hres]
         first | exact ⟨rfl, rfl⟩ | (refine ⟨?_, rfl⟩; clear hres hcv hav hl0 hl1 hbv hnv; generalize (cmpV a b == 0) = z1 at *; generalize (decide (cmpV a b < 0)) = z2 at *; subst_vars; simp_all; done)

end Go.Proofs.YtfooincnmobemaaGreatDoor.Ex

namespace Go.Proofs.YtfooincnmobemaaGreatDoor.Ex
open Go.RowKit V Pk Vl Go.Proofs.YtfooincnmobemaaGreatDoor.Nm Go.Proofs.YtfooincnmobemaaGreatDoor.Pc
set_option linter.unusedVariables false
set_option linter.unusedSimpArgs false

def evalF (l : List ColL) (row : List Vl) (o : OpL) (a b : Vl) : Vl × Int :=
 if popsF o.k = 1 then oneF o.k a else if popsF o.k = 2 then twoF o.k a b else if o.k = 2 then (row.getD (colAt l o.nm).toNat noVl, 0) else (o.v, 0)
def foldV (l : List ColL) (row : List Vl) (ops : List OpL) : Vl × Int := foldG noVl (evalF l row) ops []
/-- What expr.Eval answers. -/
def evalR (l : List ColL) (row : List Vl) (ops : List OpL) : Vl × Int :=
  if rowF l row ≠ 0 then (noVl, rowF l row) else if (kindR l ops).2 ≠ 0 then (noVl, (kindR l ops).2) else foldV l row ops
theorem ok_no : noVl.Ok := ⟨by decide, by decide, by decide, by decide, Nat.zero_le _⟩
theorem ok_truth (b : Bool) : (truthV b).Ok := by unfold truthV; split <;> exact ⟨by decide, by decide, by decide, by decide, Nat.zero_le _⟩
theorem ok_int {n : Int} (h : -9223372036854775808 ≤ n ∧ n ≤ 9223372036854775807) : (⟨2, n, ⟨#[]⟩⟩ : Vl).Ok := ⟨by show -9223372036854775808 ≤ (2 : Int); decide, by show (2 : Int) ≤ _; decide, h.1, h.2, Nat.zero_le _⟩
theorem ok_logic {a b : Vl} {d : Int} (oa : a.Ok) (ob : b.Ok) : (logicF a b d).1.Ok := by
 unfold logicF
 repeat' split
 all_goals first | exact ok_no | exact oa | exact ob
theorem ok_two {k : Int} {a b : Vl} (oa : a.Ok) (ob : b.Ok) : (twoF k a b).1.Ok := by
 unfold twoF
 repeat' split
 all_goals first | exact ok_no | exact ok_logic oa ob | exact ok_truth _ | skip
 unfold arithF
 repeat' split
 all_goals exact ok_int (wr_bd _)
theorem ok_one {k : Int} {a : Vl} (oa : a.Ok) : (oneF k a).1.Ok := by
 unfold oneF
 repeat' split
 all_goals first | exact ok_no | exact oa | exact ok_truth _
theorem ok_eval {l : List ColL} {row : List Vl} (hr : ∀ v ∈ row, v.Ok) {o : OpL} (ho : o.v.Ok) {a b : Vl} (oa : a.Ok) (ob : b.Ok) : (evalF l row o a b).1.Ok := by
 unfold evalF
 split
 ·exact ok_one oa
 ·split
  ·exact ok_two oa ob
  ·split
   ·show (row.getD _ noVl).Ok
    rw [List.getD_eq_getElem?_getD]
    cases h : row[(colAt l o.nm).toNat]? with
    | none => exact ok_no
    | some v => exact hr v (List.mem_of_getElem? h)
   ·exact ho
theorem ok_getD {st : List Vl} (h : ∀ v ∈ st, v.Ok) (j : Nat) : (st.getD j noVl).Ok := by
 rw [List.getD_eq_getElem?_getD]
 cases hj : st[j]? with
 | none => exact ok_no
 | some v => exact h v (List.mem_of_getElem? hj)
theorem ok_argA {st : List Vl} (h : ∀ v ∈ st, v.Ok) (k : Int) : (argA noVl k st).Ok := by unfold argA; split; exact ok_getD h _; exact ok_no
theorem ok_argB {st : List Vl} (h : ∀ v ∈ st, v.Ok) (k : Int) : (argB noVl k st).Ok := by unfold argB; split; exact ok_getD h _; exact ok_no
theorem fold_each {α : Type} {z : α} {f : OpL → α → α → α × Int} : ∀ {l : List OpL} {st : List α}, (foldG z f l st).2 = 0 → ∀ o ∈ l, ∃ a b, (f o a b).2 = 0
 | [], _, _, o, ho => by cases ho
 | x :: r, st, h, o, ho => by
  rw [foldG] at h
  split at h
  ·rename_i hne; exact absurd h hne
  ·rename_i he
   rcases List.mem_cons.1 ho with rfl | ho
   ·exact ⟨_, _, Classical.not_not.1 he⟩
   ·exact fold_each h o ho
theorem kind_cols {l : List ColL} {ops : List OpL} (h : (kindF l ops).2 = 0) : ∀ o ∈ ops, o.k = 2 → 0 ≤ colAt l o.nm := fun o ho hk => by
 obtain ⟨a, b, he⟩ := fold_each h o ho
 unfold madeF at he
 rw [if_neg (by omega), if_pos hk] at he
 unfold kindAt at he
 split at he
 ·cases he
 ·omega
theorem row_len {l : List ColL} {row : List Vl} (h : rowF l row = 0) : row.length = l.length := by
 unfold rowF at h
 split at h
 ·rename_i h1; exact absurd h h1
 ·split at h
  ·cases h
  ·omega
theorem kind_ok {l : List ColL} {ops : List OpL} (h : (kindR l ops).2 = 0) : colsF l = 0 ∧ exprF ops = 0 ∧ kindR l ops = kindF l ops := by
 unfold kindR at h ⊢
 split at h
 ·rename_i h1; exact absurd h h1
 ·rename_i h1
  split at h
  ·rename_i h2; exact absurd h h2
  ·rename_i h2
   exact ⟨Classical.not_not.1 h1, Classical.not_not.1 h2, by rw [if_neg h1, if_neg h2]⟩
variable {G : List (Nat × List Value)}

set_option maxHeartbeats 4000000 in
set_option maxRecDepth 100000 in
theorem evalcl_vc (l : List ColL) (hl : l.length ≤ 1000) (row : List Vl) (hrl : row.length = l.length) (o : OpL) (hcol : o.k = 2 → 0 ≤ colAt l o.nm) (a b a' b' : Vl) (ha : a = a') (hb : b = b') (oa : a.Ok) (ob : b.Ok) (br bc : Nat) : VC Tryz.prog G 26 [.agg (cO o), .agg (cV a'), .agg (cV b'), .v (.pointer (some ⟨br, 0, none⟩)), .v (.pointer (some ⟨bc, 0, none⟩))] [⟨br, 23, 1, [.list 3 (row.flatMap cV) row.length]⟩, ⟨bc, 30, 1, [.list 2 (l.flatMap cC) l.length]⟩] (fun r S => r = vlD (evalF l row o a b) ∧ S = [⟨br, 23, 1, [.list 3 (row.flatMap cV) row.length]⟩, ⟨bc, 30, 1, [.list 2 (l.flatMap cC) l.length]⟩]) := by
 refine VC.body Tryz.func26 rfl Tryz.ntmps26 (Nat.le_of_ble_eq_true rfl) fun X0 w0 S00 => ?_
 subst ha hb
 have hov := one_vp (G := G) o.k a
 have htv := two_vp (G := G) o.k a b oa ob
 unfold vlD at hov htv ⊢
 unfold cV at hov htv
 unfold cO cV
 have hbd := idxG_bd (fun c : ColL => c.n.toList == o.nm.toList) l
 have hcd : colAt l o.nm = idxG (fun c : ColL => c.n.toList == o.nm.toList) l := rfl
 rw [← hcd] at hbd
 clear hcd
 refine sr_ ?_
 refine OD.box (ds := [_, _, _, _, _]) (wants_plain rfl) rfl rfl ot rfl rfl (fun b5 => ?_)
 refine OD.box (ds := [_, _, _]) (wants_plain rfl) rfl rfl ot rfl rfl (fun b6 => ?_)
 refine OD.box (ds := [_, _, _]) (wants_plain rfl) rfl rfl ot rfl rfl (fun b7 => ?_)
 refine OD.alloc (ds := [_, _, _]) (wants_plain rfl) rfl rfl Tryz.zeroValue26 rfl (fun b8 => ?_)
 refine os_ mv_ ?_
 refine OD.wk (Wk.as_ (n := 42) (l' := [(3, _), (4, _), (5, _), (6, _), (7, _), (8, _)]) (S' := [⟨b8, 26, 3, [_, _, _]⟩, ⟨b7, 26, 3, [_, _, _]⟩, ⟨b6, 26, 3, [_, _, _]⟩, ⟨b5, 35, 5, [_, _, _, _, _]⟩, ⟨br, 23, 1, [_]⟩, ⟨bc, 30, 1, [_]⟩]) rfl rfl ⟨lk, lk, lk, lk, lk, lk, trivial⟩) ?_
 refine OD.nil ?_
 refine CD.seq ?_
 refine sr_ ?_
 refine os_ (fa_ 0) ?_
 refine os_ (lb_ 3) ?_
 refine OD.callP (wants_plain rfl) rfl rfl rfl Tryz.call27 (works_vp o.k) ⟨ot, trivial⟩ ?_
 refine OD.wk (Wk.as_ (n := 42) (l' := [(3, _), (4, _), (5, _), (6, _), (7, _), (8, _), (12, _)]) (S' := [⟨b8, 26, 3, [_, _, _]⟩, ⟨b7, 26, 3, [_, _, _]⟩, ⟨b6, 26, 3, [_, _, _]⟩, ⟨b5, 35, 5, [_, _, _, _, _]⟩, ⟨br, 23, 1, [_]⟩, ⟨bc, 30, 1, [_]⟩]) rfl rfl ⟨lk, lk, lk, lk, lk, lk, lk, trivial⟩) ?_
 refine OD.nil ?_
 refine CD.block ?_
 refine sr_ ?_
 refine os_ bn_ ?_
 refine os_ mv_ ?_
 refine nm_ [3, 4, 5, 6, 7, 8, 12, 13] ?_
 refine CD.cond ot (fun hc0 => ?_) (fun hc0 => ?_)
 ·have hc0' := hc0
  (try simp only [V.cnd, ne_eq] at hc0')
  have hres : evalF l row o a b = oneF o.k a := by unfold evalF; rw [if_pos (by omega)]
  refine sr_ ?_
  refine os_ (fa_ 0) ?_
  refine os_ (lb_ 3) ?_
  refine os_ (lab_ 2 [_, _, _]) ?_
  refine OD.callP (wants_plain rfl) rfl rfl rfl Tryz.call28 (hov) ⟨ot, ot, trivial⟩ ?_
  refine os_ ex_ ?_
  refine os_ ex_ ?_
  refine OD.store (k := 0) (cs' := [_, _, _]) (wants_plain rfl) rfl rfl ot rfl rfl ot rfl rfl Tryz.sizeOf26 rfl rfl rfl ?_
  refine os_ mv_ ?_
  refine OD.wk (Wk.as_ (n := 42) (l' := [(8, _), (9, _)]) (S' := [⟨b8, 26, 3, [_, _, _]⟩, ⟨b7, 26, 3, [_, _, _]⟩, ⟨b6, 26, 3, [_, _, _]⟩, ⟨b5, 35, 5, [_, _, _, _, _]⟩, ⟨br, 23, 1, [_]⟩, ⟨bc, 30, 1, [_]⟩]) rfl rfl ⟨lk, lk, trivial⟩) ?_
  refine OD.nil ?_
  refine CD.ret ?_
  refine ⟨.inr rfl, _, [⟨br, 23, 1, [.list 3 (row.flatMap cV) row.length]⟩, ⟨bc, 30, 1, [.list 2 (l.flatMap cC) l.length]⟩], (by repeat (first | exact List.Sublist.refl _ | exact List.nil_sublist _ | apply List.Sublist.cons)), ret_two Tryz.results26 (res_cells (k := 0) (ds := [_, _, _]) (Nat.le_of_ble_eq_true rfl) lk rfl rfl Tryz.isAgg26 Tryz.sizeOf26 rfl rfl) (res_tmp (Nat.le_of_ble_eq_true rfl) lk), ?_⟩
  rw [hres]; exact ⟨rfl, rfl⟩
 ·have hc0' := hc0
  (try simp only [V.cnd, ne_eq] at hc0')
  refine sr_ ?_
  refine os_ bn_ ?_
  refine os_ mv_ ?_
  refine nm_ [3, 4, 5, 6, 7, 8, 21] ?_
  refine CD.cond ot (fun hc1 => ?_) (fun hc1 => ?_)
  ·have hc1' := hc1
   (try simp only [V.cnd, ne_eq] at hc1')
   have hres : evalF l row o a b = twoF o.k a b := by unfold evalF; rw [if_neg (by omega), if_pos (by omega)]
   refine sr_ ?_
   refine os_ (fa_ 0) ?_
   refine os_ (lb_ 3) ?_
   refine os_ (lab_ 2 [_, _, _]) ?_
   refine os_ (lab_ 1 [_, _, _]) ?_
   refine OD.callP (wants_plain rfl) rfl rfl rfl Tryz.call29 (htv) ⟨ot, ot, ot, trivial⟩ ?_
   refine os_ ex_ ?_
   refine os_ ex_ ?_
   refine OD.store (k := 0) (cs' := [_, _, _]) (wants_plain rfl) rfl rfl ot rfl rfl ot rfl rfl Tryz.sizeOf26 rfl rfl rfl ?_
   refine os_ mv_ ?_
   refine OD.wk (Wk.as_ (n := 42) (l' := [(8, _), (9, _)]) (S' := [⟨b8, 26, 3, [_, _, _]⟩, ⟨b7, 26, 3, [_, _, _]⟩, ⟨b6, 26, 3, [_, _, _]⟩, ⟨b5, 35, 5, [_, _, _, _, _]⟩, ⟨br, 23, 1, [_]⟩, ⟨bc, 30, 1, [_]⟩]) rfl rfl ⟨lk, lk, trivial⟩) ?_
   refine OD.nil ?_
   refine CD.ret ?_
   refine ⟨.inr rfl, _, [⟨br, 23, 1, [.list 3 (row.flatMap cV) row.length]⟩, ⟨bc, 30, 1, [.list 2 (l.flatMap cC) l.length]⟩], (by repeat (first | exact List.Sublist.refl _ | exact List.nil_sublist _ | apply List.Sublist.cons)), ret_two Tryz.results26 (res_cells (k := 0) (ds := [_, _, _]) (Nat.le_of_ble_eq_true rfl) lk rfl rfl Tryz.isAgg26 Tryz.sizeOf26 rfl rfl) (res_tmp (Nat.le_of_ble_eq_true rfl) lk), ?_⟩
   rw [hres]; exact ⟨rfl, rfl⟩
  ·have hc1' := hc1
   (try simp only [V.cnd, ne_eq] at hc1')
   refine CD.skip ?_
   refine CD.seq ?_
   refine sr_ ?_
   refine os_ (fa_ 0) ?_
   refine os_ (lb_ 3) ?_
   refine os_ bn_ ?_
   refine nm_ [3, 4, 5, 8, 32] ?_
   refine CD.cond ot (fun hc2 => ?_) (fun hc2 => ?_)
   ·have hc2' := hc2
    (try simp only [V.cnd, ne_eq] at hc2')
    have hk2 : o.k = 2 := by omega
    have hc0 := hcol hk2
    have hci : (colAt l o.nm).toNat < row.length := by omega
    have hres : evalF l row o a b = (row[(colAt l o.nm).toNat], 0) := by unfold evalF; rw [if_neg (by omega), if_neg (by omega), if_pos hk2, List.getD_eq_getElem?_getD, List.getElem?_eq_getElem hci]; rfl
    refine CD.seq ?_
    refine CD.draw (bks (List.eraseIdx _ 0)) (by kernel_rfl) (fun _ h => (List.Sublist.map _ (List.eraseIdx_sublist _ 0)).subset h) ?_
    refine AD0.take (i := 0) rfl (by kernel_rfl) (by kernel_rfl) (by kernel_rfl) (by repeat (first | exact NP.body | apply NP.then | apply NP.cut | apply NP.inBlock | apply NP.round)) (wants_plain rfl) rfl (still_r1 (mk := Op.load 23) rfl ot (by first | exact ld_blk (k := 4) rfl rfl Tryz.isAgg23 rfl | exact ld_fm cV_len Tryz.isAgg23 (by first | assumption | omega) rfl | exact ld_fm0 cV_len Tryz.isAgg23 (by first | assumption | omega) rfl | exact ld_row (k := 0) cV_len rfl rfl rfl Tryz.isAgg23 (by first | assumption | omega) rfl | exact ld_row0 (k := 0) cV_len rfl rfl rfl Tryz.isAgg23 (by first | assumption | omega) rfl | exact ld_row (k := 1) cV_len rfl rfl rfl Tryz.isAgg23 (by first | assumption | omega) rfl | exact ld_row0 (k := 1) cV_len rfl rfl rfl Tryz.isAgg23 (by first | assumption | omega) rfl | exact ld_row (k := 2) cV_len rfl rfl rfl Tryz.isAgg23 (by first | assumption | omega) rfl | exact ld_row0 (k := 2) cV_len rfl rfl rfl Tryz.isAgg23 (by first | assumption | omega) rfl | exact ld_row (k := 3) cV_len rfl rfl rfl Tryz.isAgg23 (by first | assumption | omega) rfl | exact ld_row0 (k := 3) cV_len rfl rfl rfl Tryz.isAgg23 (by first | assumption | omega) rfl | exact ld_row (k := 4) cV_len rfl rfl rfl Tryz.isAgg23 (by first | assumption | omega) rfl | exact ld_row0 (k := 4) cV_len rfl rfl rfl Tryz.isAgg23 (by first | assumption | omega) rfl | exact ld_row (k := 5) cV_len rfl rfl rfl Tryz.isAgg23 (by first | assumption | omega) rfl | exact ld_row0 (k := 5) cV_len rfl rfl rfl Tryz.isAgg23 (by first | assumption | omega) rfl | exact ld_i Tryz.isAgg23 rfl)) (by first | exact trivial | exact safe_blk (k0 := 0) rfl rfl | exact safe_blk (k0 := 1) rfl rfl | exact safe_blk (k0 := 2) rfl rfl | exact safe_blk (k0 := 3) rfl rfl | exact safe_blk (k0 := 4) rfl rfl) ?_
    refine AD0.take (i := 1) rfl (by kernel_rfl) (by kernel_rfl) (by kernel_rfl) (by repeat (first | exact NP.body | apply NP.then | apply NP.cut | apply NP.inBlock | apply NP.round)) (wants_plain rfl) rfl (still_r1 (mk := Op.load 30) rfl ot (by first | exact ld_blk (k := 5) rfl rfl Tryz.isAgg30 rfl | exact ld_fm cV_len Tryz.isAgg30 (by first | assumption | omega) rfl | exact ld_fm0 cV_len Tryz.isAgg30 (by first | assumption | omega) rfl | exact ld_row (k := 0) cV_len rfl rfl rfl Tryz.isAgg30 (by first | assumption | omega) rfl | exact ld_row0 (k := 0) cV_len rfl rfl rfl Tryz.isAgg30 (by first | assumption | omega) rfl | exact ld_row (k := 1) cV_len rfl rfl rfl Tryz.isAgg30 (by first | assumption | omega) rfl | exact ld_row0 (k := 1) cV_len rfl rfl rfl Tryz.isAgg30 (by first | assumption | omega) rfl | exact ld_row (k := 2) cV_len rfl rfl rfl Tryz.isAgg30 (by first | assumption | omega) rfl | exact ld_row0 (k := 2) cV_len rfl rfl rfl Tryz.isAgg30 (by first | assumption | omega) rfl | exact ld_row (k := 3) cV_len rfl rfl rfl Tryz.isAgg30 (by first | assumption | omega) rfl | exact ld_row0 (k := 3) cV_len rfl rfl rfl Tryz.isAgg30 (by first | assumption | omega) rfl | exact ld_row (k := 4) cV_len rfl rfl rfl Tryz.isAgg30 (by first | assumption | omega) rfl | exact ld_row0 (k := 4) cV_len rfl rfl rfl Tryz.isAgg30 (by first | assumption | omega) rfl | exact ld_row (k := 5) cV_len rfl rfl rfl Tryz.isAgg30 (by first | assumption | omega) rfl | exact ld_row0 (k := 5) cV_len rfl rfl rfl Tryz.isAgg30 (by first | assumption | omega) rfl | exact ld_i Tryz.isAgg30 rfl)) (by first | exact trivial | exact safe_blk (k0 := 0) rfl rfl | exact safe_blk (k0 := 1) rfl rfl | exact safe_blk (k0 := 2) rfl rfl | exact safe_blk (k0 := 3) rfl rfl | exact safe_blk (k0 := 4) rfl rfl) ?_
    refine AD0.take (i := 2) rfl (by kernel_rfl) (by kernel_rfl) (by kernel_rfl) (by repeat (first | exact NP.body | apply NP.then | apply NP.cut | apply NP.inBlock | apply NP.round)) (wants_plain rfl) rfl (still_r1 (mk := fun y => Op.fieldAddr 35 y 2) rfl ot (by first | exact fa_ptr (off := 4) Tryz.runUnderlying35 rfl Tryz.sizeOf9 rfl | exact fa_iptr (off := 4) Tryz.runUnderlying35 rfl Tryz.sizeOf9 rfl)) (by exact trivial) ?_
    refine AD0.take (i := 3) rfl (by kernel_rfl) (by kernel_rfl) (by kernel_rfl) (by repeat (first | exact NP.body | apply NP.then | apply NP.cut | apply NP.inBlock | apply NP.round)) (wants_plain rfl) rfl (still_r1 (mk := Op.load 9) rfl ot (by first | exact ld_blk (k := 3) rfl rfl Tryz.isAgg9 rfl | exact ld_fm cV_len Tryz.isAgg9 (by first | assumption | omega) rfl | exact ld_fm0 cV_len Tryz.isAgg9 (by first | assumption | omega) rfl | exact ld_row (k := 0) cV_len rfl rfl rfl Tryz.isAgg9 (by first | assumption | omega) rfl | exact ld_row0 (k := 0) cV_len rfl rfl rfl Tryz.isAgg9 (by first | assumption | omega) rfl | exact ld_row (k := 1) cV_len rfl rfl rfl Tryz.isAgg9 (by first | assumption | omega) rfl | exact ld_row0 (k := 1) cV_len rfl rfl rfl Tryz.isAgg9 (by first | assumption | omega) rfl | exact ld_row (k := 2) cV_len rfl rfl rfl Tryz.isAgg9 (by first | assumption | omega) rfl | exact ld_row0 (k := 2) cV_len rfl rfl rfl Tryz.isAgg9 (by first | assumption | omega) rfl | exact ld_row (k := 3) cV_len rfl rfl rfl Tryz.isAgg9 (by first | assumption | omega) rfl | exact ld_row0 (k := 3) cV_len rfl rfl rfl Tryz.isAgg9 (by first | assumption | omega) rfl | exact ld_row (k := 4) cV_len rfl rfl rfl Tryz.isAgg9 (by first | assumption | omega) rfl | exact ld_row0 (k := 4) cV_len rfl rfl rfl Tryz.isAgg9 (by first | assumption | omega) rfl | exact ld_row (k := 5) cV_len rfl rfl rfl Tryz.isAgg9 (by first | assumption | omega) rfl | exact ld_row0 (k := 5) cV_len rfl rfl rfl Tryz.isAgg9 (by first | assumption | omega) rfl | exact ld_i Tryz.isAgg9 rfl)) (by first | exact trivial | exact safe_blk (k0 := 0) rfl rfl | exact safe_blk (k0 := 1) rfl rfl | exact safe_blk (k0 := 2) rfl rfl | exact safe_blk (k0 := 3) rfl rfl | exact safe_blk (k0 := 4) rfl rfl) ?_
    refine AD0.later rfl ?_
    refine AD.one (i := 4) (by kernel_rfl) ?_
    refine AStep.callP rfl (wants_plain rfl) rfl rfl rfl Tryz.call30 (find_vp l hl o.nm) ⟨ot, ot, trivial⟩ ?_
    refine AD.take (i := 5) rfl (by kernel_rfl) (by kernel_rfl) (by kernel_rfl) (by repeat (first | exact NP.body | apply NP.then | apply NP.cut | apply NP.inBlock | apply NP.round)) (wants_plain rfl) rfl (still_r2 (mk := Op.indexAddr 23) rfl ot ot (by first | exact ix_list Tryz.runUnderlying23 Tryz.sizeOf26 rfl (by first | assumption | omega) | exact ix_list (j := Int.toNat _) Tryz.runUnderlying23 Tryz.sizeOf26 (Int.toNat_of_nonneg (by omega)).symm (by omega) | exact ix_row Tryz.runUnderlying23 Tryz.sizeOf26 rfl (by first | assumption | omega) | exact ix_row (j := Int.toNat _) Tryz.runUnderlying23 Tryz.sizeOf26 (Int.toNat_of_nonneg (by omega)).symm (by omega))) (by exact trivial) (by intro h; cases h) ?_
    refine AD.one (i := 6) (by kernel_rfl) ?_
    refine AStep.still rfl (wants_plain rfl) rfl (still_r1 (mk := Op.load 26) rfl ot (by first | exact ld_blks (k := 0) (ds := [_, _, _]) rfl rfl Tryz.isAgg26 Tryz.sizeOf26 rfl rfl | exact ld_blks (k := 1) (ds := [_, _, _]) rfl rfl Tryz.isAgg26 Tryz.sizeOf26 rfl rfl | exact ld_blks (k := 2) (ds := [_, _, _]) rfl rfl Tryz.isAgg26 Tryz.sizeOf26 rfl rfl | exact ld_blks (k := 3) (ds := [_, _, _]) rfl rfl Tryz.isAgg26 Tryz.sizeOf26 rfl rfl | exact ld_fms cV_len Tryz.isAgg26 Tryz.sizeOf26 (by first | assumption | omega) | exact ld_rows (k := 0) cV_len rfl rfl rfl Tryz.isAgg26 Tryz.sizeOf26 (by first | assumption | omega) | exact ld_rows (k := 1) cV_len rfl rfl rfl Tryz.isAgg26 Tryz.sizeOf26 (by first | assumption | omega) | exact ld_rows (k := 2) cV_len rfl rfl rfl Tryz.isAgg26 Tryz.sizeOf26 (by first | assumption | omega) | exact ld_rows (k := 3) cV_len rfl rfl rfl Tryz.isAgg26 Tryz.sizeOf26 (by first | assumption | omega) | exact ld_rows (k := 4) cV_len rfl rfl rfl Tryz.isAgg26 Tryz.sizeOf26 (by first | assumption | omega) | exact ld_rows (k := 5) cV_len rfl rfl rfl Tryz.isAgg26 Tryz.sizeOf26 (by first | assumption | omega) | exact ld_is (ds := [_, _, _]) Tryz.isAgg26 Tryz.sizeOf26 rfl rfl)) ?_
    refine AD.one (i := 7) (by kernel_rfl) ?_
    refine AStep.store (k := 0) (cs' := [_, _, _]) rfl (wants_plain rfl) rfl rfl ot rfl rfl ot rfl rfl Tryz.sizeOf26 rfl rfl rfl (by intro b hb; simp [bks, St.put] at hb ⊢; try first | exact hb | simp [hb] | (rcases hb with hb | hb <;> simp [hb]) | (rcases hb with hb | hb | hb <;> simp [hb])) ?_
    refine AD.take (i := 8) rfl (by kernel_rfl) (by kernel_rfl) (by kernel_rfl) (by repeat (first | exact NP.body | apply NP.then | apply NP.cut | apply NP.inBlock | apply NP.round)) (wants_plain rfl) rfl (still_as rfl opd_const) (by exact trivial) (by intro h; cases h) ?_
    refine AD.wk (y := ⟨42, [(8, _), (9, _)], [⟨b8, 26, 3, [_, _, _]⟩, ⟨b7, 26, 3, [_, _, _]⟩, ⟨b6, 26, 3, [_, _, _]⟩, ⟨b5, 35, 5, [_, _, _, _, _]⟩, ⟨br, 23, 1, [_]⟩, ⟨bc, 30, 1, [_]⟩]⟩) (Wk.as_ rfl rfl ⟨lk, lk, trivial⟩) rfl ?_
    refine AD.done (by kernel_rfl) ?_
    refine CD.ret ?_
    refine ⟨.inr rfl, _, [⟨br, 23, 1, [.list 3 (row.flatMap cV) row.length]⟩, ⟨bc, 30, 1, [.list 2 (l.flatMap cC) l.length]⟩], (by repeat (first | exact List.Sublist.refl _ | exact List.nil_sublist _ | apply List.Sublist.cons)), ret_two Tryz.results26 (res_cells (k := 0) (ds := [_, _, _]) (Nat.le_of_ble_eq_true rfl) lk rfl rfl Tryz.isAgg26 Tryz.sizeOf26 rfl rfl) (res_tmp (Nat.le_of_ble_eq_true rfl) lk), ?_⟩
    rw [hres]; exact ⟨rfl, rfl⟩
   ·have hc2' := hc2
    (try simp only [V.cnd, ne_eq] at hc2')
    have hres : evalF l row o a b = (o.v, 0) := by unfold evalF; rw [if_neg (by omega), if_neg (by omega), if_neg (by omega)]
    refine CD.skip ?_
    refine sr_ ?_
    refine os_ (fa_ 1) ?_
    refine os_ (lab_ 3 [_, _, _]) ?_
    refine OD.store (k := 0) (cs' := [_, _, _]) (wants_plain rfl) rfl rfl ot rfl rfl ot rfl rfl Tryz.sizeOf26 rfl rfl rfl ?_
    refine os_ mv_ ?_
    refine OD.wk (Wk.as_ (n := 42) (l' := [(8, _), (9, _)]) (S' := [⟨b8, 26, 3, [_, _, _]⟩, ⟨b7, 26, 3, [_, _, _]⟩, ⟨b6, 26, 3, [_, _, _]⟩, ⟨b5, 35, 5, [_, _, _, _, _]⟩, ⟨br, 23, 1, [_]⟩, ⟨bc, 30, 1, [_]⟩]) rfl rfl ⟨lk, lk, trivial⟩) ?_
    refine OD.nil ?_
    refine CD.ret ?_
    refine ⟨.inr rfl, _, [⟨br, 23, 1, [.list 3 (row.flatMap cV) row.length]⟩, ⟨bc, 30, 1, [.list 2 (l.flatMap cC) l.length]⟩], (by repeat (first | exact List.Sublist.refl _ | exact List.nil_sublist _ | apply List.Sublist.cons)), ret_two Tryz.results26 (res_cells (k := 0) (ds := [_, _, _]) (Nat.le_of_ble_eq_true rfl) lk rfl rfl Tryz.isAgg26 Tryz.sizeOf26 rfl rfl) (res_tmp (Nat.le_of_ble_eq_true rfl) lk), ?_⟩
    rw [hres]; exact ⟨rfl, rfl⟩

theorem info26_Ex3 : (Tryz.prog.info? 26).map (fun i => (i.zero, i.size, i.bytes)) = some (some (.agg #[.int .i64 0, .int .i64 0, .string ⟨#[]⟩]), 3, 32) := by kernel_rfl

set_option maxHeartbeats 4000000 in
set_option maxRecDepth 100000 in
theorem foldV_vc (l : List ColL) (hl : l.length ≤ 1000) (row : List Vl) (hrl : row.length = l.length) (hrok : ∀ v ∈ row, v.Ok) (ops : List OpL) (hvo : ∀ o ∈ ops, o.v.Ok) (hcol : ∀ o ∈ ops, o.k = 2 → 0 ≤ colAt l o.nm) (h40 : ops.length ≤ 40) (hx : exprL 0 ops = 0) (br bc : Nat) : VC Tryz.prog G 25 [.list 5 (ops.flatMap cO) ops.length, .clo (.func 26) [.v (.pointer (some ⟨br, 0, none⟩)), .v (.pointer (some ⟨bc, 0, none⟩))]] [⟨br, 23, 1, [.list 3 (row.flatMap cV) row.length]⟩, ⟨bc, 30, 1, [.list 2 (l.flatMap cC) l.length]⟩] (fun r S => r = vlD (foldV l row ops) ∧ S = [⟨br, 23, 1, [.list 3 (row.flatMap cV) row.length]⟩, ⟨bc, 30, 1, [.list 2 (l.flatMap cC) l.length]⟩]) := by
 refine VC.body Tryz.func25 rfl Tryz.ntmps25 (Nat.le_of_ble_eq_true rfl) fun X0 w0 S00 => ?_
 unfold vlD
 refine sr_ ?_
 refine OD.alloc (ds := [_, _, _]) (wants_plain rfl) rfl rfl Tryz.zeroValue26 rfl (fun b4 => ?_)
 refine os_ mv_ ?_
 refine OD.wk (Wk.as_ (n := 64) (l' := [(0, _), (1, _), (4, _)]) (S' := [⟨b4, 26, 3, [_, _, _]⟩, ⟨br, 23, 1, [_]⟩, ⟨bc, 30, 1, [_]⟩]) rfl rfl ⟨lk, lk, lk, trivial⟩) ?_
 refine OD.nil ?_
 refine sr_ ?_
 refine OD.alloc (ds := [_, _, _]) (wants_plain rfl) rfl rfl Tryz.zeroValue26 rfl (fun b6 => ?_)
 refine OD.perm (perm_two (k := 2) (k' := 2) rfl rfl) ?_
 refine OD.wk (Wk.as_ (n := 64) (l' := [(0, _), (1, _), (4, _), (6, _)]) (S' := [⟨br, 23, 1, [_]⟩, ⟨bc, 30, 1, [_]⟩, ⟨b6, 26, 3, [_, _, _]⟩, ⟨b4, 26, 3, [_, _, _]⟩]) rfl rfl ⟨lk, lk, lk, lk, trivial⟩) ?_
 refine OD.nil ?_
 refine sr_ ?_
 refine os_ mv_ ?_
 refine nm_ [0, 1, 4, 6, 7] ?_
 refine CD.seq ?_
 refine sr_ ?_
 refine os_ mv_ ?_
 refine os_ ln_ ?_
 refine os_ mv_ ?_
 refine nm_ [1, 4, 6, 7, 16, 17, 18] ?_
 refine CD.block ?_
 refine CD.wk (Wk.asS (n := 64) (l' := [(1, .clo (.func 26) [.v (.pointer (some ⟨br, 0, none⟩)), .v (.pointer (some ⟨bc, 0, none⟩))]), (4, .v (.pointer (some ⟨b4, 0, none⟩))), (6, .v (.pointer (some ⟨b6, 0, none⟩))), (7, .v (.slice none (([])).length (0))), (16, .list 5 (ops.flatMap cO) ops.length), (17, .v (.int .i64 (ops.length : Nat))), (18, .v (.int .i64 ((0) : Nat)))]) (S' := (⟨br, 23, 1, [.list 3 (row.flatMap cV) row.length]⟩ :: ⟨bc, 30, 1, [.list 2 (l.flatMap cC) l.length]⟩ :: ⟨b6, 26, 3, [.v (.int .i64 0), .v (.int .i64 0), .v (.string ⟨#[]⟩)]⟩ :: ⟨b4, 26, 3, [.v (.int .i64 0), .v (.int .i64 0), .v (.string ⟨#[]⟩)]⟩ :: ([]))) rfl (by first | exact List.Sublist.refl _ | (repeat (first | exact List.Sublist.refl _ | apply List.Sublist.cons_cons | apply List.Sublist.cons))) ⟨(by (repeat (first | exact look_hit | (apply look_at; focus (first | rfl | (simp; done) | (congr 2; omega) | (apply row_eq; rfl) | (apply row_eq; simp; done))) | (apply look_miss; focus rfl))); done), (by (repeat (first | exact look_hit | (apply look_at; focus (first | rfl | (simp; done) | (congr 2; omega) | (apply row_eq; rfl) | (apply row_eq; simp; done))) | (apply look_miss; focus rfl))); done), (by (repeat (first | exact look_hit | (apply look_at; focus (first | rfl | (simp; done) | (congr 2; omega) | (apply row_eq; rfl) | (apply row_eq; simp; done))) | (apply look_miss; focus rfl))); done), (by (repeat (first | exact look_hit | (apply look_at; focus (first | rfl | (simp; done) | (congr 2; omega) | (apply row_eq; rfl) | (apply row_eq; simp; done))) | (apply look_miss; focus rfl))); done), (by (repeat (first | exact look_hit | (apply look_at; focus (first | rfl | (simp; done) | (congr 2; omega) | (apply row_eq; rfl) | (apply row_eq; simp; done))) | (apply look_miss; focus rfl))); done), (by (repeat (first | exact look_hit | (apply look_at; focus (first | rfl | (simp; done) | (congr 2; omega) | (apply row_eq; rfl) | (apply row_eq; simp; done))) | (apply look_miss; focus rfl))); done), (by (repeat (first | exact look_hit | (apply look_at; focus (first | rfl | (simp; done) | (congr 2; omega) | (apply row_eq; rfl) | (apply row_eq; simp; done))) | (apply look_miss; focus rfl))); done), trivial⟩) (CD.loop (fun (gh__ : Nat × List Vl × Option Addr × Nat × List Blk) y__ => match gh__ with | (i, st, adh, cph, Sh) => (i ≤ ops.length) ∧ (st.length ≤ i) ∧ (exprL ((st.length : Nat) : Int) (ops.drop i) = 0) ∧ (foldV l row ops = foldG noVl (evalF l row) (ops.drop i) st) ∧ (∀ v ∈ st, v.Ok) ∧ (OwnL 26 3 ((st).flatMap cV) (st).length adh cph Sh) ∧ y__ = (⟨64, [(1, .clo (.func 26) [.v (.pointer (some ⟨br, 0, none⟩)), .v (.pointer (some ⟨bc, 0, none⟩))]), (4, .v (.pointer (some ⟨b4, 0, none⟩))), (6, .v (.pointer (some ⟨b6, 0, none⟩))), (7, .v (.slice adh (st).length cph)), (16, .list 5 (ops.flatMap cO) ops.length), (17, .v (.int .i64 (ops.length : Nat))), (18, .v (.int .i64 (i : Nat)))], (⟨br, 23, 1, [.list 3 (row.flatMap cV) row.length]⟩ :: ⟨bc, 30, 1, [.list 2 (l.flatMap cC) l.length]⟩ :: ⟨b6, 26, 3, [.v (.int .i64 0), .v (.int .i64 0), .v (.string ⟨#[]⟩)]⟩ :: ⟨b4, 26, 3, [.v (.int .i64 0), .v (.int .i64 0), .v (.string ⟨#[]⟩)]⟩ :: Sh)⟩ : St)) (fun (gh__ : Nat × List Vl × Option Addr × Nat × List Blk) => match gh__ with | (i, st, adh, cph, Sh) => ops.length - i) (0, [], none, 0, []) ⟨(Nat.zero_le _), (Nat.zero_le _), hx, rfl, (fun v hv => by cases hv), (OwnL.cast ownL_nil (by first | rfl | simp)), rfl⟩ ?_)
 rintro ⟨i, st, adh, cph, Sh⟩ _ ⟨hi, hst, hex, hinv, hok, hoh, rfl⟩
 refine sr_ ?_
 refine os_ bn_ ?_
 refine nm_ [1, 4, 6, 7, 16, 17, 18, 19] ?_
 refine CD.seq ?_
 refine CD.cond ot (fun hc0 => ?_) (fun hc0 => ?_)
 ·have hc0' := hc0
  (try simp only [V.cnd, ne_eq] at hc0')
  have hlt : i < ops.length := by omega
  obtain ⟨he, hen⟩ := expr_next hlt hex
  obtain ⟨hpo, hk11, hlz, hnm⟩ := err_pops he
  have hpb := pops_bd ops[i].k
  have hnl : (st.take (st.length - (popsF ops[i].k).toNat) ++ [(evalF l row ops[i] (argA noVl ops[i].k st) (argB noVl ops[i].k st)).1]).length = st.length + 1 - (popsF ops[i].k).toNat := by rw [List.length_append, List.length_take, List.length_singleton]; omega
  have hnx : exprL (((st.take (st.length - (popsF ops[i].k).toNat) ++ [(evalF l row ops[i] (argA noVl ops[i].k st) (argB noVl ops[i].k st)).1]).length : Nat) : Int) (ops.drop (i + 1)) = 0 := by rw [hnl, show (((st.length + 1 - (popsF ops[i].k).toNat : Nat)) : Int) = (st.length : Int) + (1 - popsF ops[i].k) by omega]; exact hen
  have hnok : ∀ v ∈ st.take (st.length - (popsF ops[i].k).toNat) ++ [(evalF l row ops[i] (argA noVl ops[i].k st) (argB noVl ops[i].k st)).1], v.Ok := fun v hv => by rcases List.mem_append.1 hv with hv | hv; exact hok v (List.mem_of_mem_take hv); rw [List.mem_singleton] at hv; rw [hv]; exact ok_eval hrok (hvo _ (List.getElem_mem hlt)) (ok_argA hok _) (ok_argB hok _)
  refine CD.skip ?_
  refine CD.seq ?_
  refine CD.block ?_
  refine sr_ ?_
  refine os_ (ix_ 5) ?_
  refine os_ (la_ [_, _, _, _, _]) ?_
  refine OD.alloc (ds := [_, _, _, _, _]) (wants_plain rfl) rfl rfl Tryz.zeroValue35 rfl (fun b9 => ?_)
  refine OD.store (k := 0) (cs' := [_, _, _, _, _]) (wants_plain rfl) rfl rfl ot rfl rfl ot rfl rfl Tryz.sizeOf35 rfl rfl rfl ?_
  refine OD.wk (Wk.as_ (n := 64) (l' := [(1, _), (4, _), (6, _), (7, _), (9, _), (16, _), (17, _), (18, _)]) (S' := (⟨b9, 35, 5, [_, _, _, _, _]⟩ :: ⟨br, 23, 1, [_]⟩ :: ⟨bc, 30, 1, [_]⟩ :: ⟨b6, 26, 3, [_, _, _]⟩ :: ⟨b4, 26, 3, [_, _, _]⟩ :: Sh)) rfl rfl ⟨lk, lk, lk, lk, lk, lk, lk, lk, trivial⟩) ?_
  refine OD.nil ?_
  refine sr_ ?_
  refine OD.alloc (ds := [_, _, _]) (wants_plain rfl) rfl rfl Tryz.zeroValue26 rfl (fun b10 => ?_)
  refine OD.alloc (ds := [_, _, _]) (wants_plain rfl) rfl rfl Tryz.zeroValue26 rfl (fun b11 => ?_)
  refine OD.wk (Wk.as_ (n := 64) (l' := [(1, _), (4, _), (6, _), (7, _), (9, _), (10, _), (11, _), (16, _), (17, _), (18, _)]) (S' := (⟨b11, 26, 3, [_, _, _]⟩ :: ⟨b10, 26, 3, [_, _, _]⟩ :: ⟨b9, 35, 5, [_, _, _, _, _]⟩ :: ⟨br, 23, 1, [_]⟩ :: ⟨bc, 30, 1, [_]⟩ :: ⟨b6, 26, 3, [_, _, _]⟩ :: ⟨b4, 26, 3, [_, _, _]⟩ :: Sh)) rfl rfl ⟨lk, lk, lk, lk, lk, lk, lk, lk, lk, lk, trivial⟩) ?_
  refine OD.nil ?_
  refine sr_ ?_
  refine os_ (fa_ 0) ?_
  refine os_ (lb_ 2) ?_
  refine OD.callP (wants_plain rfl) rfl rfl rfl Tryz.call27 (works_vp ops[i].k) ⟨ot, trivial⟩ ?_
  refine os_ mv_ ?_
  refine OD.wk (Wk.as_ (n := 64) (l' := [(1, _), (4, _), (6, _), (7, _), (9, _), (10, _), (11, _), (12, _), (16, _), (17, _), (18, _)]) (S' := (⟨b11, 26, 3, [_, _, _]⟩ :: ⟨b10, 26, 3, [_, _, _]⟩ :: ⟨b9, 35, 5, [_, _, _, _, _]⟩ :: ⟨br, 23, 1, [_]⟩ :: ⟨bc, 30, 1, [_]⟩ :: ⟨b6, 26, 3, [_, _, _]⟩ :: ⟨b4, 26, 3, [_, _, _]⟩ :: Sh)) rfl rfl ⟨lk, lk, lk, lk, lk, lk, lk, lk, lk, lk, lk, trivial⟩) ?_
  refine OD.nil ?_
  refine sr_ ?_
  refine os_ mv_ ?_
  refine os_ ln_ ?_
  refine os_ mv_ ?_
  refine os_ bn_ ?_
  refine os_ mv_ ?_
  refine nm_ [1, 4, 6, 7, 9, 10, 11, 12, 13, 16, 17, 18] ?_
  refine CD.seq ?_
  refine sr_ ?_
  refine os_ mv_ ?_
  refine os_ bn_ ?_
  refine nm_ [1, 4, 6, 7, 9, 10, 11, 12, 13, 16, 17, 18, 30] ?_
  refine CD.cond ot (fun hc1 => ?_) (fun hc1 => ?_)
  ·have hc1' := hc1
   (try simp only [V.cnd, ne_eq] at hc1')
   obtain ⟨bh, rfl, hhle, hhcap, rfl⟩ := hoh.pos (by omega)
   have hat : (st.length - (popsF ops[i].k).toNat) < st.length := by omega
   have ha : argA noVl ops[i].k st = st[(st.length - (popsF ops[i].k).toNat)] := by unfold argA; rw [if_pos (by omega), List.getD_eq_getElem?_getD, List.getElem?_eq_getElem hat]; rfl
   refine CD.region ?_
   refine os_ mv_ ?_
   refine os_ mv_ ?_
   refine os_ (ix_ 3 (h := by first | exact .l (j := (st.length - (popsF ops[i].k).toNat)) (by omega) (by omega) | exact .r (j := (st.length - (popsF ops[i].k).toNat)) (by omega) (by omega))) ?_
   refine OD.still (wants_plain rfl) rfl (still_r1 (mk := Op.load 26) rfl ot (ld_rows (k := 7) cV_len rfl rfl rfl Tryz.isAgg26 Tryz.sizeOf26 hat)) ?_
   refine OD.store (k := 1) (cs' := [_, _, _]) (wants_plain rfl) rfl rfl ot rfl rfl ot rfl rfl Tryz.sizeOf26 rfl rfl rfl ?_
   refine OD.wk (Wk.as_ (n := 64) (l' := [(1, _), (4, _), (6, _), (7, _), (9, _), (10, _), (11, _), (12, _), (13, _), (16, _), (17, _), (18, _)]) (S' := (⟨b11, 26, 3, [_, _, _]⟩ :: ⟨b10, 26, 3, [_, _, _]⟩ :: ⟨b9, 35, 5, [_, _, _, _, _]⟩ :: ⟨br, 23, 1, [_]⟩ :: ⟨bc, 30, 1, [_]⟩ :: ⟨b6, 26, 3, [_, _, _]⟩ :: ⟨b4, 26, 3, [_, _, _]⟩ :: [⟨bh, 26, cph * 3, List.flatMap cV st⟩])) rfl rfl ⟨lk, lk, lk, lk, lk, lk, lk, lk, lk, lk, lk, lk, trivial⟩) ?_
   refine OD.nil ?_
   refine CD.seq ?_
   refine sr_ ?_
   refine os_ mv_ ?_
   refine os_ bn_ ?_
   refine nm_ [1, 4, 6, 7, 9, 10, 11, 13, 16, 17, 18, 36] ?_
   refine CD.cond ot (fun hc2 => ?_) (fun hc2 => ?_)
   ·have hc2' := hc2
    (try simp only [V.cnd, ne_eq] at hc2')
    have hat1 : (st.length - (popsF ops[i].k).toNat) + 1 < st.length := by omega
    have hb : argB noVl ops[i].k st = st[(st.length - (popsF ops[i].k).toNat) + 1] := by unfold argB; rw [if_pos (by omega), List.getD_eq_getElem?_getD, List.getElem?_eq_getElem hat1]; rfl
    refine CD.region ?_
    refine os_ mv_ ?_
    refine os_ mv_ ?_
    refine os_ bn_ ?_
    refine os_ (ix_ 3 (h := by first | exact .l (j := (st.length - (popsF ops[i].k).toNat) + 1) (by omega) (by omega) | exact .r (j := (st.length - (popsF ops[i].k).toNat) + 1) (by omega) (by omega))) ?_
    refine OD.still (wants_plain rfl) rfl (still_r1 (mk := Op.load 26) rfl ot (ld_rows (k := 7) cV_len rfl rfl rfl Tryz.isAgg26 Tryz.sizeOf26 hat1)) ?_
    refine OD.store (k := 0) (cs' := [_, _, _]) (wants_plain rfl) rfl rfl ot rfl rfl ot rfl rfl Tryz.sizeOf26 rfl rfl rfl ?_
    refine OD.wk (Wk.as_ (n := 64) (l' := [(1, _), (4, _), (6, _), (7, _), (9, _), (10, _), (11, _), (13, _), (16, _), (17, _), (18, _)]) (S' := (⟨b11, 26, 3, [_, _, _]⟩ :: ⟨b10, 26, 3, [_, _, _]⟩ :: ⟨b9, 35, 5, [_, _, _, _, _]⟩ :: ⟨br, 23, 1, [_]⟩ :: ⟨bc, 30, 1, [_]⟩ :: ⟨b6, 26, 3, [_, _, _]⟩ :: ⟨b4, 26, 3, [_, _, _]⟩ :: [⟨bh, 26, cph * 3, List.flatMap cV st⟩])) rfl rfl ⟨lk, lk, lk, lk, lk, lk, lk, lk, lk, lk, lk, trivial⟩) ?_
    refine OD.nil ?_
    refine sr_ ?_
    refine os_ mv_ ?_
    refine os_ (lab_ 2 [_, _, _, _, _]) ?_
    refine os_ (lab_ 1 [_, _, _]) ?_
    refine os_ (lab_ 0 [_, _, _]) ?_
    refine OD.callv (f := 26) (args := [_, _, _]) (all := [_, _, _, _, _]) (Sf := [⟨br, 23, 1, [.list 3 (row.flatMap cV) row.length]⟩, ⟨bc, 30, 1, [.list 2 (l.flatMap cC) l.length]⟩]) (wants_plain rfl) rfl rfl ot Tryz.call26 (evalcl_vc l hl row hrl ops[i] (hcol _ (List.getElem_mem hlt)) _ _ (st[(st.length - (popsF ops[i].k).toNat)]) (st[(st.length - (popsF ops[i].k).toNat) + 1]) ha hb (ok_argA hok _) (ok_argB hok _) br bc) rfl ⟨ot, ot, ot, trivial⟩ (perm_two (k := 3) (k' := 3) rfl rfl) ?_
    rintro _ _ ⟨rfl, rfl⟩
    refine os_ mv_ ?_
    refine os_ ex_ ?_
    refine os_ ex_ ?_
    refine OD.alloc (ds := [_, _, _]) (wants_plain rfl) rfl rfl Tryz.zeroValue26 rfl (fun b14 => ?_)
    refine OD.store (k := 0) (cs' := [_, _, _]) (wants_plain rfl) rfl rfl ot rfl rfl ot rfl rfl Tryz.sizeOf26 rfl rfl rfl ?_
    refine os_ mv_ ?_
    refine OD.wk (Wk.as_ (n := 64) (l' := [(1, _), (4, _), (6, _), (7, _), (13, _), (14, _), (15, _), (16, _), (17, _), (18, _)]) (S' := (⟨b14, 26, 3, [_, _, _]⟩ :: ⟨br, 23, 1, [_]⟩ :: ⟨bc, 30, 1, [_]⟩ :: ⟨b11, 26, 3, [_, _, _]⟩ :: ⟨b10, 26, 3, [_, _, _]⟩ :: ⟨b9, 35, 5, [_, _, _, _, _]⟩ :: ⟨b6, 26, 3, [_, _, _]⟩ :: ⟨b4, 26, 3, [_, _, _]⟩ :: [⟨bh, 26, cph * 3, List.flatMap cV st⟩])) rfl rfl ⟨lk, lk, lk, lk, lk, lk, lk, lk, lk, lk, trivial⟩) ?_
    refine OD.nil ?_
    refine CD.seq ?_
    refine sr_ ?_
    refine os_ mv_ ?_
    refine os_ bn_ ?_
    refine nm_ [1, 4, 6, 7, 13, 14, 15, 16, 17, 18, 51] ?_
    refine CD.cond ot (fun hc3 => ?_) (fun hc3 => ?_)
    ·have hc3' := hc3
     (try simp only [V.cnd, ne_eq] at hc3')
     have hz : (evalF l row ops[i] (argA noVl ops[i].k st) (argB noVl ops[i].k st)).2 ≠ 0 := by simpa using hc3
     have hres := hinv.trans (fold_no hlt hz)
     refine sr_ ?_
     refine os_ (lab_ 6 [_, _, _]) ?_
     refine os_ mv_ ?_
     refine OD.store (k := 7) (cs' := [_, _, _]) (wants_plain rfl) rfl rfl ot rfl rfl ot rfl rfl Tryz.sizeOf26 rfl rfl rfl ?_
     refine os_ mv_ ?_
     refine OD.wk (Wk.as_ (n := 64) (l' := [(4, _), (5, _)]) (S' := (⟨b14, 26, 3, [_, _, _]⟩ :: ⟨br, 23, 1, [_]⟩ :: ⟨bc, 30, 1, [_]⟩ :: ⟨b11, 26, 3, [_, _, _]⟩ :: ⟨b10, 26, 3, [_, _, _]⟩ :: ⟨b9, 35, 5, [_, _, _, _, _]⟩ :: ⟨b6, 26, 3, [_, _, _]⟩ :: ⟨b4, 26, 3, [_, _, _]⟩ :: [⟨bh, 26, cph * 3, List.flatMap cV st⟩])) rfl rfl ⟨lk, lk, trivial⟩) ?_
     refine OD.nil ?_
     refine CD.ret ?_
     refine ⟨.inr rfl, _, [⟨br, 23, 1, [.list 3 (row.flatMap cV) row.length]⟩, ⟨bc, 30, 1, [.list 2 (l.flatMap cC) l.length]⟩], (by repeat (first | exact List.Sublist.refl _ | exact List.nil_sublist _ | (apply List.Sublist.cons_cons; apply List.Sublist.cons_cons; exact List.nil_sublist _) | apply List.Sublist.cons)), ret_two Tryz.results25 (res_cells (k := 7) (ds := [_, _, _]) (Nat.le_of_ble_eq_true rfl) lk rfl rfl Tryz.isAgg26 Tryz.sizeOf26 rfl rfl) (res_tmp (Nat.le_of_ble_eq_true rfl) lk), ?_⟩
     rw [hres]; exact ⟨rfl, rfl⟩
    ·have hc3' := hc3
     (try simp only [V.cnd, ne_eq] at hc3')
     have hz : (evalF l row ops[i] (argA noVl ops[i].k st) (argB noVl ops[i].k st)).2 = 0 := by simpa using hc3
     refine CD.skip ?_
     refine CD.cutL (k := (st.length - (popsF ops[i].k).toNat)) (ls := (st)) (Sq := [⟨bh, 26, cph * 3, List.flatMap cV st⟩]) cV_len (by omega) (ownL_row (g := cV) (ls := st) hhle hhcap) (perm_r11 (A := [_, _, _, _, _, _, _, _])) (fun Sc16 hoc16 => ?_)
     refine CD.perm (perm_q11 (A := [_, _, _, _, _, _, _, _])) ?_
     refine CD.draw (bks (List.take 1 _)) (by kernel_rfl) (fun _ h => (List.Sublist.map _ (List.take_sublist _ _)).subset h) ?_
     refine AD0.take (i := 0) rfl (by kernel_rfl) (by kernel_rfl) (by kernel_rfl) (by repeat (first | exact NP.body | apply NP.then | apply NP.cut | apply NP.inBlock | apply NP.round)) (wants_plain rfl) rfl (still_mv rfl ot) (by exact trivial) ?_
     refine AD0.take (i := 1) rfl (by kernel_rfl) (by kernel_rfl) (by kernel_rfl) (by repeat (first | exact NP.body | apply NP.then | apply NP.cut | apply NP.inBlock | apply NP.round)) (wants_plain rfl) rfl (still_mv rfl ot) (by exact trivial) ?_
     first | refine AD0.take (i := 2) rfl (by kernel_rfl) (by kernel_rfl) (by kernel_rfl) (by repeat (first | exact NP.body | apply NP.then | apply NP.cut | apply NP.inBlock | apply NP.round)) (wants_plain rfl) rfl (still_oslice (n := st.length) (k := (List.take (st.length - (popsF ops[i].k).toNat) st).length) (cs := st.flatMap cV) rfl ot rfl ⟨_, _, ot, by rw [List.length_take]; omega⟩ Tryz.runUnderlying23 Tryz.sizeOf26 (by rw [List.length_take]; omega) hoh) (by exact trivial) ?_ | refine AD0.take (i := 2) rfl (by kernel_rfl) (by kernel_rfl) (by kernel_rfl) (by repeat (first | exact NP.body | apply NP.then | apply NP.cut | apply NP.inBlock | apply NP.round)) (wants_plain rfl) rfl (still_oslice (n := st.length) (k := (List.take (st.length - (popsF ops[i].k).toNat) st).length) (cs := st.flatMap cV) rfl ot rfl ⟨_, _, ot, by rw [List.length_take]; omega⟩ Tryz.runUnderlying23 Tryz.sizeOf26 (by rw [List.length_take]; omega) (ownL_row (e := 26) (g := cV) (ls := st) hhle hhcap)) (by exact trivial) ?_
     refine AD0.take (i := 3) rfl (by kernel_rfl) (by kernel_rfl) (by kernel_rfl) (by repeat (first | exact NP.body | apply NP.then | apply NP.cut | apply NP.inBlock | apply NP.round)) (wants_plain rfl) rfl (still_r1 (mk := Op.load 26) rfl ot (by first | exact ld_blks (k := 0) (ds := [_, _, _]) rfl rfl Tryz.isAgg26 Tryz.sizeOf26 rfl rfl | exact ld_fms cO_len Tryz.isAgg26 Tryz.sizeOf26 (by first | assumption | omega) | exact ld_fms cV_len Tryz.isAgg26 Tryz.sizeOf26 (by first | assumption | omega) | exact ld_rows (k := 0) cO_len rfl rfl rfl Tryz.isAgg26 Tryz.sizeOf26 (by first | assumption | omega) | exact ld_rows (k := 1) cO_len rfl rfl rfl Tryz.isAgg26 Tryz.sizeOf26 (by first | assumption | omega) | exact ld_rows (k := 2) cO_len rfl rfl rfl Tryz.isAgg26 Tryz.sizeOf26 (by first | assumption | omega) | exact ld_rows (k := 3) cO_len rfl rfl rfl Tryz.isAgg26 Tryz.sizeOf26 (by first | assumption | omega) | exact ld_rows (k := 4) cO_len rfl rfl rfl Tryz.isAgg26 Tryz.sizeOf26 (by first | assumption | omega) | exact ld_rows (k := 5) cO_len rfl rfl rfl Tryz.isAgg26 Tryz.sizeOf26 (by first | assumption | omega) | exact ld_rows (k := 6) cO_len rfl rfl rfl Tryz.isAgg26 Tryz.sizeOf26 (by first | assumption | omega) | exact ld_rows (k := 7) cO_len rfl rfl rfl Tryz.isAgg26 Tryz.sizeOf26 (by first | assumption | omega) | exact ld_rows (k := 0) cV_len rfl rfl rfl Tryz.isAgg26 Tryz.sizeOf26 (by first | assumption | omega) | exact ld_rows (k := 1) cV_len rfl rfl rfl Tryz.isAgg26 Tryz.sizeOf26 (by first | assumption | omega) | exact ld_rows (k := 2) cV_len rfl rfl rfl Tryz.isAgg26 Tryz.sizeOf26 (by first | assumption | omega) | exact ld_rows (k := 3) cV_len rfl rfl rfl Tryz.isAgg26 Tryz.sizeOf26 (by first | assumption | omega) | exact ld_rows (k := 4) cV_len rfl rfl rfl Tryz.isAgg26 Tryz.sizeOf26 (by first | assumption | omega) | exact ld_rows (k := 5) cV_len rfl rfl rfl Tryz.isAgg26 Tryz.sizeOf26 (by first | assumption | omega) | exact ld_rows (k := 6) cV_len rfl rfl rfl Tryz.isAgg26 Tryz.sizeOf26 (by first | assumption | omega) | exact ld_rows (k := 7) cV_len rfl rfl rfl Tryz.isAgg26 Tryz.sizeOf26 (by first | assumption | omega) | exact ld_is (ds := [_, _, _]) Tryz.isAgg26 Tryz.sizeOf26 rfl rfl)) (by first | exact trivial | exact safe_blk (k0 := 0) rfl rfl) ?_
     refine AD0.later rfl ?_
     refine AD.one (i := 4) (by kernel_rfl) ?_
     refine AStep.bldS (pl := numD 0 [_]) (zvs := [.int .i64 0, .int .i64 0, .string ⟨#[]⟩]) (ds := [_, _, _]) rfl (wants_plain rfl) rfl rfl Tryz.zeroValue26 Tryz.runUnderlying23 Tryz.sizeOf26 rfl rfl (by kernel_rfl) ⟨rfl, ot, trivial⟩ (by exact rfl) (fill_full (by exact rfl) (by exact rfl) (by exact rfl)) (fun b58 => ?_)
     refine AD.give (k := 0) (t := 58) (sz := 3) (m := 1) rfl lk rfl rfl rfl (Nat.le_refl _) (by decide) ?_
     refine AD.one (i := 5) (by kernel_rfl) ?_
     refine AStep.appendG (ls := (List.take (st.length - (popsF ops[i].k).toNat) (st))) (new := [(evalF l row ops[i] (argA noVl ops[i].k st) (argB noVl ops[i].k st)).1]) (Sq := Sc16) cV_len cV_one rfl (wants_plain rfl) rfl rfl Tryz.underlying23 info26_Ex3 rfl (by decide) ot hoc16 (perm_r11 (A := [_, _, _, _, _, _, _, _])) ot (by simp) (by simp [maxLen]; omega) (by simp; omega) (fun b59 cp59 h159 h259 => ?_)
     refine AD.perm (perm_q11 (S1 := [⟨b59, 26, cp59 * 3, List.flatMap cV ((List.take (st.length - (popsF ops[i].k).toNat) (st)) ++ [(evalF l row ops[i] (argA noVl ops[i].k st) (argB noVl ops[i].k st)).1])⟩]) (A := [_, _, _, _, _, _, _, _])) ?_
     refine AD.take (i := 6) rfl (by kernel_rfl) (by kernel_rfl) (by kernel_rfl) (by repeat (first | exact NP.body | apply NP.then | apply NP.cut | apply NP.inBlock | apply NP.round)) (wants_plain rfl) rfl (still_as rfl ot) (by exact trivial) (by intro h; cases h) ?_
     refine AD.wk (y := ⟨64, [(1, _), (4, _), (6, _), (7, _), (16, _), (17, _), (18, _)], (⟨b14, 26, 3, [_, _, _]⟩ :: ⟨br, 23, 1, [_]⟩ :: ⟨bc, 30, 1, [_]⟩ :: ⟨b11, 26, 3, [_, _, _]⟩ :: ⟨b10, 26, 3, [_, _, _]⟩ :: ⟨b9, 35, 5, [_, _, _, _, _]⟩ :: ⟨b6, 26, 3, [_, _, _]⟩ :: ⟨b4, 26, 3, [_, _, _]⟩ :: [⟨b59, 26, cp59 * 3, List.flatMap cV ((List.take (st.length - (popsF ops[i].k).toNat) (st)) ++ [(evalF l row ops[i] (argA noVl ops[i].k st) (argB noVl ops[i].k st)).1])⟩])⟩) (Wk.as_ rfl rfl ⟨lk, lk, lk, lk, lk, lk, lk, trivial⟩) rfl ?_
     refine AD.done (by kernel_rfl) ?_
     refine CD.region ?_
     refine os_ bn_ ?_
     refine os_ mv_ ?_
     refine nm_ [1, 4, 6, 7, 16, 17, 18] ?_
     refine ⟨((i + 1), (st.take (st.length - (popsF ops[i].k).toNat) ++ [(evalF l row ops[i] (argA noVl ops[i].k st) (argB noVl ops[i].k st)).1]), (some ⟨b59, 0, none⟩), cp59, [⟨b59, 26, cp59 * 3, List.flatMap cV ((List.take (st.length - (popsF ops[i].k).toNat) (st)) ++ [(evalF l row ops[i] (argA noVl ops[i].k st) (argB noVl ops[i].k st)).1])⟩]), ⟨64, [(1, .clo (.func 26) [.v (.pointer (some ⟨br, 0, none⟩)), .v (.pointer (some ⟨bc, 0, none⟩))]), (4, .v (.pointer (some ⟨b4, 0, none⟩))), (6, .v (.pointer (some ⟨b6, 0, none⟩))), (7, .v (.slice ((some ⟨b59, 0, none⟩)) (((st.take (st.length - (popsF ops[i].k).toNat) ++ [(evalF l row ops[i] (argA noVl ops[i].k st) (argB noVl ops[i].k st)).1]))).length cp59)), (16, .list 5 (ops.flatMap cO) ops.length), (17, .v (.int .i64 (ops.length : Nat))), (18, .v (.int .i64 (((i + 1)) : Nat)))], (⟨br, 23, 1, [.list 3 (row.flatMap cV) row.length]⟩ :: ⟨bc, 30, 1, [.list 2 (l.flatMap cC) l.length]⟩ :: ⟨b6, 26, 3, [.v (.int .i64 0), .v (.int .i64 0), .v (.string ⟨#[]⟩)]⟩ :: ⟨b4, 26, 3, [.v (.int .i64 0), .v (.int .i64 0), .v (.string ⟨#[]⟩)]⟩ :: ([⟨b59, 26, cp59 * 3, List.flatMap cV ((List.take (st.length - (popsF ops[i].k).toNat) (st)) ++ [(evalF l row ops[i] (argA noVl ops[i].k st) (argB noVl ops[i].k st)).1])⟩]))⟩, ?_, Wk.asS (n := 64) rfl (by first | exact List.Sublist.refl _ | (repeat (first | exact List.Sublist.refl _ | apply List.Sublist.cons_cons | apply List.Sublist.cons))) ⟨(by (repeat (first | exact look_hit | (apply look_at; focus (first | rfl | (simp; done) | (congr 2; omega) | (apply row_eq; rfl) | (apply row_eq; simp; done))) | (apply look_miss; focus rfl))); done), (by (repeat (first | exact look_hit | (apply look_at; focus (first | rfl | (simp; done) | (congr 2; omega) | (apply row_eq; rfl) | (apply row_eq; simp; done))) | (apply look_miss; focus rfl))); done), (by (repeat (first | exact look_hit | (apply look_at; focus (first | rfl | (simp; done) | (congr 2; omega) | (apply row_eq; rfl) | (apply row_eq; simp; done))) | (apply look_miss; focus rfl))); done), (by (repeat (first | exact look_hit | (apply look_at; focus (first | rfl | (simp; done) | (congr 2; omega) | (apply row_eq; rfl) | (apply row_eq; simp; done))) | (apply look_miss; focus rfl))); done), (by (repeat (first | exact look_hit | (apply look_at; focus (first | rfl | (simp; done) | (congr 2; omega) | (apply row_eq; rfl) | (apply row_eq; simp; done))) | (apply look_miss; focus rfl))); done), (by (repeat (first | exact look_hit | (apply look_at; focus (first | rfl | (simp; done) | (congr 2; omega) | (apply row_eq; rfl) | (apply row_eq; simp; done))) | (apply look_miss; focus rfl))); done), (by (repeat (first | exact look_hit | (apply look_at; focus (first | rfl | (simp; done) | (congr 2; omega) | (apply row_eq; rfl) | (apply row_eq; simp; done))) | (apply look_miss; focus rfl))); done), trivial⟩, (by omega), (by rw [hnl]; omega), hnx, (hinv.trans (fold_go hlt hz)), hnok, (OwnL.cast (ownL_row h159 h259) (by rfl)), rfl⟩
     first | omega | (simp only []; omega)
   ·have hc2' := hc2
    (try simp only [V.cnd, ne_eq] at hc2')
    have hb : argB noVl ops[i].k st = noVl := by unfold argB; rw [if_neg (by omega)]
    refine CD.skip ?_
    refine sr_ ?_
    refine os_ mv_ ?_
    refine os_ (lab_ 2 [_, _, _, _, _]) ?_
    refine os_ (lab_ 1 [_, _, _]) ?_
    refine os_ (lab_ 0 [_, _, _]) ?_
    refine OD.callv (f := 26) (args := [_, _, _]) (all := [_, _, _, _, _]) (Sf := [⟨br, 23, 1, [.list 3 (row.flatMap cV) row.length]⟩, ⟨bc, 30, 1, [.list 2 (l.flatMap cC) l.length]⟩]) (wants_plain rfl) rfl rfl ot Tryz.call26 (evalcl_vc l hl row hrl ops[i] (hcol _ (List.getElem_mem hlt)) _ _ (st[(st.length - (popsF ops[i].k).toNat)]) (noVl) ha hb (ok_argA hok _) (ok_argB hok _) br bc) rfl ⟨ot, ot, ot, trivial⟩ (perm_two (k := 3) (k' := 3) rfl rfl) ?_
    rintro _ _ ⟨rfl, rfl⟩
    refine os_ mv_ ?_
    refine os_ ex_ ?_
    refine os_ ex_ ?_
    refine OD.alloc (ds := [_, _, _]) (wants_plain rfl) rfl rfl Tryz.zeroValue26 rfl (fun b14 => ?_)
    refine OD.store (k := 0) (cs' := [_, _, _]) (wants_plain rfl) rfl rfl ot rfl rfl ot rfl rfl Tryz.sizeOf26 rfl rfl rfl ?_
    refine os_ mv_ ?_
    refine OD.wk (Wk.as_ (n := 64) (l' := [(1, _), (4, _), (6, _), (7, _), (13, _), (14, _), (15, _), (16, _), (17, _), (18, _)]) (S' := (⟨b14, 26, 3, [_, _, _]⟩ :: ⟨br, 23, 1, [_]⟩ :: ⟨bc, 30, 1, [_]⟩ :: ⟨b11, 26, 3, [_, _, _]⟩ :: ⟨b10, 26, 3, [_, _, _]⟩ :: ⟨b9, 35, 5, [_, _, _, _, _]⟩ :: ⟨b6, 26, 3, [_, _, _]⟩ :: ⟨b4, 26, 3, [_, _, _]⟩ :: [⟨bh, 26, cph * 3, List.flatMap cV st⟩])) rfl rfl ⟨lk, lk, lk, lk, lk, lk, lk, lk, lk, lk, trivial⟩) ?_
    refine OD.nil ?_
    refine CD.seq ?_
    refine sr_ ?_
    refine os_ mv_ ?_
    refine os_ bn_ ?_
    refine nm_ [1, 4, 6, 7, 13, 14, 15, 16, 17, 18, 51] ?_
    refine CD.cond ot (fun hc3 => ?_) (fun hc3 => ?_)
    ·have hc3' := hc3
     (try simp only [V.cnd, ne_eq] at hc3')
     have hz : (evalF l row ops[i] (argA noVl ops[i].k st) (argB noVl ops[i].k st)).2 ≠ 0 := by simpa using hc3
     have hres := hinv.trans (fold_no hlt hz)
     refine sr_ ?_
     refine os_ (lab_ 6 [_, _, _]) ?_
     refine os_ mv_ ?_
     refine OD.store (k := 7) (cs' := [_, _, _]) (wants_plain rfl) rfl rfl ot rfl rfl ot rfl rfl Tryz.sizeOf26 rfl rfl rfl ?_
     refine os_ mv_ ?_
     refine OD.wk (Wk.as_ (n := 64) (l' := [(4, _), (5, _)]) (S' := (⟨b14, 26, 3, [_, _, _]⟩ :: ⟨br, 23, 1, [_]⟩ :: ⟨bc, 30, 1, [_]⟩ :: ⟨b11, 26, 3, [_, _, _]⟩ :: ⟨b10, 26, 3, [_, _, _]⟩ :: ⟨b9, 35, 5, [_, _, _, _, _]⟩ :: ⟨b6, 26, 3, [_, _, _]⟩ :: ⟨b4, 26, 3, [_, _, _]⟩ :: [⟨bh, 26, cph * 3, List.flatMap cV st⟩])) rfl rfl ⟨lk, lk, trivial⟩) ?_
     refine OD.nil ?_
     refine CD.ret ?_
     refine ⟨.inr rfl, _, [⟨br, 23, 1, [.list 3 (row.flatMap cV) row.length]⟩, ⟨bc, 30, 1, [.list 2 (l.flatMap cC) l.length]⟩], (by repeat (first | exact List.Sublist.refl _ | exact List.nil_sublist _ | (apply List.Sublist.cons_cons; apply List.Sublist.cons_cons; exact List.nil_sublist _) | apply List.Sublist.cons)), ret_two Tryz.results25 (res_cells (k := 7) (ds := [_, _, _]) (Nat.le_of_ble_eq_true rfl) lk rfl rfl Tryz.isAgg26 Tryz.sizeOf26 rfl rfl) (res_tmp (Nat.le_of_ble_eq_true rfl) lk), ?_⟩
     rw [hres]; exact ⟨rfl, rfl⟩
    ·have hc3' := hc3
     (try simp only [V.cnd, ne_eq] at hc3')
     have hz : (evalF l row ops[i] (argA noVl ops[i].k st) (argB noVl ops[i].k st)).2 = 0 := by simpa using hc3
     refine CD.skip ?_
     refine CD.cutL (k := (st.length - (popsF ops[i].k).toNat)) (ls := (st)) (Sq := [⟨bh, 26, cph * 3, List.flatMap cV st⟩]) cV_len (by omega) (ownL_row (g := cV) (ls := st) hhle hhcap) (perm_r11 (A := [_, _, _, _, _, _, _, _])) (fun Sc16 hoc16 => ?_)
     refine CD.perm (perm_q11 (A := [_, _, _, _, _, _, _, _])) ?_
     refine CD.draw (bks (List.take 1 _)) (by kernel_rfl) (fun _ h => (List.Sublist.map _ (List.take_sublist _ _)).subset h) ?_
     refine AD0.take (i := 0) rfl (by kernel_rfl) (by kernel_rfl) (by kernel_rfl) (by repeat (first | exact NP.body | apply NP.then | apply NP.cut | apply NP.inBlock | apply NP.round)) (wants_plain rfl) rfl (still_mv rfl ot) (by exact trivial) ?_
     refine AD0.take (i := 1) rfl (by kernel_rfl) (by kernel_rfl) (by kernel_rfl) (by repeat (first | exact NP.body | apply NP.then | apply NP.cut | apply NP.inBlock | apply NP.round)) (wants_plain rfl) rfl (still_mv rfl ot) (by exact trivial) ?_
     first | refine AD0.take (i := 2) rfl (by kernel_rfl) (by kernel_rfl) (by kernel_rfl) (by repeat (first | exact NP.body | apply NP.then | apply NP.cut | apply NP.inBlock | apply NP.round)) (wants_plain rfl) rfl (still_oslice (n := st.length) (k := (List.take (st.length - (popsF ops[i].k).toNat) st).length) (cs := st.flatMap cV) rfl ot rfl ⟨_, _, ot, by rw [List.length_take]; omega⟩ Tryz.runUnderlying23 Tryz.sizeOf26 (by rw [List.length_take]; omega) hoh) (by exact trivial) ?_ | refine AD0.take (i := 2) rfl (by kernel_rfl) (by kernel_rfl) (by kernel_rfl) (by repeat (first | exact NP.body | apply NP.then | apply NP.cut | apply NP.inBlock | apply NP.round)) (wants_plain rfl) rfl (still_oslice (n := st.length) (k := (List.take (st.length - (popsF ops[i].k).toNat) st).length) (cs := st.flatMap cV) rfl ot rfl ⟨_, _, ot, by rw [List.length_take]; omega⟩ Tryz.runUnderlying23 Tryz.sizeOf26 (by rw [List.length_take]; omega) (ownL_row (e := 26) (g := cV) (ls := st) hhle hhcap)) (by exact trivial) ?_
     refine AD0.take (i := 3) rfl (by kernel_rfl) (by kernel_rfl) (by kernel_rfl) (by repeat (first | exact NP.body | apply NP.then | apply NP.cut | apply NP.inBlock | apply NP.round)) (wants_plain rfl) rfl (still_r1 (mk := Op.load 26) rfl ot (by first | exact ld_blks (k := 0) (ds := [_, _, _]) rfl rfl Tryz.isAgg26 Tryz.sizeOf26 rfl rfl | exact ld_fms cO_len Tryz.isAgg26 Tryz.sizeOf26 (by first | assumption | omega) | exact ld_fms cV_len Tryz.isAgg26 Tryz.sizeOf26 (by first | assumption | omega) | exact ld_rows (k := 0) cO_len rfl rfl rfl Tryz.isAgg26 Tryz.sizeOf26 (by first | assumption | omega) | exact ld_rows (k := 1) cO_len rfl rfl rfl Tryz.isAgg26 Tryz.sizeOf26 (by first | assumption | omega) | exact ld_rows (k := 2) cO_len rfl rfl rfl Tryz.isAgg26 Tryz.sizeOf26 (by first | assumption | omega) | exact ld_rows (k := 3) cO_len rfl rfl rfl Tryz.isAgg26 Tryz.sizeOf26 (by first | assumption | omega) | exact ld_rows (k := 4) cO_len rfl rfl rfl Tryz.isAgg26 Tryz.sizeOf26 (by first | assumption | omega) | exact ld_rows (k := 5) cO_len rfl rfl rfl Tryz.isAgg26 Tryz.sizeOf26 (by first | assumption | omega) | exact ld_rows (k := 6) cO_len rfl rfl rfl Tryz.isAgg26 Tryz.sizeOf26 (by first | assumption | omega) | exact ld_rows (k := 7) cO_len rfl rfl rfl Tryz.isAgg26 Tryz.sizeOf26 (by first | assumption | omega) | exact ld_rows (k := 0) cV_len rfl rfl rfl Tryz.isAgg26 Tryz.sizeOf26 (by first | assumption | omega) | exact ld_rows (k := 1) cV_len rfl rfl rfl Tryz.isAgg26 Tryz.sizeOf26 (by first | assumption | omega) | exact ld_rows (k := 2) cV_len rfl rfl rfl Tryz.isAgg26 Tryz.sizeOf26 (by first | assumption | omega) | exact ld_rows (k := 3) cV_len rfl rfl rfl Tryz.isAgg26 Tryz.sizeOf26 (by first | assumption | omega) | exact ld_rows (k := 4) cV_len rfl rfl rfl Tryz.isAgg26 Tryz.sizeOf26 (by first | assumption | omega) | exact ld_rows (k := 5) cV_len rfl rfl rfl Tryz.isAgg26 Tryz.sizeOf26 (by first | assumption | omega) | exact ld_rows (k := 6) cV_len rfl rfl rfl Tryz.isAgg26 Tryz.sizeOf26 (by first | assumption | omega) | exact ld_rows (k := 7) cV_len rfl rfl rfl Tryz.isAgg26 Tryz.sizeOf26 (by first | assumption | omega) | exact ld_is (ds := [_, _, _]) Tryz.isAgg26 Tryz.sizeOf26 rfl rfl)) (by first | exact trivial | exact safe_blk (k0 := 0) rfl rfl) ?_
     refine AD0.later rfl ?_
     refine AD.one (i := 4) (by kernel_rfl) ?_
     refine AStep.bldS (pl := numD 0 [_]) (zvs := [.int .i64 0, .int .i64 0, .string ⟨#[]⟩]) (ds := [_, _, _]) rfl (wants_plain rfl) rfl rfl Tryz.zeroValue26 Tryz.runUnderlying23 Tryz.sizeOf26 rfl rfl (by kernel_rfl) ⟨rfl, ot, trivial⟩ (by exact rfl) (fill_full (by exact rfl) (by exact rfl) (by exact rfl)) (fun b58 => ?_)
     refine AD.give (k := 0) (t := 58) (sz := 3) (m := 1) rfl lk rfl rfl rfl (Nat.le_refl _) (by decide) ?_
     refine AD.one (i := 5) (by kernel_rfl) ?_
     refine AStep.appendG (ls := (List.take (st.length - (popsF ops[i].k).toNat) (st))) (new := [(evalF l row ops[i] (argA noVl ops[i].k st) (argB noVl ops[i].k st)).1]) (Sq := Sc16) cV_len cV_one rfl (wants_plain rfl) rfl rfl Tryz.underlying23 info26_Ex3 rfl (by decide) ot hoc16 (perm_r11 (A := [_, _, _, _, _, _, _, _])) ot (by simp) (by simp [maxLen]; omega) (by simp; omega) (fun b59 cp59 h159 h259 => ?_)
     refine AD.perm (perm_q11 (S1 := [⟨b59, 26, cp59 * 3, List.flatMap cV ((List.take (st.length - (popsF ops[i].k).toNat) (st)) ++ [(evalF l row ops[i] (argA noVl ops[i].k st) (argB noVl ops[i].k st)).1])⟩]) (A := [_, _, _, _, _, _, _, _])) ?_
     refine AD.take (i := 6) rfl (by kernel_rfl) (by kernel_rfl) (by kernel_rfl) (by repeat (first | exact NP.body | apply NP.then | apply NP.cut | apply NP.inBlock | apply NP.round)) (wants_plain rfl) rfl (still_as rfl ot) (by exact trivial) (by intro h; cases h) ?_
     refine AD.wk (y := ⟨64, [(1, _), (4, _), (6, _), (7, _), (16, _), (17, _), (18, _)], (⟨b14, 26, 3, [_, _, _]⟩ :: ⟨br, 23, 1, [_]⟩ :: ⟨bc, 30, 1, [_]⟩ :: ⟨b11, 26, 3, [_, _, _]⟩ :: ⟨b10, 26, 3, [_, _, _]⟩ :: ⟨b9, 35, 5, [_, _, _, _, _]⟩ :: ⟨b6, 26, 3, [_, _, _]⟩ :: ⟨b4, 26, 3, [_, _, _]⟩ :: [⟨b59, 26, cp59 * 3, List.flatMap cV ((List.take (st.length - (popsF ops[i].k).toNat) (st)) ++ [(evalF l row ops[i] (argA noVl ops[i].k st) (argB noVl ops[i].k st)).1])⟩])⟩) (Wk.as_ rfl rfl ⟨lk, lk, lk, lk, lk, lk, lk, trivial⟩) rfl ?_
     refine AD.done (by kernel_rfl) ?_
     refine CD.region ?_
     refine os_ bn_ ?_
     refine os_ mv_ ?_
     refine nm_ [1, 4, 6, 7, 16, 17, 18] ?_
     refine ⟨((i + 1), (st.take (st.length - (popsF ops[i].k).toNat) ++ [(evalF l row ops[i] (argA noVl ops[i].k st) (argB noVl ops[i].k st)).1]), (some ⟨b59, 0, none⟩), cp59, [⟨b59, 26, cp59 * 3, List.flatMap cV ((List.take (st.length - (popsF ops[i].k).toNat) (st)) ++ [(evalF l row ops[i] (argA noVl ops[i].k st) (argB noVl ops[i].k st)).1])⟩]), ⟨64, [(1, .clo (.func 26) [.v (.pointer (some ⟨br, 0, none⟩)), .v (.pointer (some ⟨bc, 0, none⟩))]), (4, .v (.pointer (some ⟨b4, 0, none⟩))), (6, .v (.pointer (some ⟨b6, 0, none⟩))), (7, .v (.slice ((some ⟨b59, 0, none⟩)) (((st.take (st.length - (popsF ops[i].k).toNat) ++ [(evalF l row ops[i] (argA noVl ops[i].k st) (argB noVl ops[i].k st)).1]))).length cp59)), (16, .list 5 (ops.flatMap cO) ops.length), (17, .v (.int .i64 (ops.length : Nat))), (18, .v (.int .i64 (((i + 1)) : Nat)))], (⟨br, 23, 1, [.list 3 (row.flatMap cV) row.length]⟩ :: ⟨bc, 30, 1, [.list 2 (l.flatMap cC) l.length]⟩ :: ⟨b6, 26, 3, [.v (.int .i64 0), .v (.int .i64 0), .v (.string ⟨#[]⟩)]⟩ :: ⟨b4, 26, 3, [.v (.int .i64 0), .v (.int .i64 0), .v (.string ⟨#[]⟩)]⟩ :: ([⟨b59, 26, cp59 * 3, List.flatMap cV ((List.take (st.length - (popsF ops[i].k).toNat) (st)) ++ [(evalF l row ops[i] (argA noVl ops[i].k st) (argB noVl ops[i].k st)).1])⟩]))⟩, ?_, Wk.asS (n := 64) rfl (by first | exact List.Sublist.refl _ | (repeat (first | exact List.Sublist.refl _ | apply List.Sublist.cons_cons | apply List.Sublist.cons))) ⟨(by (repeat (first | exact look_hit | (apply look_at; focus (first | rfl | (simp; done) | (congr 2; omega) | (apply row_eq; rfl) | (apply row_eq; simp; done))) | (apply look_miss; focus rfl))); done), (by (repeat (first | exact look_hit | (apply look_at; focus (first | rfl | (simp; done) | (congr 2; omega) | (apply row_eq; rfl) | (apply row_eq; simp; done))) | (apply look_miss; focus rfl))); done), (by (repeat (first | exact look_hit | (apply look_at; focus (first | rfl | (simp; done) | (congr 2; omega) | (apply row_eq; rfl) | (apply row_eq; simp; done))) | (apply look_miss; focus rfl))); done), (by (repeat (first | exact look_hit | (apply look_at; focus (first | rfl | (simp; done) | (congr 2; omega) | (apply row_eq; rfl) | (apply row_eq; simp; done))) | (apply look_miss; focus rfl))); done), (by (repeat (first | exact look_hit | (apply look_at; focus (first | rfl | (simp; done) | (congr 2; omega) | (apply row_eq; rfl) | (apply row_eq; simp; done))) | (apply look_miss; focus rfl))); done), (by (repeat (first | exact look_hit | (apply look_at; focus (first | rfl | (simp; done) | (congr 2; omega) | (apply row_eq; rfl) | (apply row_eq; simp; done))) | (apply look_miss; focus rfl))); done), (by (repeat (first | exact look_hit | (apply look_at; focus (first | rfl | (simp; done) | (congr 2; omega) | (apply row_eq; rfl) | (apply row_eq; simp; done))) | (apply look_miss; focus rfl))); done), trivial⟩, (by omega), (by rw [hnl]; omega), hnx, (hinv.trans (fold_go hlt hz)), hnok, (OwnL.cast (ownL_row h159 h259) (by rfl)), rfl⟩
     first | omega | (simp only []; omega)
  ·have hc1' := hc1
   (try simp only [V.cnd, ne_eq] at hc1')
   have ha : argA noVl ops[i].k st = noVl := by unfold argA; rw [if_neg (by omega)]
   refine CD.skip ?_
   refine CD.seq ?_
   refine sr_ ?_
   refine os_ mv_ ?_
   refine os_ bn_ ?_
   refine nm_ [1, 4, 6, 7, 9, 10, 11, 13, 16, 17, 18, 36] ?_
   refine CD.cond ot (fun hc2 => ?_) (fun hc2 => ?_)
   ·exact absurd hc2 (by simp at *; omega)
   ·have hc2' := hc2
    (try simp only [V.cnd, ne_eq] at hc2')
    have hb : argB noVl ops[i].k st = noVl := by unfold argB; rw [if_neg (by omega)]
    refine CD.skip ?_
    refine sr_ ?_
    refine os_ mv_ ?_
    refine os_ (lab_ 2 [_, _, _, _, _]) ?_
    refine os_ (lab_ 1 [_, _, _]) ?_
    refine os_ (lab_ 0 [_, _, _]) ?_
    refine OD.callv (f := 26) (args := [_, _, _]) (all := [_, _, _, _, _]) (Sf := [⟨br, 23, 1, [.list 3 (row.flatMap cV) row.length]⟩, ⟨bc, 30, 1, [.list 2 (l.flatMap cC) l.length]⟩]) (wants_plain rfl) rfl rfl ot Tryz.call26 (evalcl_vc l hl row hrl ops[i] (hcol _ (List.getElem_mem hlt)) _ _ (noVl) (noVl) ha hb (ok_argA hok _) (ok_argB hok _) br bc) rfl ⟨ot, ot, ot, trivial⟩ (perm_two (k := 3) (k' := 3) rfl rfl) ?_
    rintro _ _ ⟨rfl, rfl⟩
    refine os_ mv_ ?_
    refine os_ ex_ ?_
    refine os_ ex_ ?_
    refine OD.alloc (ds := [_, _, _]) (wants_plain rfl) rfl rfl Tryz.zeroValue26 rfl (fun b14 => ?_)
    refine OD.store (k := 0) (cs' := [_, _, _]) (wants_plain rfl) rfl rfl ot rfl rfl ot rfl rfl Tryz.sizeOf26 rfl rfl rfl ?_
    refine os_ mv_ ?_
    refine OD.wk (Wk.as_ (n := 64) (l' := [(1, _), (4, _), (6, _), (7, _), (13, _), (14, _), (15, _), (16, _), (17, _), (18, _)]) (S' := (⟨b14, 26, 3, [_, _, _]⟩ :: ⟨br, 23, 1, [_]⟩ :: ⟨bc, 30, 1, [_]⟩ :: ⟨b11, 26, 3, [_, _, _]⟩ :: ⟨b10, 26, 3, [_, _, _]⟩ :: ⟨b9, 35, 5, [_, _, _, _, _]⟩ :: ⟨b6, 26, 3, [_, _, _]⟩ :: ⟨b4, 26, 3, [_, _, _]⟩ :: Sh)) rfl rfl ⟨lk, lk, lk, lk, lk, lk, lk, lk, lk, lk, trivial⟩) ?_
    refine OD.nil ?_
    refine CD.seq ?_
    refine sr_ ?_
    refine os_ mv_ ?_
    refine os_ bn_ ?_
    refine nm_ [1, 4, 6, 7, 13, 14, 15, 16, 17, 18, 51] ?_
    refine CD.cond ot (fun hc3 => ?_) (fun hc3 => ?_)
    ·have hc3' := hc3
     (try simp only [V.cnd, ne_eq] at hc3')
     have hz : (evalF l row ops[i] (argA noVl ops[i].k st) (argB noVl ops[i].k st)).2 ≠ 0 := by simpa using hc3
     have hres := hinv.trans (fold_no hlt hz)
     refine sr_ ?_
     refine os_ (lab_ 6 [_, _, _]) ?_
     refine os_ mv_ ?_
     refine OD.store (k := 7) (cs' := [_, _, _]) (wants_plain rfl) rfl rfl ot rfl rfl ot rfl rfl Tryz.sizeOf26 rfl rfl rfl ?_
     refine os_ mv_ ?_
     refine OD.wk (Wk.as_ (n := 64) (l' := [(4, _), (5, _)]) (S' := (⟨b14, 26, 3, [_, _, _]⟩ :: ⟨br, 23, 1, [_]⟩ :: ⟨bc, 30, 1, [_]⟩ :: ⟨b11, 26, 3, [_, _, _]⟩ :: ⟨b10, 26, 3, [_, _, _]⟩ :: ⟨b9, 35, 5, [_, _, _, _, _]⟩ :: ⟨b6, 26, 3, [_, _, _]⟩ :: ⟨b4, 26, 3, [_, _, _]⟩ :: Sh)) rfl rfl ⟨lk, lk, trivial⟩) ?_
     refine OD.nil ?_
     refine CD.ret ?_
     refine ⟨.inr rfl, _, [⟨br, 23, 1, [.list 3 (row.flatMap cV) row.length]⟩, ⟨bc, 30, 1, [.list 2 (l.flatMap cC) l.length]⟩], (by repeat (first | exact List.Sublist.refl _ | exact List.nil_sublist _ | (apply List.Sublist.cons_cons; apply List.Sublist.cons_cons; exact List.nil_sublist _) | apply List.Sublist.cons)), ret_two Tryz.results25 (res_cells (k := 7) (ds := [_, _, _]) (Nat.le_of_ble_eq_true rfl) lk rfl rfl Tryz.isAgg26 Tryz.sizeOf26 rfl rfl) (res_tmp (Nat.le_of_ble_eq_true rfl) lk), ?_⟩
     rw [hres]; exact ⟨rfl, rfl⟩
    ·have hc3' := hc3
     (try simp only [V.cnd, ne_eq] at hc3')
     have hz : (evalF l row ops[i] (argA noVl ops[i].k st) (argB noVl ops[i].k st)).2 = 0 := by simpa using hc3
     refine CD.skip ?_
     refine CD.cutL (k := (st.length - (popsF ops[i].k).toNat)) (ls := (st)) (Sq := Sh) cV_len (by omega) hoh (perm_r11 (A := [_, _, _, _, _, _, _, _])) (fun Sc16 hoc16 => ?_)
     refine CD.perm (perm_q11 (A := [_, _, _, _, _, _, _, _])) ?_
     refine CD.draw (bks (List.take 1 _)) (by kernel_rfl) (fun _ h => (List.Sublist.map _ (List.take_sublist _ _)).subset h) ?_
     refine AD0.take (i := 0) rfl (by kernel_rfl) (by kernel_rfl) (by kernel_rfl) (by repeat (first | exact NP.body | apply NP.then | apply NP.cut | apply NP.inBlock | apply NP.round)) (wants_plain rfl) rfl (still_mv rfl ot) (by exact trivial) ?_
     refine AD0.take (i := 1) rfl (by kernel_rfl) (by kernel_rfl) (by kernel_rfl) (by repeat (first | exact NP.body | apply NP.then | apply NP.cut | apply NP.inBlock | apply NP.round)) (wants_plain rfl) rfl (still_mv rfl ot) (by exact trivial) ?_
     first | refine AD0.take (i := 2) rfl (by kernel_rfl) (by kernel_rfl) (by kernel_rfl) (by repeat (first | exact NP.body | apply NP.then | apply NP.cut | apply NP.inBlock | apply NP.round)) (wants_plain rfl) rfl (still_oslice (n := st.length) (k := (List.take (st.length - (popsF ops[i].k).toNat) st).length) (cs := st.flatMap cV) rfl ot rfl ⟨_, _, ot, by rw [List.length_take]; omega⟩ Tryz.runUnderlying23 Tryz.sizeOf26 (by rw [List.length_take]; omega) hoh) (by exact trivial) ?_ | refine AD0.take (i := 2) rfl (by kernel_rfl) (by kernel_rfl) (by kernel_rfl) (by repeat (first | exact NP.body | apply NP.then | apply NP.cut | apply NP.inBlock | apply NP.round)) (wants_plain rfl) rfl (still_oslice (n := st.length) (k := (List.take (st.length - (popsF ops[i].k).toNat) st).length) (cs := st.flatMap cV) rfl ot rfl ⟨_, _, ot, by rw [List.length_take]; omega⟩ Tryz.runUnderlying23 Tryz.sizeOf26 (by rw [List.length_take]; omega) (ownL_row (e := 26) (g := cV) (ls := st) hhle hhcap)) (by exact trivial) ?_
     refine AD0.take (i := 3) rfl (by kernel_rfl) (by kernel_rfl) (by kernel_rfl) (by repeat (first | exact NP.body | apply NP.then | apply NP.cut | apply NP.inBlock | apply NP.round)) (wants_plain rfl) rfl (still_r1 (mk := Op.load 26) rfl ot (by first | exact ld_blks (k := 0) (ds := [_, _, _]) rfl rfl Tryz.isAgg26 Tryz.sizeOf26 rfl rfl | exact ld_fms cO_len Tryz.isAgg26 Tryz.sizeOf26 (by first | assumption | omega) | exact ld_fms cV_len Tryz.isAgg26 Tryz.sizeOf26 (by first | assumption | omega) | exact ld_rows (k := 0) cO_len rfl rfl rfl Tryz.isAgg26 Tryz.sizeOf26 (by first | assumption | omega) | exact ld_rows (k := 1) cO_len rfl rfl rfl Tryz.isAgg26 Tryz.sizeOf26 (by first | assumption | omega) | exact ld_rows (k := 2) cO_len rfl rfl rfl Tryz.isAgg26 Tryz.sizeOf26 (by first | assumption | omega) | exact ld_rows (k := 3) cO_len rfl rfl rfl Tryz.isAgg26 Tryz.sizeOf26 (by first | assumption | omega) | exact ld_rows (k := 4) cO_len rfl rfl rfl Tryz.isAgg26 Tryz.sizeOf26 (by first | assumption | omega) | exact ld_rows (k := 5) cO_len rfl rfl rfl Tryz.isAgg26 Tryz.sizeOf26 (by first | assumption | omega) | exact ld_rows (k := 6) cO_len rfl rfl rfl Tryz.isAgg26 Tryz.sizeOf26 (by first | assumption | omega) | exact ld_rows (k := 7) cO_len rfl rfl rfl Tryz.isAgg26 Tryz.sizeOf26 (by first | assumption | omega) | exact ld_rows (k := 0) cV_len rfl rfl rfl Tryz.isAgg26 Tryz.sizeOf26 (by first | assumption | omega) | exact ld_rows (k := 1) cV_len rfl rfl rfl Tryz.isAgg26 Tryz.sizeOf26 (by first | assumption | omega) | exact ld_rows (k := 2) cV_len rfl rfl rfl Tryz.isAgg26 Tryz.sizeOf26 (by first | assumption | omega) | exact ld_rows (k := 3) cV_len rfl rfl rfl Tryz.isAgg26 Tryz.sizeOf26 (by first | assumption | omega) | exact ld_rows (k := 4) cV_len rfl rfl rfl Tryz.isAgg26 Tryz.sizeOf26 (by first | assumption | omega) | exact ld_rows (k := 5) cV_len rfl rfl rfl Tryz.isAgg26 Tryz.sizeOf26 (by first | assumption | omega) | exact ld_rows (k := 6) cV_len rfl rfl rfl Tryz.isAgg26 Tryz.sizeOf26 (by first | assumption | omega) | exact ld_rows (k := 7) cV_len rfl rfl rfl Tryz.isAgg26 Tryz.sizeOf26 (by first | assumption | omega) | exact ld_is (ds := [_, _, _]) Tryz.isAgg26 Tryz.sizeOf26 rfl rfl)) (by first | exact trivial | exact safe_blk (k0 := 0) rfl rfl) ?_
     refine AD0.later rfl ?_
     refine AD.one (i := 4) (by kernel_rfl) ?_
     refine AStep.bldS (pl := numD 0 [_]) (zvs := [.int .i64 0, .int .i64 0, .string ⟨#[]⟩]) (ds := [_, _, _]) rfl (wants_plain rfl) rfl rfl Tryz.zeroValue26 Tryz.runUnderlying23 Tryz.sizeOf26 rfl rfl (by kernel_rfl) ⟨rfl, ot, trivial⟩ (by exact rfl) (fill_full (by exact rfl) (by exact rfl) (by exact rfl)) (fun b58 => ?_)
     refine AD.give (k := 0) (t := 58) (sz := 3) (m := 1) rfl lk rfl rfl rfl (Nat.le_refl _) (by decide) ?_
     refine AD.one (i := 5) (by kernel_rfl) ?_
     refine AStep.appendG (ls := (List.take (st.length - (popsF ops[i].k).toNat) (st))) (new := [(evalF l row ops[i] (argA noVl ops[i].k st) (argB noVl ops[i].k st)).1]) (Sq := Sc16) cV_len cV_one rfl (wants_plain rfl) rfl rfl Tryz.underlying23 info26_Ex3 rfl (by decide) ot hoc16 (perm_r11 (A := [_, _, _, _, _, _, _, _])) ot (by simp) (by simp [maxLen]; omega) (by simp; omega) (fun b59 cp59 h159 h259 => ?_)
     refine AD.perm (perm_q11 (S1 := [⟨b59, 26, cp59 * 3, List.flatMap cV ((List.take (st.length - (popsF ops[i].k).toNat) (st)) ++ [(evalF l row ops[i] (argA noVl ops[i].k st) (argB noVl ops[i].k st)).1])⟩]) (A := [_, _, _, _, _, _, _, _])) ?_
     refine AD.take (i := 6) rfl (by kernel_rfl) (by kernel_rfl) (by kernel_rfl) (by repeat (first | exact NP.body | apply NP.then | apply NP.cut | apply NP.inBlock | apply NP.round)) (wants_plain rfl) rfl (still_as rfl ot) (by exact trivial) (by intro h; cases h) ?_
     refine AD.wk (y := ⟨64, [(1, _), (4, _), (6, _), (7, _), (16, _), (17, _), (18, _)], (⟨b14, 26, 3, [_, _, _]⟩ :: ⟨br, 23, 1, [_]⟩ :: ⟨bc, 30, 1, [_]⟩ :: ⟨b11, 26, 3, [_, _, _]⟩ :: ⟨b10, 26, 3, [_, _, _]⟩ :: ⟨b9, 35, 5, [_, _, _, _, _]⟩ :: ⟨b6, 26, 3, [_, _, _]⟩ :: ⟨b4, 26, 3, [_, _, _]⟩ :: [⟨b59, 26, cp59 * 3, List.flatMap cV ((List.take (st.length - (popsF ops[i].k).toNat) (st)) ++ [(evalF l row ops[i] (argA noVl ops[i].k st) (argB noVl ops[i].k st)).1])⟩])⟩) (Wk.as_ rfl rfl ⟨lk, lk, lk, lk, lk, lk, lk, trivial⟩) rfl ?_
     refine AD.done (by kernel_rfl) ?_
     refine CD.region ?_
     refine os_ bn_ ?_
     refine os_ mv_ ?_
     refine nm_ [1, 4, 6, 7, 16, 17, 18] ?_
     refine ⟨((i + 1), (st.take (st.length - (popsF ops[i].k).toNat) ++ [(evalF l row ops[i] (argA noVl ops[i].k st) (argB noVl ops[i].k st)).1]), (some ⟨b59, 0, none⟩), cp59, [⟨b59, 26, cp59 * 3, List.flatMap cV ((List.take (st.length - (popsF ops[i].k).toNat) (st)) ++ [(evalF l row ops[i] (argA noVl ops[i].k st) (argB noVl ops[i].k st)).1])⟩]), ⟨64, [(1, .clo (.func 26) [.v (.pointer (some ⟨br, 0, none⟩)), .v (.pointer (some ⟨bc, 0, none⟩))]), (4, .v (.pointer (some ⟨b4, 0, none⟩))), (6, .v (.pointer (some ⟨b6, 0, none⟩))), (7, .v (.slice ((some ⟨b59, 0, none⟩)) (((st.take (st.length - (popsF ops[i].k).toNat) ++ [(evalF l row ops[i] (argA noVl ops[i].k st) (argB noVl ops[i].k st)).1]))).length cp59)), (16, .list 5 (ops.flatMap cO) ops.length), (17, .v (.int .i64 (ops.length : Nat))), (18, .v (.int .i64 (((i + 1)) : Nat)))], (⟨br, 23, 1, [.list 3 (row.flatMap cV) row.length]⟩ :: ⟨bc, 30, 1, [.list 2 (l.flatMap cC) l.length]⟩ :: ⟨b6, 26, 3, [.v (.int .i64 0), .v (.int .i64 0), .v (.string ⟨#[]⟩)]⟩ :: ⟨b4, 26, 3, [.v (.int .i64 0), .v (.int .i64 0), .v (.string ⟨#[]⟩)]⟩ :: ([⟨b59, 26, cp59 * 3, List.flatMap cV ((List.take (st.length - (popsF ops[i].k).toNat) (st)) ++ [(evalF l row ops[i] (argA noVl ops[i].k st) (argB noVl ops[i].k st)).1])⟩]))⟩, ?_, Wk.asS (n := 64) rfl (by first | exact List.Sublist.refl _ | (repeat (first | exact List.Sublist.refl _ | apply List.Sublist.cons_cons | apply List.Sublist.cons))) ⟨(by (repeat (first | exact look_hit | (apply look_at; focus (first | rfl | (simp; done) | (congr 2; omega) | (apply row_eq; rfl) | (apply row_eq; simp; done))) | (apply look_miss; focus rfl))); done), (by (repeat (first | exact look_hit | (apply look_at; focus (first | rfl | (simp; done) | (congr 2; omega) | (apply row_eq; rfl) | (apply row_eq; simp; done))) | (apply look_miss; focus rfl))); done), (by (repeat (first | exact look_hit | (apply look_at; focus (first | rfl | (simp; done) | (congr 2; omega) | (apply row_eq; rfl) | (apply row_eq; simp; done))) | (apply look_miss; focus rfl))); done), (by (repeat (first | exact look_hit | (apply look_at; focus (first | rfl | (simp; done) | (congr 2; omega) | (apply row_eq; rfl) | (apply row_eq; simp; done))) | (apply look_miss; focus rfl))); done), (by (repeat (first | exact look_hit | (apply look_at; focus (first | rfl | (simp; done) | (congr 2; omega) | (apply row_eq; rfl) | (apply row_eq; simp; done))) | (apply look_miss; focus rfl))); done), (by (repeat (first | exact look_hit | (apply look_at; focus (first | rfl | (simp; done) | (congr 2; omega) | (apply row_eq; rfl) | (apply row_eq; simp; done))) | (apply look_miss; focus rfl))); done), (by (repeat (first | exact look_hit | (apply look_at; focus (first | rfl | (simp; done) | (congr 2; omega) | (apply row_eq; rfl) | (apply row_eq; simp; done))) | (apply look_miss; focus rfl))); done), trivial⟩, (by omega), (by rw [hnl]; omega), hnx, (hinv.trans (fold_go hlt hz)), hnok, (OwnL.cast (ownL_row h159 h259) (by rfl)), rfl⟩
     first | omega | (simp only []; omega)
 ·have hc0' := hc0
  (try simp only [V.cnd, ne_eq] at hc0')
  have h1 := expr_one (by omega) hex
  have hst1 : 0 < st.length := by omega
  obtain ⟨bh, rfl, hhle, hhcap, rfl⟩ := hoh.pos (by omega)
  have hres := hinv.trans (fold_end (by omega))
  have hgd : st.getD 0 noVl = st[0] := by rw [List.getD_eq_getElem?_getD, List.getElem?_eq_getElem hst1]; rfl
  rw [hgd] at hres
  refine CD.exit ?_
  refine sr_ ?_
  refine os_ mv_ ?_
  refine OD.still (wants_plain rfl) rfl (still_r2 (mk := Op.indexAddr 23) rfl ot opd_const (by first | exact ix_list (j := 0) Tryz.runUnderlying23 Tryz.sizeOf26 rfl (by first | omega | decide) | exact ix_row (j := 0) Tryz.runUnderlying23 Tryz.sizeOf26 rfl (by first | omega | decide))) ?_
  refine OD.still (wants_plain rfl) rfl (still_r1 (mk := Op.load 26) rfl ot (ld_rows (k := 4) cV_len rfl rfl rfl Tryz.isAgg26 Tryz.sizeOf26 hst1)) ?_
  refine OD.store (k := 3) (cs' := [_, _, _]) (wants_plain rfl) rfl rfl ot rfl rfl ot rfl rfl Tryz.sizeOf26 rfl rfl rfl ?_
  refine os_ mv_ ?_
  refine OD.wk (Wk.as_ (n := 64) (l' := [(4, _), (5, _)]) (S' := (⟨br, 23, 1, [_]⟩ :: ⟨bc, 30, 1, [_]⟩ :: ⟨b6, 26, 3, [_, _, _]⟩ :: ⟨b4, 26, 3, [_, _, _]⟩ :: [⟨bh, 26, cph * 3, List.flatMap cV st⟩])) rfl rfl ⟨lk, lk, trivial⟩) ?_
  refine OD.nil ?_
  refine CD.ret ?_
  refine ⟨.inr rfl, _, [⟨br, 23, 1, [.list 3 (row.flatMap cV) row.length]⟩, ⟨bc, 30, 1, [.list 2 (l.flatMap cC) l.length]⟩], (by repeat (first | exact List.Sublist.refl _ | exact List.nil_sublist _ | (apply List.Sublist.cons_cons; apply List.Sublist.cons_cons; exact List.nil_sublist _) | apply List.Sublist.cons)), ret_two Tryz.results25 (res_cells (k := 3) (ds := [_, _, _]) (Nat.le_of_ble_eq_true rfl) lk rfl rfl Tryz.isAgg26 Tryz.sizeOf26 rfl rfl) (res_tmp (Nat.le_of_ble_eq_true rfl) lk), ?_⟩
  rw [hres]; exact ⟨rfl, rfl⟩

set_option maxHeartbeats 4000000 in
set_option maxRecDepth 100000 in
theorem eval_vp (l : List ColL) (hl : l.length ≤ 1000) (row : List Vl) (hrl : row.length = l.length) (hrok : ∀ v ∈ row, v.Ok) (ops : List OpL) (hvo : ∀ o ∈ ops, o.v.Ok) (hcol : ∀ o ∈ ops, o.k = 2 → 0 ≤ colAt l o.nm) (hx : exprF ops = 0) : VP Tryz.prog G 17 [.list 2 (l.flatMap cC) l.length, .list 3 (row.flatMap cV) row.length, .list 5 (ops.flatMap cO) ops.length] (vlD (foldV l row ops)) := by
 refine VC.body Tryz.func17 rfl Tryz.ntmps17 (Nat.le_of_ble_eq_true rfl) fun X0 w0 S00 => ?_
 obtain ⟨h40, hx0⟩ := expr_ok hx
 have hfv := fun br bc => foldV_vc (G := G) l hl row hrl hrok ops hvo hcol h40 hx0 br bc
 unfold vlD at hfv ⊢
 generalize foldV l row ops = q at hfv ⊢
 skip
 refine sr_ ?_
 refine OD.box (ds := [_]) (wants_plain rfl) rfl rfl ot rfl rfl (fun b3 => ?_)
 refine OD.box (ds := [_]) (wants_plain rfl) rfl rfl ot rfl rfl (fun b4 => ?_)
 refine OD.alloc (ds := [_, _, _]) (wants_plain rfl) rfl rfl Tryz.zeroValue26 rfl (fun b6 => ?_)
 refine os_ mv_ ?_
 refine OD.wk (Wk.as_ (n := 13) (l' := [(2, _), (3, _), (4, _), (6, _)]) (S' := [⟨b6, 26, 3, [_, _, _]⟩, ⟨b4, 23, 1, [_]⟩, ⟨b3, 30, 1, [_]⟩]) rfl rfl ⟨lk, lk, lk, lk, trivial⟩) ?_
 refine OD.nil ?_
 refine sr_ ?_
 refine os_ mv_ ?_
 refine OD.still (wants_plain rfl) rfl (still_fn (ds := [_, _]) rfl ⟨ot, ot, trivial⟩) ?_
 refine OD.call (wants_plain rfl) rfl rfl rfl Tryz.call25 (hfv b4 b3) ⟨ot, ot, trivial⟩ (perm_two (k := 1) (k' := 1) rfl rfl) ?_
 rintro _ _ ⟨rfl, rfl⟩
 refine os_ ex_ ?_
 refine os_ ex_ ?_
 refine OD.store (k := 2) (cs' := [_, _, _]) (wants_plain rfl) rfl rfl ot rfl rfl ot rfl rfl Tryz.sizeOf26 rfl rfl rfl ?_
 refine os_ mv_ ?_
 refine OD.wk (Wk.as_ (n := 13) (l' := [(6, _), (7, _)]) (S' := [⟨b4, 23, 1, [_]⟩, ⟨b3, 30, 1, [_]⟩, ⟨b6, 26, 3, [_, _, _]⟩]) rfl rfl ⟨lk, lk, trivial⟩) ?_
 refine OD.nil ?_
 refine CD.ret ?_
 refine ⟨.inr rfl, _, [], List.nil_sublist _, ret_two Tryz.results17 (res_cells (k := 2) (ds := [_, _, _]) (Nat.le_of_ble_eq_true rfl) lk rfl rfl Tryz.isAgg26 Tryz.sizeOf26 rfl rfl) (res_tmp (Nat.le_of_ble_eq_true rfl) lk), ?_⟩
 exact ⟨rfl, rfl⟩

theorem places26_Ex3 : ∀ w, ((#[{ name := "Kind", type := 3, offset := 0, embedded := false, tag := "", pkgPath := "", byteOffset := 0 }, { name := "Int", type := 3, offset := 1, embedded := false, tag := "", pkgPath := "", byteOffset := 8 }, { name := "Text", type := 9, offset := 2, embedded := false, tag := "", pkgPath := "", byteOffset := 16 }] : Array Field).mapM fun f => do pure (f.offset, ← sizeOf f.type) : Sem (Array (Nat × Nat))).run Tryz.prog w = .ok #[(0, 1), (1, 1), (2, 1)] w := fun w => by simp [Tryz.sizeOf3, Tryz.sizeOf9]

set_option maxHeartbeats 4000000 in
set_option maxRecDepth 100000 in
theorem Eval_vp (hm : (3, marksC) ∈ G) (hw : (0, wordsC) ∈ G) (ht : (1, typesC) ∈ G) (l : List ColL) (hl : l.length ≤ 1000) (hok : ∀ c ∈ l, c.n.size ≤ maxLen) (row : List Vl) (hrl : row.length ≤ 1000) (hrok : ∀ v ∈ row, v.Ok) (ops : List OpL) (ho : ∀ o ∈ ops, o.nm.size ≤ maxLen) (hvo : ∀ o ∈ ops, o.v.Ok) : VP Tryz.prog G 7 [.list 2 (l.flatMap cC) l.length, .list 3 (row.flatMap cV) row.length, .list 5 (ops.flatMap cO) ops.length] (vlD (evalR l row ops)) := by
 refine VC.body Tryz.func7 rfl Tryz.ntmps7 (Nat.le_of_ble_eq_true rfl) fun X0 w0 S00 => ?_
 have hmx : maxLen = 9223372036854775807 := rfl
 have hrv := Row_vp hm hw ht l (by omega) hok row (by omega)
 have hkv := kind_vp hm hw ht l hl hok ops ho
 unfold twoI at hkv
 unfold vlD
 refine sr_ ?_
 refine OD.alloc (ds := [_, _, _]) (wants_plain rfl) rfl rfl Tryz.zeroValue26 rfl (fun b6 => ?_)
 refine os_ mv_ ?_
 refine OD.wk (Wk.as_ (n := 34) (l' := [(0, _), (1, _), (2, _), (6, _)]) (S' := [⟨b6, 26, 3, [_, _, _]⟩]) rfl rfl ⟨lk, lk, lk, lk, trivial⟩) ?_
 refine OD.nil ?_
 refine CD.seq ?_
 refine sr_ ?_
 refine os_ mv_ ?_
 refine os_ mv_ ?_
 refine OD.callP (wants_plain rfl) rfl rfl rfl Tryz.call16 (hrv) ⟨ot, ot, trivial⟩ ?_
 refine os_ mv_ ?_
 refine OD.wk (Wk.as_ (n := 34) (l' := [(0, _), (1, _), (2, _), (6, _), (8, _)]) (S' := [⟨b6, 26, 3, [_, _, _]⟩]) rfl rfl ⟨lk, lk, lk, lk, lk, trivial⟩) ?_
 refine OD.nil ?_
 refine sr_ ?_
 refine os_ mv_ ?_
 refine os_ bn_ ?_
 refine nm_ [0, 1, 2, 6, 8, 15] ?_
 refine CD.cond ot (fun hc0 => ?_) (fun hc0 => ?_)
 ·have hc0' := hc0
  (try simp only [V.cnd, ne_eq] at hc0')
  have h0 : rowF l row ≠ 0 := by simpa using hc0
  have hres : evalR l row ops = (noVl, rowF l row) := by unfold evalR; rw [if_pos h0]
  refine sr_ ?_
  refine OD.still (wants_plain rfl) rfl (still_bld (pl := []) (ds := [_, _, _]) rfl Tryz.zeroValue26 Tryz.runUnderlying26 places26_Ex3 trivial rfl rfl) ?_
  refine os_ mv_ ?_
  refine OD.store (k := 0) (cs' := [_, _, _]) (wants_plain rfl) rfl rfl ot rfl rfl ot rfl rfl Tryz.sizeOf26 rfl rfl rfl ?_
  refine os_ mv_ ?_
  refine OD.wk (Wk.as_ (n := 34) (l' := [(6, _), (7, _)]) (S' := [⟨b6, 26, 3, [_, _, _]⟩]) rfl rfl ⟨lk, lk, trivial⟩) ?_
  refine OD.nil ?_
  refine CD.ret ?_
  refine ⟨.inr rfl, _, [], List.nil_sublist _, ret_two Tryz.results7 (res_cells (k := 0) (ds := [_, _, _]) (Nat.le_of_ble_eq_true rfl) lk rfl rfl Tryz.isAgg26 Tryz.sizeOf26 rfl rfl) (res_tmp (Nat.le_of_ble_eq_true rfl) lk), ?_⟩
  rw [hres]; exact ⟨rfl, rfl⟩
 ·have hc0' := hc0
  (try simp only [V.cnd, ne_eq] at hc0')
  have h0 : rowF l row = 0 := by simpa using hc0
  refine CD.skip ?_
  refine CD.seq ?_
  refine sr_ ?_
  refine os_ mv_ ?_
  refine os_ mv_ ?_
  refine OD.callP (wants_plain rfl) rfl rfl rfl Tryz.call9 (hkv) ⟨ot, ot, trivial⟩ ?_
  refine os_ mv_ ?_
  refine os_ ex_ ?_
  refine os_ ex_ ?_
  refine os_ mv_ ?_
  refine os_ mv_ ?_
  refine OD.wk (Wk.as_ (n := 34) (l' := [(0, _), (1, _), (2, _), (6, _), (10, _)]) (S' := [⟨b6, 26, 3, [_, _, _]⟩]) rfl rfl ⟨lk, lk, lk, lk, lk, trivial⟩) ?_
  refine OD.nil ?_
  refine sr_ ?_
  refine os_ mv_ ?_
  refine os_ bn_ ?_
  refine nm_ [0, 1, 2, 6, 10, 25] ?_
  refine CD.cond ot (fun hc1 => ?_) (fun hc1 => ?_)
  ·have hc1' := hc1
   (try simp only [V.cnd, ne_eq] at hc1')
   have h1 : (kindR l ops).2 ≠ 0 := by simpa using hc1
   have hres : evalR l row ops = (noVl, (kindR l ops).2) := by unfold evalR; rw [if_neg (by simp [h0]), if_pos h1]
   refine sr_ ?_
   refine OD.still (wants_plain rfl) rfl (still_bld (pl := []) (ds := [_, _, _]) rfl Tryz.zeroValue26 Tryz.runUnderlying26 places26_Ex3 trivial rfl rfl) ?_
   refine os_ mv_ ?_
   refine OD.store (k := 0) (cs' := [_, _, _]) (wants_plain rfl) rfl rfl ot rfl rfl ot rfl rfl Tryz.sizeOf26 rfl rfl rfl ?_
   refine os_ mv_ ?_
   refine OD.wk (Wk.as_ (n := 34) (l' := [(6, _), (7, _)]) (S' := [⟨b6, 26, 3, [_, _, _]⟩]) rfl rfl ⟨lk, lk, trivial⟩) ?_
   refine OD.nil ?_
   refine CD.ret ?_
   refine ⟨.inr rfl, _, [], List.nil_sublist _, ret_two Tryz.results7 (res_cells (k := 0) (ds := [_, _, _]) (Nat.le_of_ble_eq_true rfl) lk rfl rfl Tryz.isAgg26 Tryz.sizeOf26 rfl rfl) (res_tmp (Nat.le_of_ble_eq_true rfl) lk), ?_⟩
   rw [hres]; exact ⟨rfl, rfl⟩
  ·have hc1' := hc1
   (try simp only [V.cnd, ne_eq] at hc1')
   have h1 : (kindR l ops).2 = 0 := by simpa using hc1
   obtain ⟨k1, k2, k3⟩ := kind_ok h1
   have hres : evalR l row ops = foldV l row ops := by unfold evalR; rw [if_neg (by simp [h0]), if_neg (by simp [h1])]
   have hev := eval_vp (G := G) l hl row (row_len h0) hrok ops hvo (kind_cols (by rw [← k3]; exact h1)) k2
   unfold vlD at hev
   refine CD.skip ?_
   refine sr_ ?_
   refine os_ mv_ ?_
   refine os_ mv_ ?_
   refine os_ mv_ ?_
   refine OD.callP (wants_plain rfl) rfl rfl rfl Tryz.call17 (hev) ⟨ot, ot, ot, trivial⟩ ?_
   refine os_ ex_ ?_
   refine os_ ex_ ?_
   refine OD.store (k := 0) (cs' := [_, _, _]) (wants_plain rfl) rfl rfl ot rfl rfl ot rfl rfl Tryz.sizeOf26 rfl rfl rfl ?_
   refine os_ mv_ ?_
   refine OD.wk (Wk.as_ (n := 34) (l' := [(6, _), (7, _)]) (S' := [⟨b6, 26, 3, [_, _, _]⟩]) rfl rfl ⟨lk, lk, trivial⟩) ?_
   refine OD.nil ?_
   refine CD.ret ?_
   refine ⟨.inr rfl, _, [], List.nil_sublist _, ret_two Tryz.results7 (res_cells (k := 0) (ds := [_, _, _]) (Nat.le_of_ble_eq_true rfl) lk rfl rfl Tryz.isAgg26 Tryz.sizeOf26 rfl rfl) (res_tmp (Nat.le_of_ble_eq_true rfl) lk), ?_⟩
   rw [hres]; exact ⟨rfl, rfl⟩

end Go.Proofs.YtfooincnmobemaaGreatDoor.Ex

namespace Go.Proofs.YtfooincnmobemaaGreatDoor.Pc
open Go.RowKit V Pk Vl Go.Proofs.YtfooincnmobemaaGreatDoor.Nm
set_option linter.unusedVariables false
set_option linter.unusedSimpArgs false

variable {G : List (Nat × List Value)}
def colsL : List ColL := [⟨⟨#[105, 100]⟩, 2⟩, ⟨⟨#[110]⟩, 2⟩, ⟨⟨#[115]⟩, 3⟩, ⟨⟨#[98]⟩, 1⟩]
def truthF (n : Int) : Vl := if pickedF n 3 = 2 then noVl else ⟨1, pickedF n 3, ⟨#[]⟩⟩
def numV (n : Int) : Vl := ⟨2, n, ⟨#[]⟩⟩
def txtV (s : ByteArray) : Vl := ⟨3, 0, s⟩
theorem nm_id : nameF ⟨#[105, 100]⟩ = 0 := small_name (l := [105, 100]) (by decide) (by decide) (by decide)
theorem nm_n : nameF ⟨#[110]⟩ = 0 := small_name (l := [110]) (by decide) (by decide) (by decide)
theorem nm_s : nameF ⟨#[115]⟩ = 0 := small_name (l := [115]) (by decide) (by decide) (by decide)
theorem nm_b : nameF ⟨#[98]⟩ = 0 := small_name (l := [98]) (by decide) (by decide) (by decide)
theorem cols_ok : colsF colsL = 0 := by
 simp [colsF, colsL, colsA, colF, nm_id, nm_n, nm_s, nm_b, str_list]
theorem cols_sz : ∀ c ∈ colsL, c.n.size ≤ maxLen := fun c hc => by
 have h : c.n.size ≤ 2 := by
  simp only [colsL, List.mem_cons, List.not_mem_nil, or_false] at hc
  rcases hc with rfl | rfl | rfl | rfl
  ·exact Nat.le_refl 2
  ·exact Nat.le_succ 1
  ·exact Nat.le_succ 1
  ·exact Nat.le_succ 1
 exact Nat.le_trans h (by decide)
theorem row_4 (a b c d : Vl) : rowF colsL [a, b, c, d] = rowA 0 colsL [a, b, c, d] := by unfold rowF; rw [if_neg (by rw [cols_ok]; simp), if_neg (by simp [colsL])]
theorem ck_num (n : Int) : checkV (numV n) = 0 := by
 unfold checkV
 rw [if_neg (show ¬ (numV n).k = 0 by show ¬ (2 : Int) = 0; decide), if_neg (show ¬ (numV n).k = 1 by show ¬ (2 : Int) = 1; decide), if_pos (show (numV n).k = 2 from rfl), if_neg (fun h => h rfl)]
theorem ck_txt {s : ByteArray} (h : s.size ≤ 20) : checkV (txtV s) = 0 := by
 unfold checkV
 rw [if_neg (show ¬ (txtV s).k = 0 by show ¬ (3 : Int) = 0; decide), if_neg (show ¬ (txtV s).k = 1 by show ¬ (3 : Int) = 1; decide), if_neg (show ¬ (txtV s).k = 2 by show ¬ (3 : Int) = 2; decide), if_pos (show (txtV s).k = 3 from rfl), if_neg (show ¬ (txtV s).n ≠ 0 from fun h => h rfl), if_neg (show ¬ (txtV s).s.size > 20 by show ¬ s.size > 20; omega)]
theorem ck_no : checkV noVl = 0 := by decide
theorem ck_truth (n : Int) : checkV (truthF n) = 0 := by
 have h := pickedF_bd n (show (1 : Int) ≤ 3 by decide)
 unfold truthF
 split
 ·exact ck_no
 ·unfold checkV
  rw [if_neg (show ¬ (1 : Int) = 0 by decide), if_pos (show (1 : Int) = 1 from rfl), if_neg]
  rintro (q | q | q)
  ·have q : pickedF n 3 < 0 := q
   omega
  ·have q : pickedF n 3 > 1 := q
   omega
  ·exact q rfl
theorem k_truth (n : Int) : (truthF n).k = 0 ∨ (truthF n).k = 1 := by
 unfold truthF
 split
 ·exact .inl rfl
 ·exact .inr rfl
theorem fit_ok {i : Nat} {c : ColL} {v : Vl} (h : checkV v = 0) (hk : v.k = c.k ∨ (v.k = 0 ∧ i ≠ 0)) : fitV i c v = 0 := by
 unfold fitV
 rw [if_neg (by simp [h]), if_neg]
 rintro ⟨h1, h2⟩
 rcases hk with hk | hk
 ·exact h1 hk
 ·rcases h2 with h2 | h2
  ·exact hk.2 h2
  ·exact h2 hk.1
theorem word_small (s : ByteArray) : (wordF s).size ≤ 20 := by have := wordF_size s; omega

theorem places33_Pc5 : ∀ w, ((#[{ name := "Name", type := 9, offset := 0, embedded := false, tag := "", pkgPath := "", byteOffset := 0 }, { name := "Kind", type := 3, offset := 1, embedded := false, tag := "", pkgPath := "", byteOffset := 16 }] : Array Field).mapM fun f => do pure (f.offset, ← sizeOf f.type) : Sem (Array (Nat × Nat))).run Tryz.prog w = .ok #[(0, 1), (1, 1)] w := fun w => by simp [Tryz.sizeOf3, Tryz.sizeOf9]

set_option maxHeartbeats 4000000 in
set_option maxRecDepth 100000 in
theorem colsOf_vp : VP Tryz.prog G 8 [] (.list 2 (colsL.flatMap cC) colsL.length) := by
 refine VC.body Tryz.func8 rfl Tryz.ntmps8 (Nat.le_of_ble_eq_true rfl) fun X0 w0 S00 => ?_
 refine sr_ ?_
 refine os_ mv_ ?_
 refine nm_ [] ?_
 refine sr_ ?_
 refine OD.still (wants_plain rfl) rfl (still_bld (pl := [(0, _), (1, _)]) (ds := [_, _]) rfl Tryz.zeroValue33 Tryz.runUnderlying33 places33_Pc5 ⟨rfl, opd_const, rfl, opd_const, trivial⟩ rfl rfl) ?_
 refine OD.still (wants_plain rfl) rfl (still_bld (pl := [(0, _), (1, _)]) (ds := [_, _]) rfl Tryz.zeroValue33 Tryz.runUnderlying33 places33_Pc5 ⟨rfl, opd_const, rfl, opd_const, trivial⟩ rfl rfl) ?_
 refine OD.still (wants_plain rfl) rfl (still_bld (pl := [(0, _), (1, _)]) (ds := [_, _]) rfl Tryz.zeroValue33 Tryz.runUnderlying33 places33_Pc5 ⟨rfl, opd_const, rfl, opd_const, trivial⟩ rfl rfl) ?_
 refine OD.still (wants_plain rfl) rfl (still_bld (pl := [(0, _), (1, _)]) (ds := [_, _]) rfl Tryz.zeroValue33 Tryz.runUnderlying33 places33_Pc5 ⟨rfl, opd_const, rfl, opd_const, trivial⟩ rfl rfl) ?_
 refine OD.bldS (pl := numD 0 [_, _, _, _]) (zvs := [.string ⟨#[]⟩, .int .i64 0, .string ⟨#[]⟩, .int .i64 0, .string ⟨#[]⟩, .int .i64 0, .string ⟨#[]⟩, .int .i64 0]) (ds := [_, _, _, _, _, _, _, _]) (wants_plain rfl) rfl rfl Tryz.zeroValue33 Tryz.runUnderlying30 Tryz.sizeOf33 rfl rfl (by kernel_rfl) ⟨rfl, ot, rfl, ot, rfl, ot, rfl, ot, trivial⟩ (by exact rfl) (fill_full (by exact rfl) (by exact rfl) (by exact rfl)) (fun b5 => ?_)
 refine OD.perm (perm_q11 (S1 := [⟨b5, 33, 4 * 2, List.flatMap cC ([⟨⟨#[105, 100]⟩, 2⟩, ⟨⟨#[110]⟩, 2⟩, ⟨⟨#[115]⟩, 3⟩, ⟨⟨#[98]⟩, 1⟩])⟩]) (A := [])) ?_
 refine os_ mv_ ?_
 refine OD.wk (Wk.as_ (n := 6) (l' := [(0, _)]) (S' := ([⟨b5, 33, 4 * 2, List.flatMap cC ([⟨⟨#[105, 100]⟩, 2⟩, ⟨⟨#[110]⟩, 2⟩, ⟨⟨#[115]⟩, 3⟩, ⟨⟨#[98]⟩, 1⟩])⟩])) rfl rfl ⟨lk, trivial⟩) ?_
 refine OD.nil ?_
 refine CD.giveL (t := 0) (Sq := [⟨b5, 33, 4 * 2, List.flatMap cC ([⟨⟨#[105, 100]⟩, 2⟩, ⟨⟨#[110]⟩, 2⟩, ⟨⟨#[115]⟩, 3⟩, ⟨⟨#[98]⟩, 1⟩])⟩]) lk (ownL_row (g := cC) (sz := 2) (e := 33) (ls := [⟨⟨#[105, 100]⟩, 2⟩, ⟨⟨#[110]⟩, 2⟩, ⟨⟨#[115]⟩, 3⟩, ⟨⟨#[98]⟩, 1⟩]) (Nat.le_refl _) (show 4 ≤ maxLen by decide)) (fm_len cC_len _) (perm_r11 (A := [])) ?_
 refine CD.ret ?_
 refine ⟨.inr rfl, _, [], List.nil_sublist _, ret_one Tryz.results8 (res_tmp (Nat.le_of_ble_eq_true rfl) lk), ?_⟩
 exact ⟨rfl, rfl⟩

theorem places26_Pc5 : ∀ w, ((#[{ name := "Kind", type := 3, offset := 0, embedded := false, tag := "", pkgPath := "", byteOffset := 0 }, { name := "Int", type := 3, offset := 1, embedded := false, tag := "", pkgPath := "", byteOffset := 8 }, { name := "Text", type := 9, offset := 2, embedded := false, tag := "", pkgPath := "", byteOffset := 16 }] : Array Field).mapM fun f => do pure (f.offset, ← sizeOf f.type) : Sem (Array (Nat × Nat))).run Tryz.prog w = .ok #[(0, 1), (1, 1), (2, 1)] w := fun w => by simp [Tryz.sizeOf3, Tryz.sizeOf9]

set_option maxHeartbeats 4000000 in
set_option maxRecDepth 100000 in
theorem truth_vp (n : Int) (h1 : -9223372036854775808 ≤ n) (h2 : n ≤ 9223372036854775807) : VP Tryz.prog G 15 [.v (.int .i64 n)] (.agg (cV (truthF n))) := by
 refine VC.body Tryz.func15 rfl Tryz.ntmps15 (Nat.le_of_ble_eq_true rfl) fun X0 w0 S00 => ?_
 refine sr_ ?_
 refine OD.alloc (ds := [_, _, _]) (wants_plain rfl) rfl rfl Tryz.zeroValue26 rfl (fun b2 => ?_)
 refine OD.wk (Wk.as_ (n := 10) (l' := [(0, _), (2, _)]) (S' := [⟨b2, 26, 3, [_, _, _]⟩]) rfl rfl ⟨lk, lk, trivial⟩) ?_
 refine OD.nil ?_
 refine CD.seq ?_
 refine sr_ ?_
 refine os_ mv_ ?_
 refine OD.callP (wants_plain rfl) rfl rfl rfl Tryz.call5 (picked_vp G n 3 h1 h2 (by decide)) ⟨ot, opd_const, trivial⟩ ?_
 refine os_ bn_ ?_
 refine OD.wk (Wk.as_ (n := 10) (l' := [(0, _), (2, _), (5, _)]) (S' := [⟨b2, 26, 3, [_, _, _]⟩]) rfl rfl ⟨lk, lk, lk, trivial⟩) ?_
 refine OD.nil ?_
 refine CD.cond ot (fun hc0 => ?_) (fun hc0 => ?_)
 ·have hc0' := hc0
  (try simp only [V.cnd, ne_eq] at hc0')
  refine sr_ ?_
  refine OD.still (wants_plain rfl) rfl (still_bld (pl := []) (ds := [_, _, _]) rfl Tryz.zeroValue26 Tryz.runUnderlying26 places26_Pc5 trivial rfl rfl) ?_
  refine OD.store (k := 0) (cs' := [_, _, _]) (wants_plain rfl) rfl rfl ot rfl rfl ot rfl rfl Tryz.sizeOf26 rfl rfl rfl ?_
  refine OD.wk (Wk.as_ (n := 10) (l' := [(2, _)]) (S' := [⟨b2, 26, 3, [_, _, _]⟩]) rfl rfl ⟨lk, trivial⟩) ?_
  refine OD.nil ?_
  refine CD.ret ?_
  refine ⟨.inr rfl, _, [], List.nil_sublist _, ret_one Tryz.results15 (res_cells (k := 0) (ds := [_, _, _]) (Nat.le_of_ble_eq_true rfl) lk rfl rfl Tryz.isAgg26 Tryz.sizeOf26 rfl rfl), ?_⟩
  refine ⟨?_, rfl⟩
  unfold truthF noVl
  simp_all [cV]
 ·have hc0' := hc0
  (try simp only [V.cnd, ne_eq] at hc0')
  refine CD.skip ?_
  refine sr_ ?_
  refine os_ mv_ ?_
  refine OD.callP (wants_plain rfl) rfl rfl rfl Tryz.call5 (picked_vp G n 3 h1 h2 (by decide)) ⟨ot, opd_const, trivial⟩ ?_
  refine OD.still (wants_plain rfl) rfl (still_bld (pl := [(0, _), (1, _)]) (ds := [_, _, _]) rfl Tryz.zeroValue26 Tryz.runUnderlying26 places26_Pc5 ⟨rfl, opd_const, rfl, ot, trivial⟩ rfl rfl) ?_
  refine OD.store (k := 0) (cs' := [_, _, _]) (wants_plain rfl) rfl rfl ot rfl rfl ot rfl rfl Tryz.sizeOf26 rfl rfl rfl ?_
  refine OD.wk (Wk.as_ (n := 10) (l' := [(2, _)]) (S' := [⟨b2, 26, 3, [_, _, _]⟩]) rfl rfl ⟨lk, trivial⟩) ?_
  refine OD.nil ?_
  refine CD.ret ?_
  refine ⟨.inr rfl, _, [], List.nil_sublist _, ret_one Tryz.results15 (res_cells (k := 0) (ds := [_, _, _]) (Nat.le_of_ble_eq_true rfl) lk rfl rfl Tryz.isAgg26 Tryz.sizeOf26 rfl rfl), ?_⟩
  refine ⟨?_, rfl⟩
  unfold truthF noVl
  simp_all [cV]

end Go.Proofs.YtfooincnmobemaaGreatDoor.Pc

namespace Go.Proofs.YtfooincnmobemaaGreatDoor.Ex
open Go.RowKit V Pk Vl Go.Proofs.YtfooincnmobemaaGreatDoor.Nm Go.Proofs.YtfooincnmobemaaGreatDoor.Pc
set_option linter.unusedVariables false
set_option linter.unusedSimpArgs false

theorem check_truth (b : Bool) : checkV (truthV b) = 0 := by cases b <;> decide
theorem check_int (n : Int) : checkV ⟨2, n, ⟨#[]⟩⟩ = 0 := ck_num n
theorem out_one {k : Int} (h : ¬ (k = 8 ∨ k = 9 ∨ k = 10)) : outF k = 1 := if_neg h
theorem out_two {k : Int} (h : k = 8 ∨ k = 9 ∨ k = 10) : outF k = 2 := if_pos h
theorem k_truthV (b : Bool) : (truthV b).k = 1 := by cases b <;> rfl
theorem lit_check {v : Vl} (h : litF v = 0) : checkV v = 0 := by
 unfold litF at h
 split at h
 ·cases h
 ·exact h
/-- A value of a kind, or Null. -/
def RelKV (k : Int) (v : Vl) : Prop := checkV v = 0 ∧ (v.k = k ∨ v.k = 0)
theorem rel_no : RelKV 0 noVl := ⟨ck_no, .inl rfl⟩
/-- An op that is fit for columns. -/
structure GoodO (l : List ColL) (o : OpL) : Prop where
  nm : o.nm.size ≤ maxLen
  ok : o.v.Ok
  ck : checkV o.v = 0
  k1 : 1 ≤ o.k
  k2 : o.k ≤ 11
  col : o.k = 2 → 0 ≤ colAt l o.nm
/-- A row that is fit for columns. -/
def GoodR (l : List ColL) (row : List Vl) : Prop := ∀ i : Nat, RelKV (l.getD i ⟨⟨#[]⟩, 0⟩).k (row.getD i noVl)
theorem is_or {a b : Int} (h : isF a b = true) : a = b ∨ a = 0 := by
 unfold isF at h
 simpa using h
theorem logic_kind {a b : Vl} {d : Int} (ha : checkV a = 0) (hb : checkV b = 0) (h1 : a.k = 1 ∨ a.k = 0) (h2 : b.k = 1 ∨ b.k = 0) : (logicF a b d).2 = 0 ∧ RelKV 1 (logicF a b d).1 := by
 unfold logicF
 rw [if_neg (by omega)]
 split
 ·exact ⟨rfl, ha, h1⟩
 ·split
  ·exact ⟨rfl, hb, h2⟩
  ·split
   ·exact ⟨rfl, ck_no, .inr rfl⟩
   ·exact ⟨rfl, ha, h1⟩
theorem both_ok {a b : Vl} (ha : checkV a = 0) (hb : checkV b = 0) : Cd.bothV a b = 0 := by unfold Cd.bothV; rw [ha, hb]; rfl
theorem two_logic {k : Int} {a b : Vl} (h : Cd.bothV a b = 0) (hk : k = 3 ∨ k = 4) : ∃ d, twoF k a b = logicF a b d := by
 unfold twoF
 rw [if_neg (by simp [h])]
 rcases hk with rfl | rfl
 ·exact ⟨0, if_pos rfl⟩
 ·exact ⟨1, by rw [if_neg (by decide), if_pos rfl]⟩
theorem two_less {k : Int} {a b : Vl} (h : Cd.bothV a b = 0) (hk : k = 6 ∨ k = 7) : twoF k a b = if nullF a b = true then (noVl, 0) else if a.k ≠ b.k then (noVl, 4) else (truthV ((Cd.cmpV a b == 0 && k == 6) || (decide (Cd.cmpV a b < 0) && k == 7)), 0) := by
 unfold twoF
 rw [if_neg (by simp [h]), if_neg (by omega), if_neg (by omega), if_pos hk]
theorem made_eval {l : List ColL} {row : List Vl} (hr : GoodR l row) {o : OpL} (ho : GoodO l o) {a b : Int} {va vb : Vl} (ha : RelKV a va) (hb : RelKV b vb) (h : (madeF l o a b).2 = 0) :
  (evalF l row o va vb).2 = 5 ∨ ((evalF l row o va vb).2 = 0 ∧ RelKV (madeF l o a b).1 (evalF l row o va vb).1) := by
 have k1 := ho.k1
 have k2 := ho.k2
 obtain ⟨ca, ka⟩ := ha
 obtain ⟨cb, kb⟩ := hb
 have hbo := both_ok ca cb
 unfold madeF at h ⊢
 by_cases e1 : o.k = 1
 ·rw [if_pos e1]
  have : evalF l row o va vb = (o.v, 0) := by unfold evalF popsF; rw [if_neg (by omega), if_neg (by rw [if_pos (.inl e1)]; omega), if_neg (by omega)] <;> (try rw [if_pos (.inl e1)]; omega)
  rw [this]
  exact .inr ⟨rfl, ho.ck, .inl rfl⟩
 ·rw [if_neg e1] at h ⊢
  by_cases e2 : o.k = 2
  ·rw [if_pos e2] at h ⊢
   have hp : popsF o.k = 0 := by unfold popsF; rw [if_pos (.inr e2)]
   have hc := ho.col e2
   have : evalF l row o va vb = (row.getD (colAt l o.nm).toNat noVl, 0) := by unfold evalF; rw [if_neg (by omega), if_neg (by omega), if_pos e2]
   rw [this]
   unfold kindAt
   rw [if_neg (by omega)]
   exact .inr ⟨rfl, hr _⟩
  ·rw [if_neg e2] at h ⊢
   have hok : okF o.k a b = true := by
    by_cases hk : okF o.k a b = true
    ·exact hk
    ·rw [if_neg hk] at h; cases h
   rw [if_pos hok]
   unfold okF at hok
   by_cases e5 : o.k = 5 ∨ o.k = 11
   ·have hp : popsF o.k = 1 := by unfold popsF; rw [if_neg (by omega), if_pos e5]
    have he : evalF l row o va vb = oneF o.k va := by unfold evalF; rw [if_pos hp]
    rw [he]
    unfold oneF
    rw [if_neg (by simp [ca])]
    rcases e5 with e5 | e5
    ·have n34 : ¬ (o.k = 3 ∨ o.k = 4) := by omega
     have n11 : ¬ o.k = 11 := by omega
     rw [if_neg n34, if_pos e5] at hok
     have hi := is_or hok
     rw [if_neg n11, if_pos e5, out_one (by omega)]
     by_cases z : va.k = 0
     ·rw [if_pos z]; exact .inr ⟨rfl, ca, .inr z⟩
     ·rw [if_neg z, if_pos (by omega)]; exact .inr ⟨rfl, check_truth _, .inl (k_truthV _)⟩
    ·rw [if_pos e5, out_one (by omega)]; exact .inr ⟨rfl, check_truth _, .inl (k_truthV _)⟩
   ·have hp : popsF o.k = 2 := by unfold popsF; rw [if_neg (by omega), if_neg e5]
    have he : evalF l row o va vb = twoF o.k va vb := by unfold evalF; rw [if_neg (by omega), if_pos hp]
    rw [he]
    by_cases e3 : o.k = 3 ∨ o.k = 4
    ·rw [if_pos e3, Bool.and_eq_true] at hok
     have i1 := is_or hok.1
     have i2 := is_or hok.2
     obtain ⟨d, hd⟩ := two_logic hbo e3
     rw [hd, out_one (by omega)]
     exact .inr (logic_kind ca cb (by omega) (by omega))
    ·have n5 : ¬ o.k = 5 := by omega
     rw [if_neg e3, if_neg n5] at hok
     by_cases e6 : o.k = 6 ∨ o.k = 7
     ·rw [if_pos e6, Bool.or_eq_true] at hok
      rw [two_less hbo e6, out_one (by omega)]
      by_cases hn : nullF va vb = true
      ·rw [if_pos hn]; exact .inr ⟨rfl, ck_no, .inr rfl⟩
      ·rw [if_neg hn]
       unfold nullF at hn
       simp only [Bool.or_eq_true, beq_iff_eq, not_or] at hn
       have hkk : va.k = vb.k := by
        rcases hok with hok | hok
        ·have := is_or hok; omega
        ·have : b = 0 := by simpa using hok
         omega
       rw [if_neg (by simpa using hkk)]
       exact .inr ⟨rfl, check_truth _, .inl (k_truthV _)⟩
     ·have e8 : o.k = 8 ∨ o.k = 9 ∨ o.k = 10 := by omega
      rw [if_neg e6, if_pos e8, Bool.and_eq_true] at hok
      have i1 := is_or hok.1
      have i2 := is_or hok.2
      rw [two_arith hbo e8 (by omega), out_two e8]
      split
      ·exact .inr ⟨rfl, ck_no, .inr rfl⟩
      ·split
       ·exact .inr ⟨rfl, check_int _, .inl rfl⟩
       ·exact .inl rfl
theorem cons_ok {α : Type} {z : α} {f : OpL → α → α → α × Int} {o : OpL} {r : List OpL} {st : List α} (h : (f o (argA z o.k st) (argB z o.k st)).2 = 0) : foldG z f (o :: r) st = foldG z f r (st.take (st.length - (popsF o.k).toNat) ++ [(f o (argA z o.k st) (argB z o.k st)).1]) := by
 rw [foldG, if_neg (by rw [h]; simp)]
theorem cons_bad {α : Type} {z : α} {f : OpL → α → α → α × Int} {o : OpL} {r : List OpL} {st : List α} (h : (f o (argA z o.k st) (argB z o.k st)).2 ≠ 0) : foldG z f (o :: r) st = (z, (f o (argA z o.k st) (argB z o.k st)).2) := by
 rw [foldG, if_pos h]
def RelL (ks : List Int) (vs : List Vl) : Prop := ks.length = vs.length ∧ ∀ i : Nat, RelKV (ks.getD i 0) (vs.getD i noVl)
theorem getD_cut {α : Type} (z x : α) (l : List α) (n i : Nat) (hn : n ≤ l.length) : (l.take n ++ [x]).getD i z = if i < n then l.getD i z else if i = n then x else z := by
 have hl : (l.take n).length = n := by rw [List.length_take]; omega
 by_cases h1 : i < n
 ·rw [if_pos h1, List.getD_eq_getElem?_getD, List.getD_eq_getElem?_getD, List.getElem?_append_left (by omega), List.getElem?_take, if_pos h1]
 ·rw [if_neg h1, List.getD_eq_getElem?_getD, List.getElem?_append_right (by omega), hl]
  by_cases h2 : i = n
  ·rw [if_pos h2, h2, Nat.sub_self]; rfl
  ·rw [if_neg h2, List.getElem?_eq_none (by rw [List.length_singleton]; omega)]; rfl
theorem rel_cut {ks : List Int} {vs : List Vl} (h : RelL ks vs) {k : Int} {v : Vl} (hr : RelKV k v) {n : Nat} (hn : n ≤ ks.length) : RelL (ks.take n ++ [k]) (vs.take n ++ [v]) := by
 have hl := h.1
 refine ⟨by simp only [List.length_append, List.length_take, List.length_singleton]; omega, fun i => ?_⟩
 rw [getD_cut _ _ _ _ _ hn, getD_cut _ _ _ _ _ (by omega)]
 split
 ·exact h.2 i
 ·split
  ·exact hr
  ·exact rel_no
theorem rel_arg {ks : List Int} {vs : List Vl} (h : RelL ks vs) (k : Int) : RelKV (argA 0 k ks) (argA noVl k vs) ∧ RelKV (argB 0 k ks) (argB noVl k vs) := by
 have hl := h.1
 unfold argA argB
 rw [hl]
 refine ⟨?_, ?_⟩
 ·split
  ·exact h.2 _
  ·exact rel_no
 ·split
  ·exact h.2 _
  ·exact rel_no
theorem fold_told {l : List ColL} {row : List Vl} (hr : GoodR l row) : ∀ (ops : List OpL), (∀ o ∈ ops, GoodO l o) → ∀ (ks : List Int) (vs : List Vl), RelL ks vs → (foldG 0 (madeF l) ops ks).2 = 0 →
  (foldG noVl (evalF l row) ops vs).2 = 5 ∨ ((foldG noVl (evalF l row) ops vs).2 = 0 ∧ RelKV (foldG 0 (madeF l) ops ks).1 (foldG noVl (evalF l row) ops vs).1)
 | [], _, ks, vs, h, _ => .inr ⟨rfl, h.2 0⟩
 | o :: r, hg, ks, vs, h, h0 => by
  obtain ⟨hA, hB⟩ := rel_arg h o.k
  by_cases hm : (madeF l o (argA 0 o.k ks) (argB 0 o.k ks)).2 = 0
  ·rw [cons_ok hm] at h0 ⊢
   rcases made_eval hr (hg o List.mem_cons_self) hA hB hm with h5 | ⟨hz, hrel⟩
   ·rw [cons_bad (by rw [h5]; decide)]
    exact .inl h5
   ·rw [cons_ok hz]
    have := rel_cut h hrel (n := ks.length - (popsF o.k).toNat) (Nat.sub_le _ _)
    rw [show vs.length - (popsF o.k).toNat = ks.length - (popsF o.k).toNat by rw [h.1]]
    exact fold_told hr r (fun x hx => hg x (List.mem_cons_of_mem _ hx)) _ _ this h0
  ·rw [cons_bad hm] at h0; exact absurd h0 hm
theorem made_err {l : List ColL} {o : OpL} (ho : GoodO l o) (a b : Int) : (madeF l o a b).2 = 0 ∨ (madeF l o a b).2 = 4 := by
 unfold madeF
 split
 ·exact .inl rfl
 ·split
  ·rename_i h2
   have := ho.col h2
   unfold kindAt
   rw [if_neg (by omega)]
   exact .inl rfl
  ·split
   ·exact .inl rfl
   ·exact .inr rfl
theorem kind_err {l : List ColL} : ∀ (ops : List OpL), (∀ o ∈ ops, GoodO l o) → ∀ ks, (foldG 0 (madeF l) ops ks).2 = 0 ∨ (foldG 0 (madeF l) ops ks).2 = 4
 | [], _, ks => .inl rfl
 | o :: r, hg, ks => by
  rw [foldG]
  split
  ·rename_i hne
   rcases made_err (hg o List.mem_cons_self) (argA 0 o.k ks) (argB 0 o.k ks) with h | h
   ·exact absurd h hne
   ·exact .inr h
  ·exact kind_err r (fun x hx => hg x (List.mem_cons_of_mem _ hx)) _
theorem rel_nil : RelL [] [] := ⟨rfl, fun i => by rw [List.getD_nil, List.getD_nil]; exact rel_no⟩
/-- What Kind and Eval answer of ops that are fit. -/
theorem kind_eval {l : List ColL} {row : List Vl} {ops : List OpL} (hl : colsF l = 0) (hw : rowF l row = 0) (hr : GoodR l row) (hg : ∀ o ∈ ops, GoodO l o) (hx : exprF ops = 0) :
    kindR l ops = kindF l ops ∧ ((kindR l ops).2 = 0 ∨ (kindR l ops).2 = 4) ∧ ((kindR l ops).2 = 4 → evalR l row ops = (noVl, 4)) ∧
    ((kindR l ops).2 = 0 → evalR l row ops = foldV l row ops ∧ ((evalR l row ops).2 = 5 ∨ ((evalR l row ops).2 = 0 ∧ RelKV (kindR l ops).1 (evalR l row ops).1))) := by
  have hk : kindR l ops = kindF l ops := by unfold kindR; rw [if_neg (by simp [hl]), if_neg (by simp [hx])]
  refine ⟨hk, by rw [hk]; exact kind_err ops hg [], fun h4 => ?_, fun h0 => ?_⟩
  · unfold evalR; rw [if_neg (by simp [hw]), if_pos (by rw [h4]; decide), h4]
  · have he : evalR l row ops = foldV l row ops := by unfold evalR; rw [if_neg (by simp [hw]), if_neg (by simp [h0])]
    refine ⟨he, ?_⟩
    rw [he, hk]
    exact fold_told hr ops hg [] [] rel_nil (by rw [hk] at h0; exact h0)

/-! ### Ops of twigs, the columns and rows of the statements -/
theorem at_id : colAt colsL ⟨#[105, 100]⟩ = 0 := by decide +kernel
theorem at_n : colAt colsL ⟨#[110]⟩ = 1 := by decide +kernel
theorem at_s : colAt colsL ⟨#[115]⟩ = 2 := by decide +kernel
theorem at_b : colAt colsL ⟨#[98]⟩ = 3 := by decide +kernel
theorem at_name (j : Int) : 0 ≤ colAt colsL (nameC j) := by
 unfold nameC
 split
 ·rw [at_id]; decide
 ·split
  ·rw [at_n]; decide
  ·split
   ·rw [at_s]; decide
   ·rw [at_b]; decide
theorem name_small (j : Int) : (nameC j).size ≤ 2 := by
 unfold nameC
 split
 ·decide
 ·split
  ·decide
  ·split <;> decide
theorem lit_ok (n : Int) (s : ByteArray) : (litV n s).Ok := by
 have h1 := pickedF_bd n (by decide : (1 : Int) ≤ 40)
 have h2 := pickedF_bd (pickedF n 40 - 20) (by decide : (1 : Int) ≤ 2)
 have hc : ∀ x : ByteArray, (cutF x 4).size ≤ 4 := fun x => by rw [cutF_size]; omega
 have hm : 4 ≤ maxLen := by decide
 have hv : ∀ v : Vl, (0 ≤ v.k ∧ v.k ≤ 3) → (-20 ≤ v.n ∧ v.n ≤ 20) → ({ v with s := cutF v.s 4 } : Vl).Ok := fun v hk hn => ⟨by show _ ≤ v.k; omega, by show v.k ≤ _; omega, by show _ ≤ v.n; omega, by show v.n ≤ _; omega, Nat.le_trans (hc _) hm⟩
 unfold litV
 refine hv _ ?_ ?_
 ·unfold valueF noVl
  repeat' split
  all_goals (simp only []; omega)
 ·unfold valueF noVl
  repeat' split
  all_goals (simp only []; omega)
theorem good_lit (l : List ColL) (n : Int) (s : ByteArray) : GoodO l (litOp n s) := ⟨Nat.zero_le _, lit_ok n s, lit_check (lit_litV n s), by show (1 : Int) ≤ 1; decide, by show (1 : Int) ≤ 11; decide, fun h => absurd h (by show ¬ (1 : Int) = 2; decide)⟩
theorem good_col (n : Int) : GoodO colsL (colOp n) := ⟨Nat.le_trans (name_small _) (by decide), ok_no, ck_no, by show (1 : Int) ≤ 2; decide, by show (2 : Int) ≤ 11; decide, fun _ => at_name _⟩
theorem good_bare (l : List ColL) {k : Int} (h1 : 3 ≤ k) (h2 : k ≤ 11) : GoodO l (bareOp k) := ⟨Nat.zero_le _, ok_no, ck_no, by show 1 ≤ k; omega, h2, fun h => absurd h (by show ¬ k = 2; omega)⟩
theorem good_leaf (k n : Int) (s : ByteArray) : ∀ o ∈ leafOps k n s, GoodO colsL o := fun o ho => by
 unfold leafOps at ho
 split at ho <;> (rw [List.mem_singleton] at ho; subst ho)
 ·exact good_col n
 ·exact good_lit _ n s
theorem good_ops : ∀ (r : Nat) (t : Tw), ∀ o ∈ opsAt r t, GoodO colsL o
 | 0, .mk k n s ts => good_leaf k n s
 | r + 1, .mk k n s ts => by
  have hsub : ∀ i : Nat, ∀ o ∈ subO r ts n s i, GoodO colsL o := fun i => by
   unfold subO
   split
   ·exact good_ops r _
   ·exact good_leaf _ _ _
  have hk := pickedF_bd k (by decide : (1 : Int) ≤ 11)
  intro o ho
  rw [ops_step] at ho
  split at ho
  ·rw [List.mem_singleton] at ho; subst ho; exact good_lit _ n s
  ·split at ho
   ·rw [List.mem_singleton] at ho; subst ho; exact good_col n
   ·split at ho
    ·rcases List.mem_append.1 ho with ho | ho
     ·exact hsub 0 o ho
     ·rw [List.mem_singleton] at ho; subst ho; exact good_bare _ (by omega) (by omega)
    ·rcases List.mem_append.1 ho with ho | ho
     ·rcases List.mem_append.1 ho with ho | ho
      ·exact hsub 0 o ho
      ·exact hsub 1 o ho
     ·rw [List.mem_singleton] at ho; subst ho; exact good_bare _ (by omega) (by omega)
/-- The row of raw numbers. -/
def rowL (a b : Int) (s : ByteArray) (c : Int) : List Vl := [numV (pickedF a 12), numV (pickedF b 9), txtV (wordF (cutF s 2)), truthF c]
theorem row_good (a b : Int) (s : ByteArray) (c : Int) : rowF colsL (rowL a b s c) = 0 ∧ GoodR colsL (rowL a b s c) := by
 have f0 : fitV 0 ⟨⟨#[105, 100]⟩, 2⟩ (numV (pickedF a 12)) = 0 := fit_ok (ck_num _) (.inl rfl)
 have f1 : fitV 1 ⟨⟨#[110]⟩, 2⟩ (numV (pickedF b 9)) = 0 := fit_ok (ck_num _) (.inl rfl)
 have f2 : fitV 2 ⟨⟨#[115]⟩, 3⟩ (txtV (wordF (cutF s 2))) = 0 := fit_ok (ck_txt (word_small _)) (.inl rfl)
 have f3 : fitV 3 ⟨⟨#[98]⟩, 1⟩ (truthF c) = 0 := fit_ok (ck_truth _) ((k_truth c).elim (fun h => .inr ⟨h, by decide⟩) .inl)
 refine ⟨by unfold rowL; rw [row_4]; simp [rowA, colsL, f0, f1, f2, f3], fun i => ?_⟩
 match i with
 | 0 => exact ⟨ck_num _, .inl rfl⟩
 | 1 => exact ⟨ck_num _, .inl rfl⟩
 | 2 => exact ⟨ck_txt (word_small _), .inl rfl⟩
 | 3 => exact ⟨ck_truth _, (k_truth c).elim .inr .inl⟩
 | j + 4 => exact rel_no
theorem row_ok (a b : Int) (s : ByteArray) (c : Int) : ∀ v ∈ rowL a b s c, v.Ok := fun v hv => by
 have h1 := pickedF_bd a (by decide : (1 : Int) ≤ 12)
 have h2 := pickedF_bd b (by decide : (1 : Int) ≤ 9)
 have h3 := pickedF_bd c (by decide : (1 : Int) ≤ 3)
 simp only [rowL, List.mem_cons, List.not_mem_nil, or_false] at hv
 rcases hv with rfl | rfl | rfl | rfl
 ·exact ok_int (by omega)
 ·exact ok_int (by omega)
 ·exact ⟨by show _ ≤ (3 : Int); decide, by show (3 : Int) ≤ _; decide, by show _ ≤ (0 : Int); decide, by show (0 : Int) ≤ _; decide, Nat.le_trans (word_small _) (by decide)⟩
 ·unfold truthF
  split
  ·exact ok_no
  ·exact ⟨by show _ ≤ (1 : Int); decide, by show (1 : Int) ≤ _; decide, by show _ ≤ pickedF c 3; omega, by show pickedF c 3 ≤ _; omega, Nat.zero_le _⟩

end Go.Proofs.YtfooincnmobemaaGreatDoor.Ex

namespace Go.Proofs.YtfooincnmobemaaGreatDoor.Pc
open Go.RowKit V Pk Vl Go.Proofs.YtfooincnmobemaaGreatDoor.Nm
set_option linter.unusedVariables false
set_option linter.unusedSimpArgs false


def typesB : List (List UInt8) := [[], [66, 79, 79, 76], [73, 78, 84], [84, 69, 88, 84]]
abbrev TypesTab (w : World) : Prop := Tab.TabAt w 1 typesC
end Go.Proofs.YtfooincnmobemaaGreatDoor.Pc

namespace Go.Proofs.YtfooincnmobemaaGreatDoor.Ex
open Go.RowKit V Pk Vl Go.Proofs.YtfooincnmobemaaGreatDoor.Nm Go.Proofs.YtfooincnmobemaaGreatDoor.Pc
set_option linter.unusedVariables false
set_option linter.unusedSimpArgs false

theorem rowL_len (a b : Int) (s : ByteArray) (c : Int) : (rowL a b s c).length = 4 := rfl
variable {G : List (Nat × List Value)}
/-- Expressions that are fit: what Kind and Eval answer of them, with the columns and the row of the statements. -/
structure FitE (ops : List OpL) (row : List Vl) : Prop where
  ke : (kindR colsL ops).2 = 0 ∨ (kindR colsL ops).2 = 4
  bad : (kindR colsL ops).2 = 4 → evalR colsL row ops = (noVl, 4)
  good : (kindR colsL ops).2 = 0 → evalR colsL row ops = foldV colsL row ops ∧ ((evalR colsL row ops).2 = 5 ∨ ((evalR colsL row ops).2 = 0 ∧ RelKV (kindR colsL ops).1 (evalR colsL row ops).1))
theorem fit_ops (a b : Int) (s : ByteArray) (c : Int) {ops : List OpL} (hg : ∀ o ∈ ops, GoodO colsL o) (hx : exprF ops = 0) : FitE ops (rowL a b s c) := by
 obtain ⟨h1, h2⟩ := row_good a b s c
 obtain ⟨q1, q2, q3, q4⟩ := kind_eval cols_ok h1 h2 hg hx
 exact ⟨q2, q3, q4⟩

theorem places26_Ex5 : ∀ w, ((#[{ name := "Kind", type := 3, offset := 0, embedded := false, tag := "", pkgPath := "", byteOffset := 0 }, { name := "Int", type := 3, offset := 1, embedded := false, tag := "", pkgPath := "", byteOffset := 8 }, { name := "Text", type := 9, offset := 2, embedded := false, tag := "", pkgPath := "", byteOffset := 16 }] : Array Field).mapM fun f => do pure (f.offset, ← sizeOf f.type) : Sem (Array (Nat × Nat))).run Tryz.prog w = .ok #[(0, 1), (1, 1), (2, 1)] w := fun w => by simp [Tryz.sizeOf3, Tryz.sizeOf9]

set_option maxHeartbeats 4000000 in
set_option maxRecDepth 100000 in
theorem rowOf_vp (a : Int) (a1 : -9223372036854775808 ≤ a) (a2 : a ≤ 9223372036854775807) (b : Int) (b1 : -9223372036854775808 ≤ b) (b2 : b ≤ 9223372036854775807) (s : ByteArray) (hs : s.size ≤ maxLen) (c : Int) (c1 : -9223372036854775808 ≤ c) (c2 : c ≤ 9223372036854775807) : VP Tryz.prog G 6 [.v (.int .i64 a), .v (.int .i64 b), .v (.string s), .v (.int .i64 c)] (.list 3 ((rowL a b s c).flatMap cV) (rowL a b s c).length) := by
 refine VC.body Tryz.func6 rfl Tryz.ntmps6 (Nat.le_of_ble_eq_true rfl) fun X0 w0 S00 => ?_
 refine sr_ ?_
 refine os_ mv_ ?_
 refine nm_ [0, 1, 2, 3] ?_
 refine sr_ ?_
 refine os_ mv_ ?_
 refine OD.callP (wants_plain rfl) rfl rfl rfl Tryz.call5 (picked_vp G a 12 a1 a2 (by decide)) ⟨ot, opd_const, trivial⟩ ?_
 refine OD.still (wants_plain rfl) rfl (still_bld (pl := [(0, _), (1, _)]) (ds := [_, _, _]) rfl Tryz.zeroValue26 Tryz.runUnderlying26 places26_Ex5 ⟨rfl, opd_const, rfl, ot, trivial⟩ rfl rfl) ?_
 refine os_ mv_ ?_
 refine OD.callP (wants_plain rfl) rfl rfl rfl Tryz.call5 (picked_vp G b 9 b1 b2 (by decide)) ⟨ot, opd_const, trivial⟩ ?_
 refine OD.still (wants_plain rfl) rfl (still_bld (pl := [(0, _), (1, _)]) (ds := [_, _, _]) rfl Tryz.zeroValue26 Tryz.runUnderlying26 places26_Ex5 ⟨rfl, opd_const, rfl, ot, trivial⟩ rfl rfl) ?_
 refine os_ mv_ ?_
 refine OD.callP (wants_plain rfl) rfl rfl rfl Tryz.call14 (cut_vp s 2 hs) ⟨ot, opd_const, trivial⟩ ?_
 refine OD.callP (wants_plain rfl) rfl rfl rfl Tryz.call13 (Nm.word_vp (cutF s 2) (by rw [cutF_size]; exact Nat.le_trans (Nat.min_le_left _ _) hs)) ⟨ot, trivial⟩ ?_
 refine OD.still (wants_plain rfl) rfl (still_bld (pl := [(0, _), (2, _)]) (ds := [_, _, _]) rfl Tryz.zeroValue26 Tryz.runUnderlying26 places26_Ex5 ⟨rfl, opd_const, rfl, ot, trivial⟩ rfl rfl) ?_
 refine os_ mv_ ?_
 refine OD.callP (wants_plain rfl) rfl rfl rfl Tryz.call15 (Pc.truth_vp c c1 c2) ⟨ot, trivial⟩ ?_
 refine OD.bldS (pl := numD 0 [_, _, _, _]) (zvs := [.int .i64 0, .int .i64 0, .string ⟨#[]⟩, .int .i64 0, .int .i64 0, .string ⟨#[]⟩, .int .i64 0, .int .i64 0, .string ⟨#[]⟩, .int .i64 0, .int .i64 0, .string ⟨#[]⟩]) (ds := [_, _, _, _, _, _, _, _, _, _, _, _]) (wants_plain rfl) rfl rfl Tryz.zeroValue26 Tryz.runUnderlying23 Tryz.sizeOf26 rfl rfl (by kernel_rfl) ⟨rfl, ot, rfl, ot, rfl, ot, rfl, ot, trivial⟩ (by exact rfl) (fill_full (by exact rfl) (by exact rfl) (by exact rfl)) (fun b21 => ?_)
 refine OD.perm (perm_q11 (S1 := [⟨b21, 26, 4 * 3, List.flatMap cV ([numV (pickedF a 12), numV (pickedF b 9), txtV (wordF (cutF s 2)), truthF c])⟩]) (A := [])) ?_
 refine os_ mv_ ?_
 refine OD.wk (Wk.as_ (n := 22) (l' := [(8, _)]) (S' := ([⟨b21, 26, 4 * 3, List.flatMap cV ([numV (pickedF a 12), numV (pickedF b 9), txtV (wordF (cutF s 2)), truthF c])⟩])) rfl rfl ⟨lk, trivial⟩) ?_
 refine OD.nil ?_
 refine CD.giveL (t := 8) (Sq := [⟨b21, 26, 4 * 3, List.flatMap cV ([numV (pickedF a 12), numV (pickedF b 9), txtV (wordF (cutF s 2)), truthF c])⟩]) lk (ownL_row (g := cV) (sz := 3) (e := 26) (ls := [numV (pickedF a 12), numV (pickedF b 9), txtV (wordF (cutF s 2)), truthF c]) (Nat.le_refl _) (show 4 ≤ maxLen by decide)) (fm_len cV_len _) (perm_r11 (A := [])) ?_
 refine CD.ret ?_
 refine ⟨.inr rfl, _, [], List.nil_sublist _, ret_one Tryz.results6 (res_tmp (Nat.le_of_ble_eq_true rfl) lk), ?_⟩
 exact ⟨rfl, rfl⟩

theorem Eval_at (hm : (3, marksC) ∈ G) (hw : (0, wordsC) ∈ G) (ht : (1, typesC) ∈ G) (a b : Int) (s : ByteArray) (c : Int) (ops : List OpL) (hg : ∀ o ∈ ops, GoodO colsL o) : VP Tryz.prog G 7 [.list 2 (colsL.flatMap cC) colsL.length, .list 3 ((rowL a b s c).flatMap cV) (rowL a b s c).length, .list 5 (ops.flatMap cO) ops.length] (vlD (evalR colsL (rowL a b s c) ops)) :=
 Eval_vp hm hw ht colsL (by decide) cols_sz (rowL a b s c) (by rw [rowL_len]; decide) (row_ok a b s c) ops (fun o ho => (hg o ho).nm) (fun o ho => (hg o ho).ok)


end Go.Proofs.YtfooincnmobemaaGreatDoor.Ex

namespace Go.Proofs.YtfooincnmobemaaGreatDoor.Ex
open Go.RowKit V Pk Vl Go.Proofs.YtfooincnmobemaaGreatDoor.Nm Go.Proofs.YtfooincnmobemaaGreatDoor.Pc
set_option linter.unusedVariables false
set_option linter.unusedSimpArgs false

/-! ### Ops over a stack, part by part -/
def stkG {α : Type} (z : α) (f : OpL → α → α → α × Int) : List OpL → List α → List α × Int
 | [], st => (st, 0)
 | o :: r, st =>
  if (f o (argA z o.k st) (argB z o.k st)).2 ≠ 0 then ([], (f o (argA z o.k st) (argB z o.k st)).2)
  else stkG z f r (st.take (st.length - (popsF o.k).toNat) ++ [(f o (argA z o.k st) (argB z o.k st)).1])
section
variable {α : Type} {z : α} {f : OpL → α → α → α × Int}
theorem stk_ok {o : OpL} {r : List OpL} {st : List α} (h : (f o (argA z o.k st) (argB z o.k st)).2 = 0) : stkG z f (o :: r) st = stkG z f r (st.take (st.length - (popsF o.k).toNat) ++ [(f o (argA z o.k st) (argB z o.k st)).1]) := by
 rw [stkG, if_neg (by rw [h]; simp)]
theorem stk_bad {o : OpL} {r : List OpL} {st : List α} (h : (f o (argA z o.k st) (argB z o.k st)).2 ≠ 0) : stkG z f (o :: r) st = ([], (f o (argA z o.k st) (argB z o.k st)).2) := by
 rw [stkG, if_pos h]
theorem fold_stk : ∀ (ops : List OpL) (st : List α), foldG z f ops st = if (stkG z f ops st).2 ≠ 0 then (z, (stkG z f ops st).2) else ((stkG z f ops st).1.getD 0 z, 0)
 | [], st => rfl
 | o :: r, st => by
  by_cases h : (f o (argA z o.k st) (argB z o.k st)).2 = 0
  ·rw [cons_ok h, stk_ok h]; exact fold_stk r _
  ·rw [cons_bad h, stk_bad h, if_pos h]
theorem stk_append : ∀ (a b : List OpL) (st : List α), (stkG z f a st).2 = 0 → stkG z f (a ++ b) st = stkG z f b (stkG z f a st).1
 | [], b, st, _ => rfl
 | o :: r, b, st, h => by
  by_cases he : (f o (argA z o.k st) (argB z o.k st)).2 = 0
  ·rw [stk_ok he] at h ⊢; rw [List.cons_append, stk_ok he]; exact stk_append r b _ h
  ·rw [stk_bad he] at h; exact absurd h he
theorem arg_frame (k : Int) (s0 st : List α) (h : popsF k ≤ st.length) : argA z k (s0 ++ st) = argA z k st ∧ argB z k (s0 ++ st) = argB z k st := by
 have hp := pops_bd k
 unfold argA argB
 refine ⟨?_, ?_⟩
 ·split
  ·rw [List.getD_eq_getElem?_getD, List.getD_eq_getElem?_getD, List.length_append, List.getElem?_append_right (by omega)]
   congr 2; omega
  ·rfl
 ·split
  ·rw [List.getD_eq_getElem?_getD, List.getD_eq_getElem?_getD, List.length_append, List.getElem?_append_right (by omega)]
   congr 2; omega
  ·rfl
theorem take_frame (k : Int) (s0 st : List α) (h : popsF k ≤ st.length) : (s0 ++ st).take ((s0 ++ st).length - (popsF k).toNat) = s0 ++ st.take (st.length - (popsF k).toNat) := by
 have hp := pops_bd k
 rw [List.length_append, show s0.length + st.length - (popsF k).toNat = s0.length + (st.length - (popsF k).toNat) by omega, List.take_length_add_append]
theorem next_len (k : Int) (st : List α) (x : α) (h : popsF k ≤ st.length) : (((st.take (st.length - (popsF k).toNat) ++ [x]).length : Nat) : Int) = st.length + (1 - popsF k) := by
 have hp := pops_bd k
 rw [List.length_append, List.length_take, List.length_singleton]; omega
theorem stk_frame : ∀ (ops : List OpL) (s0 st : List α) (h' : Int), runs st.length ops = some h' → (stkG z f ops st).2 = 0 → stkG z f ops (s0 ++ st) = (s0 ++ (stkG z f ops st).1, 0) ∧ (((stkG z f ops st).1.length : Nat) : Int) = h'
 | [], s0, st, h', hr, _ => by cases hr; exact ⟨rfl, rfl⟩
 | o :: r, s0, st, h', hr, h0 => by
  rw [runs] at hr
  split at hr
  ·rename_i he
   have hp := (err_pops he).1
   obtain ⟨a1, a2⟩ := arg_frame (z := z) o.k s0 st hp
   by_cases hz : (f o (argA z o.k st) (argB z o.k st)).2 = 0
   ·rw [stk_ok hz] at h0 ⊢
    rw [stk_ok (by rw [a1, a2]; exact hz), a1, a2, take_frame o.k s0 st hp, List.append_assoc]
    exact stk_frame r s0 _ h' (by rw [next_len o.k st _ hp]; exact hr) h0
   ·rw [stk_bad hz] at h0; exact absurd h0 hz
  ·cases hr
end
/-- An expression that leaves one thing. -/
theorem stk_one {l : List ColL} {row : List Vl} {x : List OpL} (hr : runs 0 x = some 1) (h : (foldV l row x).2 = 0) (s0 : List Vl) : stkG noVl (evalF l row) x s0 = (s0 ++ [(foldV l row x).1], 0) := by
  unfold foldV at h ⊢
  rw [fold_stk] at h ⊢
  have h0 : (stkG noVl (evalF l row) x []).2 = 0 := by
    by_cases hz : (stkG noVl (evalF l row) x []).2 = 0
    · exact hz
    · rw [if_pos hz] at h; exact absurd h hz
  obtain ⟨q1, q2⟩ := stk_frame x s0 [] 1 hr h0
  rw [List.append_nil] at q1
  rw [q1, if_neg (by simpa using h0)]
  have hl : (stkG noVl (evalF l row) x []).1.length = 1 := by omega
  obtain ⟨v, hv⟩ := List.length_eq_one_iff.1 hl
  rw [hv]; rfl
/-- What Eval answers when it does not fail. -/
theorem eval_good {ops : List OpL} {row : List Vl} (hf : FitE ops row) (h : (evalR colsL row ops).2 = 0) : (kindR colsL ops).2 = 0 ∧ evalR colsL row ops = foldV colsL row ops := by
  rcases hf.ke with hk | hk
  · exact ⟨hk, (hf.good hk).1⟩
  · rw [hf.bad hk] at h; exact absurd h (by decide)
end Go.Proofs.YtfooincnmobemaaGreatDoor.Ex

namespace Go.Proofs.YtfooincnmobemaaGreatDoor.Ex
end Go.Proofs.YtfooincnmobemaaGreatDoor.Ex


namespace Go.Proofs.YtfooincnmobemaaGreatDoor.V
open Go.RowKit
set_option linter.unusedVariables false
set_option linter.unusedSimpArgs false

variable {P : Program} {C : Ctx} {G : List (Nat × List Value)} {Q : Exit → St → Prop} {x : St} {ops : Array Oper} {l : List Oper} {o : Oper} {S1 T : List Nat} {fuel i : Nat} {ld : Array Bool}

/-- What the entries of Go's library read of a list of bytes. -/
theorem bytesOf_rep {w w' : World} {L : Nat → Prop} {bs : List UInt8} {n : Nat} {v : Value} (hr : Rep w L (.list 1 (bs.flatMap cB) n) v) (hw : ∀ b, b < w.heap.size → ¬ L b → w'.heap[b]? = w.heap[b]?) :
    (Extern.Bytes.bytesOf v).run P w' = .ok ⟨bs.toArray⟩ w' := by
  rw [cB_map] at hr
  generalize hcs : bs.map byteD = cs at hr
  cases hr with
  | void _ ad cap =>
    have : bs = [] := by simpa using hcs
    subst this
    cases ad <;> rfl
  | list _ _ _ b o'' cap g hl q1 q2 hb hL hc hrr =>
    subst hcs
    simp only [List.length_map, Nat.mul_one] at hl hc
    have hrun := Lib.run_loadBytesX (P := P) w' (bs.map fun c => (c.toNat : Int)) ⟨b, o'', none⟩ .empty (fun j x hj => by
      rw [Addr.add_mid]
      have hjl : j < bs.length := by have := (List.getElem?_eq_some_iff.1 hj).1; simpa using this
      have hh := World.cell?_of_block (w := w) (a := ⟨b, o'' + j, none⟩) (hw b hb hL)
      rw [hh, hc j hjl]
      have h1 := hrr j (by simpa using hjl)
      simp only [List.getElem_map, byteD] at h1
      rw [h1.v_eq]
      rw [List.getElem?_map, List.getElem?_eq_getElem hjl] at hj
      simp only [Option.map_some, Option.some.injEq] at hj
      rw [hj])
    rw [List.length_map, hl] at hrun
    have e : Lib.bytesOf (bs.map fun c => (c.toNat : Int)) = bs := by
      unfold Lib.bytesOf
      rw [List.map_map]
      have : ∀ c : UInt8, ((fun n : Int => UInt8.ofNat n.toNat) ∘ fun c : UInt8 => (c.toNat : Int)) c = c := fun c => by simp
      rw [List.map_congr_left (g := id) (fun c _ => this c), List.map_id]
    rw [e] at hrun
    show (Extern.Bytes.loadBytes ⟨b, o'', none⟩ n .empty).run P w' = _
    rw [hrun]
    congr 1
    apply ByteArray.ext
    show (#[] : Array UInt8) ++ bs.toArray = bs.toArray
    simp

/-- internal/bytealg.Compare of two lists of bytes. -/
theorem still_bytecmp {f : FuncId} {fn : Func} {y z : Operand} {ts : Array TypeId} {ds bs : List UInt8} {n m : Nat} (ho : o.op = .call { callee := .value (.func f), args := #[y, z], argTypes := ts }) (hy : opd x y = .list 1 (ds.flatMap cB) n) (hz : opd x z = .list 1 (bs.flatMap cB) m)
    (hf : P.funcs[f]? = some fn) (hname : (fn.name == "runtime.NumGoroutine") = false) (hb : fn.body.isNone = true) (hn : Extern.findNext fn = none) (he : Extern.find fn = some Extern.BytealgCompare.compare) :
    Still P G x o .imm (.v (.int .i64 (Lib.compareBytes ds bs))) := fun C a w _ h => by
  have h1 := h.eval y
  have h2 := h.eval z
  rw [hy] at h1
  rw [hz] at h2
  refine ⟨_, .v _, fun w' hw => ?_⟩
  have e1 := bytesOf_rep (P := P) h1 hw
  have e2 := bytesOf_rep (P := P) h2 hw
  have hc : (callFunc f #[a.eval y, a.eval z]).run P w' = .ok (.value (.int .i64 (Lib.compareBytes ds bs))) w' := by
    rw [run_callFunc_extern hf hname hb hn he]
    have : (Extern.BytealgCompare.compare #[a.eval y, a.eval z]).run P w' = .ok (.int .i64 (Lib.compareBytes ds bs)) w' := by
      change Sem.run P (do pure (goInt (Extern.BytealgCompare.cmp (← Extern.Bytes.bytesOf (a.eval y)) (← Extern.Bytes.bytesOf (a.eval z))))) w' = _
      simp only [Sem.run_bind, e1, e2, Sem.run_pure, Result.andThen_ok, Lib.cmp_eq]
      rfl
    rw [this]; rfl
  unfold execOp
  have ef : a.eval (.func f) = .func (.func f) #[] #[] := rfl
  generalize hy' : a.eval y = u at *
  generalize hz' : a.eval z = v at *
  simp only [ho, resolve, ef, Deferred.ofValue, Sem.run_bind, Sem.run_pure, Result.andThen_ok, invoke]
  simp [hc, hy', hz']
/-- A block's cells may be read another way, each by itself. -/
theorem Wk.reread {n : Nat} {l : List (Nat × D)} {S : List Blk} {k : Nat} {B : Blk} {cs' : List D} (hk : S[k]? = some B) (hl : cs'.length ≤ B.size) (hc : ∀ (i : Nat) (d : D), cs'[i]? = some d → ∃ d0, B.cs[i]? = some d0 ∧ ∀ (w : World) (L : Nat → Prop) (v : Value), Rep w L d0 v → Rep w L d v) : Wk ⟨n, l, S⟩ ⟨n, l, S.set k { B with cs := cs' }⟩ := fun C a w h => by
  have hkl := (List.getElem?_eq_some_iff.1 hk).1
  have hkB := (List.getElem?_eq_some_iff.1 hk).2
  have hbks : bks (S.set k { B with cs := cs' }) = bks S := by
    unfold bks
    rw [List.map_set]
    apply List.ext_getElem (by simp)
    intro i q1 q2
    rw [List.getElem_set]
    split
    · rename_i e; subst e; simp [hkB]
    · rfl
  have hlive : live C.X (S.set k { B with cs := cs' }) = live C.X S := by funext b; simp only [live, hbks]
  refine ⟨h.defers, h.size, fun t ht => ?_, ⟨fun B' hB' => ?_, ?_⟩, ?_, h.ex, h.tab⟩
  · simp only [hlive]; exact h.env t ht
  · simp only [hlive]
    obtain ⟨j, hj, hje⟩ := List.mem_iff_getElem.1 hB'
    rw [List.length_set] at hj
    rw [List.getElem_set] at hje
    by_cases e : k = j
    · rw [if_pos e] at hje
      subst hje
      obtain ⟨r0, cur, r1, r2, r3, r4⟩ := h.own.at_ B (List.mem_of_getElem? hk)
      refine ⟨r0, cur, r1, r2, hl, fun i hi => ?_⟩
      simp only at hi hl
      obtain ⟨d0, hd, hrr⟩ := hc i _ (List.getElem?_eq_getElem hi)
      obtain ⟨hd1, hd2⟩ := List.getElem?_eq_some_iff.1 hd
      obtain ⟨u, hu, hq⟩ := r4 i hd1
      rw [hd2] at hq
      exact ⟨u, hu, hrr _ _ _ hq⟩
    · rw [if_neg e] at hje
      subst hje
      exact h.own.at_ _ (List.getElem_mem hj)
  · simp only [hbks]; exact h.own.apart
  · simp only [hbks]; exact h.fr
theorem Rep.ofNil {w : World} {L : Nat → Prop} (sz : Nat) {v : Value} (h : Rep w L (.v (.slice none 0 0)) v) : Rep w L (.list sz [] 0) v := by rw [h.v_eq]; exact .nil sz
/-- Nil slices in two cells are empty lists. -/
theorem Wk.nil2 {n : Nat} {l : List (Nat × D)} {S : List Blk} {k : Nat} {b e : Nat} {sz sz' : Nat} (hk : S[k]? = some ⟨b, e, 2, [.v (.slice none 0 0), .v (.slice none 0 0)]⟩) : Wk ⟨n, l, S⟩ ⟨n, l, S.set k ⟨b, e, 2, [.list sz [] 0, .list sz' [] 0]⟩⟩ :=
  Wk.reread hk (by simp) fun i d hd => by
    match i, hd with
    | 0, hd => cases hd; exact ⟨_, rfl, fun _ _ _ h => h.ofNil sz⟩
    | 1, hd => cases hd; exact ⟨_, rfl, fun _ _ _ h => h.ofNil sz'⟩
    | i + 2, hd => simp at hd
/-- A piece of a list, from a place up to another one. -/
theorem sl_mid {α : Type} {g : α → List D} {t e : TypeId} {sz l' h' : Nat} {lo hi : Option Operand} (hg : ∀ a, (g a).length = sz) {ls : List α} (hlo : lo = none → l' = 0) (hhi : hi = none → h' = ls.length)
    (hu : ∀ w, (underlying t).run P w = .ok (.slice e) w) (hs : ∀ w, (sizeOf e).run P w = .ok sz w) (h1 : l' ≤ h') (h2 : h' ≤ ls.length) : Rs P G t lo hi l' h' (.list sz (ls.flatMap g) ls.length) (.list sz (((ls.take h').drop l').flatMap g) ((ls.take h').drop l').length) := by
  have h := sl_list (P := P) (G := G) (sz := sz) (cs := ls.flatMap g) hlo hhi hu hs h1 h2
  rw [fm_drop hg, fm_take hg, ← List.drop_take] at h
  rw [show ((ls.take h').drop l').length = h' - l' by rw [List.length_drop, List.length_take]; omega]
  exact h
end Go.Proofs.YtfooincnmobemaaGreatDoor.V
