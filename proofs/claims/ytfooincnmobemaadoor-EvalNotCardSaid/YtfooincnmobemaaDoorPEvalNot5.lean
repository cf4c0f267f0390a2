/-
  What the proof of EvalNot leans on, part 5 of 7: walks of the program's functions at the level of values, and plain facts of what they compute.
-/
import Derived.Test.YtfooincnmobemaaDoorPEvalNot4
namespace Go.Proofs.YtfooincnmobemaaDoor.Ex
open Go.RowKit V Pk Vl Go.Proofs.YtfooincnmobemaaDoor.Cd
set_option linter.unusedVariables false
set_option linter.unusedSimpArgs false

def wr (n : Int) : Int := IntKind.i64.wrap n
theorem wr_bd (n : Int) : -9223372036854775808 ≤ wr n ∧ wr n ≤ 9223372036854775807 := by unfold wr; rw [IntKind.wrap_i64]; omega
def truthV (b : Bool) : Vl := if b = true then ⟨1, 1, ⟨#[]⟩⟩ else ⟨1, 0, ⟨#[]⟩⟩
def selV (a b : Vl) (i : Nat) : Vl := if i = 0 then a else b
theorem sel_cells (a b : Vl) {i : Nat} (h : i < 2) : (([.v (.int .i64 a.k), .v (.int .i64 a.n), .v (.string a.s), .v (.int .i64 b.k), .v (.int .i64 b.n), .v (.string b.s)] : List D).drop (i * 3)).take 3 = [.v (.int .i64 (selV a b i).k), .v (.int .i64 (selV a b i).n), .v (.string (selV a b i).s)] := by
 match i, h with
 | 0, _ | 1, _ => rfl
/-- What value.logic answers. -/
def logicF (a b : Vl) (d : Int) : Vl × Int :=
  if (a.k ≠ 1 ∧ a.k ≠ 0) ∨ (b.k ≠ 1 ∧ b.k ≠ 0) then (noVl, 4) else if a.k = 1 ∧ a.n = d then (a, 0) else if b.k = 1 ∧ b.n = d then (b, 0) else if a.k = 0 ∨ b.k = 0 then (noVl, 0) else (a, 0)
theorem sel_all {a b : Vl} {p : Vl → Prop} {i : Nat} (h : ∀ j, j < i → p (selV a b j)) (hi : 2 ≤ i) : p a ∧ p b := ⟨h 0 (by omega), h 1 (by omega)⟩
theorem sel_more {a b : Vl} {p : Vl → Prop} {i : Nat} (h : ∀ j, j < i → p (selV a b j)) (h1 : p (selV a b i)) : ∀ j, j < i + 1 → p (selV a b j) := fun j hj => by
 by_cases e : j = i
 ·subst e; exact h1
 ·exact h j (by omega)
theorem logic_bad {a b : Vl} {d : Int} {i : Nat} (hi : i < 2) (h1 : (selV a b i).k ≠ 1) (h2 : (selV a b i).k ≠ 0) : logicF a b d = (noVl, 4) := by
 unfold logicF
 match i, hi with
 | 0, _ => rw [if_pos (.inl ⟨h1, h2⟩)]
 | 1, _ => rw [if_pos (.inr ⟨h1, h2⟩)]
theorem logic_hit {a b : Vl} {d : Int} {i : Nat} (hi : i < 2) (hg : ¬ ((a.k ≠ 1 ∧ a.k ≠ 0) ∨ (b.k ≠ 1 ∧ b.k ≠ 0))) (h0 : ∀ j, j < i → ¬ ((selV a b j).k = 1 ∧ (selV a b j).n = d)) (h1 : (selV a b i).k = 1) (h2 : (selV a b i).n = d) : logicF a b d = (selV a b i, 0) := by
 unfold logicF
 rw [if_neg hg]
 match i, hi with
 | 0, _ => rw [if_pos ⟨h1, h2⟩]; rfl
 | 1, _ => rw [if_neg (show ¬ (a.k = 1 ∧ a.n = d) from h0 0 (by omega)), if_pos (show b.k = 1 ∧ b.n = d from ⟨h1, h2⟩)]; rfl
/-- What value.arith answers. -/
def arithF (k a b : Int) : Int × Bool :=
  if k = 8 then (wr (a + b), decide (wr (a + b) < a) == decide (b < 0)) else if k = 9 then (wr (a - b), decide (wr (a - b) > a) == decide (b < 0))
  else (wr (a * b), a == 0 || (wr ((wr (a * b)).tdiv a) == b && !(a == -1 && b == -9223372036854775808)))
def nullF (a b : Vl) : Bool := a.k == 0 || b.k == 0
/-- What value.Two answers. -/
def twoF (k : Int) (a b : Vl) : Vl × Int :=
  if bothV a b ≠ 0 then (noVl, bothV a b) else if k = 3 then logicF a b 0 else if k = 4 then logicF a b 1
  else if k = 6 ∨ k = 7 then (if nullF a b = true then (noVl, 0) else if a.k ≠ b.k then (noVl, 4) else (truthV ((cmpV a b == 0 && k == 6) || (decide (cmpV a b < 0) && k == 7)), 0))
  else if k = 8 ∨ k = 9 ∨ k = 10 then (if (a.k ≠ 2 ∧ a.k ≠ 0) ∨ (b.k ≠ 2 ∧ b.k ≠ 0) then (noVl, 4) else if nullF a b = true then (noVl, 0) else if (arithF k a.n b.n).2 = true then (⟨2, (arithF k a.n b.n).1, ⟨#[]⟩⟩, 0) else (noVl, 5))
  else (noVl, 2)
/-- What value.One answers. -/
def oneF (k : Int) (a : Vl) : Vl × Int :=
  if checkV a ≠ 0 then (noVl, checkV a) else if k = 11 then (truthV (a.k == 0), 0)
  else if k = 5 then (if a.k = 0 then (a, 0) else if a.k = 1 then (truthV (a.n == 0), 0) else (noVl, 4)) else (noVl, 2)
def vlD (r : Vl × Int) : D := .tup [.agg (cV r.1), .v (.int .i64 r.2)]
variable {G : List (Nat × List Value)}

theorem places33_Ex2 : ∀ w, ((#[{ name := "Kind", type := 3, offset := 0, embedded := false, tag := "", pkgPath := "", byteOffset := 0 }, { name := "Int", type := 3, offset := 1, embedded := false, tag := "", pkgPath := "", byteOffset := 8 }, { name := "Text", type := 9, offset := 2, embedded := false, tag := "", pkgPath := "", byteOffset := 16 }] : Array Field).mapM fun f => do pure (f.offset, ← sizeOf f.type) : Sem (Array (Nat × Nat))).run Tryd.prog w = .ok #[(0, 1), (1, 1), (2, 1)] w := fun w => by simp [Tryd.sizeOf3, Tryd.sizeOf9]

set_option maxHeartbeats 4000000 in
set_option maxRecDepth 100000 in
theorem truth_vp (b : Bool) : VP Tryd.prog G 32 [.v (.bool b)] (.agg (cV (truthV b))) := by
 refine VC.body Tryd.func32 rfl Tryd.ntmps32 (Nat.le_of_ble_eq_true rfl) fun X0 w0 S00 => ?_
 refine CD.seq ?_
 refine CD.region ?_
 refine OD.alloc (ds := [_, _, _]) (wants_plain rfl) rfl rfl Tryd.zeroValue33 rfl (fun b2 => ?_)
 refine OD.wk (Wk.as_ (n := 6) (l' := [(0, _), (2, _)]) (S' := [⟨b2, 33, 3, [_, _, _]⟩]) rfl rfl ⟨lk, lk, trivial⟩) ?_
 refine OD.nil ?_
 refine CD.seq ?_
 refine CD.seq ?_
 refine CD.region ?_
 refine OD.still (wants_plain rfl) rfl (still_mv rfl ot) ?_
 refine OD.wk (Wk.as_ (n := 6) (l' := [(2, _), (3, _)]) (S' := [⟨b2, 33, 3, [_, _, _]⟩]) rfl rfl ⟨lk, lk, trivial⟩) ?_
 refine OD.nil ?_
 refine CD.cond ot (fun hc0 => ?_) (fun hc0 => ?_)
 ·have hc0' := hc0
  (try simp only [V.cnd, ne_eq] at hc0')
  refine CD.seq ?_
  refine CD.region ?_
  refine OD.still (wants_plain rfl) rfl (still_bld (pl := [(0, _), (1, _)]) (ds := [_, _, _]) rfl Tryd.zeroValue33 Tryd.runUnderlying33 places33_Ex2 ⟨rfl, opd_const, rfl, opd_const, trivial⟩ rfl rfl) ?_
  refine OD.store (k := 0) (cs' := [_, _, _]) (wants_plain rfl) rfl rfl ot rfl rfl ot rfl rfl Tryd.sizeOf33 rfl rfl rfl ?_
  refine OD.wk (Wk.as_ (n := 6) (l' := [(2, _)]) (S' := [⟨b2, 33, 3, [_, _, _]⟩]) rfl rfl ⟨lk, trivial⟩) ?_
  refine OD.nil ?_
  refine CD.ret ?_
  refine ⟨.inr rfl, _, [], List.nil_sublist _, ret_one Tryd.results32 (res_cells (k := 0) (ds := [_, _, _]) (Nat.le_of_ble_eq_true rfl) lk rfl rfl Tryd.isAgg33 Tryd.sizeOf33 rfl rfl), ?_⟩
  refine ⟨?_, rfl⟩
  unfold truthV
  simp_all [cV]
 ·have hc0' := hc0
  (try simp only [V.cnd, ne_eq] at hc0')
  refine CD.skip ?_
  refine CD.seq ?_
  refine CD.region ?_
  refine OD.still (wants_plain rfl) rfl (still_bld (pl := [(0, _)]) (ds := [_, _, _]) rfl Tryd.zeroValue33 Tryd.runUnderlying33 places33_Ex2 ⟨rfl, opd_const, trivial⟩ rfl rfl) ?_
  refine OD.store (k := 0) (cs' := [_, _, _]) (wants_plain rfl) rfl rfl ot rfl rfl ot rfl rfl Tryd.sizeOf33 rfl rfl rfl ?_
  refine OD.wk (Wk.as_ (n := 6) (l' := [(2, _)]) (S' := [⟨b2, 33, 3, [_, _, _]⟩]) rfl rfl ⟨lk, trivial⟩) ?_
  refine OD.nil ?_
  refine CD.ret ?_
  refine ⟨.inr rfl, _, [], List.nil_sublist _, ret_one Tryd.results32 (res_cells (k := 0) (ds := [_, _, _]) (Nat.le_of_ble_eq_true rfl) lk rfl rfl Tryd.isAgg33 Tryd.sizeOf33 rfl rfl), ?_⟩
  refine ⟨?_, rfl⟩
  unfold truthV
  simp_all [cV]

set_option maxHeartbeats 4000000 in
set_option maxRecDepth 100000 in
theorem null_vp (a b : Vl) : VP Tryd.prog G 30 [.agg (cV a), .agg (cV b)] (.v (.bool (nullF a b))) := by
 refine VC.body Tryd.func30 rfl Tryd.ntmps30 (Nat.le_of_ble_eq_true rfl) fun X0 w0 S00 => ?_
 unfold cV
 refine CD.seq ?_
 refine CD.region ?_
 refine OD.box (ds := [_, _, _]) (wants_plain rfl) rfl rfl ot rfl rfl (fun b2 => ?_)
 refine OD.box (ds := [_, _, _]) (wants_plain rfl) rfl rfl ot rfl rfl (fun b3 => ?_)
 refine OD.still (wants_plain rfl) rfl (still_as rfl opd_const) ?_
 refine OD.wk (Wk.as_ (n := 13) (l' := [(2, _), (3, _)]) (S' := [⟨b3, 33, 3, [_, _, _]⟩, ⟨b2, 33, 3, [_, _, _]⟩]) rfl rfl ⟨lk, lk, trivial⟩) ?_
 refine OD.nil ?_
 refine CD.seq ?_
 refine CD.region ?_
 refine OD.still (wants_plain rfl) rfl (still_r1 (mk := fun y => Op.fieldAddr 33 y 0) rfl ot (by first | exact fa_ptr (off := 0) Tryd.runUnderlying33 rfl Tryd.sizeOf3 rfl | exact fa_iptr (off := 0) Tryd.runUnderlying33 rfl Tryd.sizeOf3 rfl)) ?_
 refine OD.still (wants_plain rfl) rfl (still_r1 (mk := Op.load 3) rfl ot (by first | exact ld_blk (k := 1) rfl rfl Tryd.isAgg3 rfl | exact ld_i Tryd.isAgg3 rfl)) ?_
 refine OD.still (wants_plain rfl) rfl (still_bin rfl ot opd_const bin_eql) ?_
 refine OD.still (wants_plain rfl) rfl (still_mv rfl ot) ?_
 refine OD.split (t := 8) lk (fun hg8 => ?_) (fun hg8 => ?_)
 ·have hg8' := hg8; (try simp only [V.cnd, ne_eq] at hg8')
  refine OD.skip (wants_F rfl rfl rfl lk (by first | rfl | assumption)) rfl ?_
  refine OD.skip (wants_F rfl rfl rfl lk (by first | rfl | assumption)) rfl ?_
  refine OD.skip (wants_F rfl rfl rfl lk (by first | rfl | assumption)) rfl ?_
  refine OD.still (wants_plain rfl) rfl (still_pickT rfl ot (by first | rfl | assumption) opd_const) ?_
  refine OD.still (wants_plain rfl) rfl (still_as rfl ot) ?_
  refine OD.wk (Wk.as_ (n := 13) (l' := [(4, _)]) (S' := [⟨b3, 33, 3, [_, _, _]⟩, ⟨b2, 33, 3, [_, _, _]⟩]) rfl rfl ⟨lk, trivial⟩) ?_
  refine OD.nil ?_
  refine CD.ret ?_
  refine ⟨.inr rfl, _, [], List.nil_sublist _, ret_one Tryd.results30 (res_tmp (Nat.le_of_ble_eq_true rfl) lk), ?_⟩
  refine ⟨vb ?_, rfl⟩
  unfold nullF
  simp_all
 ·have hg8' := hg8; (try simp only [V.cnd, ne_eq] at hg8')
  refine OD.still (wants_T rfl rfl rfl lk (by first | rfl | assumption)) rfl (still_r1 (mk := fun y => Op.fieldAddr 33 y 0) rfl ot (by first | exact fa_ptr (off := 0) Tryd.runUnderlying33 rfl Tryd.sizeOf3 rfl | exact fa_iptr (off := 0) Tryd.runUnderlying33 rfl Tryd.sizeOf3 rfl)) ?_
  refine OD.still (wants_T rfl rfl rfl lk (by first | rfl | assumption)) rfl (still_r1 (mk := Op.load 3) rfl ot (by first | exact ld_blk (k := 0) rfl rfl Tryd.isAgg3 rfl | exact ld_i Tryd.isAgg3 rfl)) ?_
  refine OD.still (wants_T rfl rfl rfl lk (by first | rfl | assumption)) rfl (still_bin rfl ot opd_const bin_eql) ?_
  refine OD.still (wants_plain rfl) rfl (still_pickF rfl ot (by first | rfl | assumption) ot) ?_
  refine OD.still (wants_plain rfl) rfl (still_as rfl ot) ?_
  refine OD.wk (Wk.as_ (n := 13) (l' := [(4, _)]) (S' := [⟨b3, 33, 3, [_, _, _]⟩, ⟨b2, 33, 3, [_, _, _]⟩]) rfl rfl ⟨lk, trivial⟩) ?_
  refine OD.nil ?_
  refine CD.ret ?_
  refine ⟨.inr rfl, _, [], List.nil_sublist _, ret_one Tryd.results30 (res_tmp (Nat.le_of_ble_eq_true rfl) lk), ?_⟩
  refine ⟨vb ?_, rfl⟩
  unfold nullF
  simp_all

set_option maxHeartbeats 4000000 in
set_option maxRecDepth 100000 in
theorem logic_vp (a b : Vl) (d : Int) : VP Tryd.prog G 29 [.agg (cV a), .agg (cV b), .v (.int .i64 d)] (vlD (logicF a b d)) := by
 refine VC.body Tryd.func29 rfl Tryd.ntmps29 (Nat.le_of_ble_eq_true rfl) fun X0 w0 S00 => ?_
 unfold vlD cV
 have hnv := null_vp (G := G) a b
 unfold cV at hnv
 refine CD.seq ?_
 refine CD.region ?_
 refine OD.box (ds := [_, _, _]) (wants_plain rfl) rfl rfl ot rfl rfl (fun b3 => ?_)
 refine OD.box (ds := [_, _, _]) (wants_plain rfl) rfl rfl ot rfl rfl (fun b4 => ?_)
 refine OD.alloc (ds := [_, _, _]) (wants_plain rfl) rfl rfl Tryd.zeroValue33 rfl (fun b6 => ?_)
 refine OD.still (wants_plain rfl) rfl (still_as rfl opd_const) ?_
 refine OD.wk (Wk.as_ (n := 50) (l' := [(2, _), (3, _), (4, _), (6, _)]) (S' := [⟨b6, 33, 3, [_, _, _]⟩, ⟨b4, 33, 3, [_, _, _]⟩, ⟨b3, 33, 3, [_, _, _]⟩]) rfl rfl ⟨lk, lk, lk, lk, trivial⟩) ?_
 refine OD.nil ?_
 refine CD.seq ?_
 refine CD.seq ?_
 refine CD.region ?_
 refine OD.still (wants_plain rfl) rfl (still_r1 (mk := Op.load 33) rfl ot (by first | exact ld_blks (k := 2) (ds := [_, _, _]) rfl rfl Tryd.isAgg33 Tryd.sizeOf33 rfl rfl | exact ld_is (ds := [_, _, _]) Tryd.isAgg33 Tryd.sizeOf33 rfl rfl)) ?_
 refine OD.still (wants_plain rfl) rfl (still_r1 (mk := Op.load 33) rfl ot (by first | exact ld_blks (k := 1) (ds := [_, _, _]) rfl rfl Tryd.isAgg33 Tryd.sizeOf33 rfl rfl | exact ld_is (ds := [_, _, _]) Tryd.isAgg33 Tryd.sizeOf33 rfl rfl)) ?_
 refine OD.still (wants_plain rfl) rfl (still_bldA (pl := [(0, _), (1, _)]) (ds := [_, _, _, _, _, _]) rfl Tryd.zeroValue67 Tryd.runUnderlying67 Tryd.sizeOf33 ⟨rfl, ot, rfl, ot, trivial⟩ rfl rfl) ?_
 refine OD.still (wants_plain rfl) rfl (still_mv rfl opd_const) ?_
 refine OD.wk (Wk.as_ (n := 50) (l' := [(2, _), (3, _), (4, _), (6, _), (14, _), (15, _)]) (S' := [⟨b6, 33, 3, [_, _, _]⟩, ⟨b4, 33, 3, [_, _, _]⟩, ⟨b3, 33, 3, [_, _, _]⟩]) rfl rfl ⟨lk, lk, lk, lk, lk, lk, trivial⟩) ?_
 refine OD.nil ?_
 refine CD.block ?_
 refine CD.wk (Wk.asS (n := 50) (l' := [(2, .v (.int .i64 d)), (3, .v (.pointer (some ⟨b3, 0, none⟩))), (4, .v (.pointer (some ⟨b4, 0, none⟩))), (6, .v (.pointer (some ⟨b6, 0, none⟩))), (14, .agg [.v (.int .i64 a.k), .v (.int .i64 a.n), .v (.string a.s), .v (.int .i64 b.k), .v (.int .i64 b.n), .v (.string b.s)]), (15, .v (.int .i64 ((0) : Nat)))]) (S' := [⟨b6, 33, 3, [.v (.int .i64 0), .v (.int .i64 0), .v (.string ⟨#[]⟩)]⟩, ⟨b4, 33, 3, [.v (.int .i64 b.k), .v (.int .i64 b.n), .v (.string b.s)]⟩, ⟨b3, 33, 3, [.v (.int .i64 a.k), .v (.int .i64 a.n), .v (.string a.s)]⟩]) rfl (by repeat (first | exact List.Sublist.refl _ | apply List.Sublist.cons)) ⟨(by (repeat (first | exact look_hit | (apply look_at; focus (first | rfl | (simp; done) | (congr 2; omega))) | (apply look_miss; focus rfl))); done), (by (repeat (first | exact look_hit | (apply look_at; focus (first | rfl | (simp; done) | (congr 2; omega))) | (apply look_miss; focus rfl))); done), (by (repeat (first | exact look_hit | (apply look_at; focus (first | rfl | (simp; done) | (congr 2; omega))) | (apply look_miss; focus rfl))); done), (by (repeat (first | exact look_hit | (apply look_at; focus (first | rfl | (simp; done) | (congr 2; omega))) | (apply look_miss; focus rfl))); done), (by (repeat (first | exact look_hit | (apply look_at; focus (first | rfl | (simp; done) | (congr 2; omega))) | (apply look_miss; focus rfl))); done), (by (repeat (first | exact look_hit | (apply look_at; focus (first | rfl | (simp; done) | (congr 2; omega))) | (apply look_miss; focus rfl))); done), trivial⟩) (CD.loop (fun (i : Nat) y__ => (i ≤ 2) ∧ (∀ j, j < i → ¬ ((selV a b j).k ≠ 1 ∧ (selV a b j).k ≠ 0)) ∧ y__ = (⟨50, [(2, .v (.int .i64 d)), (3, .v (.pointer (some ⟨b3, 0, none⟩))), (4, .v (.pointer (some ⟨b4, 0, none⟩))), (6, .v (.pointer (some ⟨b6, 0, none⟩))), (14, .agg [.v (.int .i64 a.k), .v (.int .i64 a.n), .v (.string a.s), .v (.int .i64 b.k), .v (.int .i64 b.n), .v (.string b.s)]), (15, .v (.int .i64 (i : Nat)))], [⟨b6, 33, 3, [.v (.int .i64 0), .v (.int .i64 0), .v (.string ⟨#[]⟩)]⟩, ⟨b4, 33, 3, [.v (.int .i64 b.k), .v (.int .i64 b.n), .v (.string b.s)]⟩, ⟨b3, 33, 3, [.v (.int .i64 a.k), .v (.int .i64 a.n), .v (.string a.s)]⟩]⟩ : St)) (fun (i : Nat) => 2 - i) 0 ⟨(Nat.zero_le _), (fun j hj => absurd hj (Nat.not_lt_zero _)), rfl⟩ ?_)
 rintro i _ ⟨hi, hall, rfl⟩
 refine CD.seq ?_
 refine CD.region ?_
 refine OD.still (wants_plain rfl) rfl (still_bin rfl ot opd_const bin_lss) ?_
 refine OD.wk (Wk.as_ (n := 50) (l' := [(2, _), (3, _), (4, _), (6, _), (14, _), (15, _), (16, _)]) (S' := [⟨b6, 33, 3, [_, _, _]⟩, ⟨b4, 33, 3, [_, _, _]⟩, ⟨b3, 33, 3, [_, _, _]⟩]) rfl rfl ⟨lk, lk, lk, lk, lk, lk, lk, trivial⟩) ?_
 refine OD.nil ?_
 refine CD.seq ?_
 refine CD.cond ot (fun hc0 => ?_) (fun hc0 => ?_)
 ·have hc0' := hc0
  (try simp only [V.cnd, ne_eq] at hc0')
  have hlt : i < 2 := by omega
  refine CD.skip ?_
  refine CD.seq ?_
  refine CD.block ?_
  refine CD.seq ?_
  refine CD.region ?_
  refine OD.still (wants_plain rfl) rfl (still_vidxs (j := i) rfl ot ot Tryd.runUnderlying67 Tryd.sizeOf33 Tryd.isAgg33 rfl hlt (sel_cells a b hlt)) ?_
  refine OD.alloc (ds := [_, _, _]) (wants_plain rfl) rfl rfl Tryd.zeroValue33 rfl (fun b9 => ?_)
  refine OD.store (k := 0) (cs' := [_, _, _]) (wants_plain rfl) rfl rfl ot rfl rfl ot rfl rfl Tryd.sizeOf33 rfl rfl rfl ?_
  refine OD.wk (Wk.as_ (n := 50) (l' := [(2, _), (3, _), (4, _), (6, _), (9, _), (14, _), (15, _)]) (S' := [⟨b9, 33, 3, [_, _, _]⟩, ⟨b6, 33, 3, [_, _, _]⟩, ⟨b4, 33, 3, [_, _, _]⟩, ⟨b3, 33, 3, [_, _, _]⟩]) rfl rfl ⟨lk, lk, lk, lk, lk, lk, lk, trivial⟩) ?_
  refine OD.nil ?_
  refine CD.seq ?_
  refine CD.region ?_
  refine OD.still (wants_plain rfl) rfl (still_r1 (mk := fun y => Op.fieldAddr 33 y 0) rfl ot (by first | exact fa_ptr (off := 0) Tryd.runUnderlying33 rfl Tryd.sizeOf3 rfl | exact fa_iptr (off := 0) Tryd.runUnderlying33 rfl Tryd.sizeOf3 rfl)) ?_
  refine OD.still (wants_plain rfl) rfl (still_r1 (mk := Op.load 3) rfl ot (by first | exact ld_blk (k := 0) rfl rfl Tryd.isAgg3 rfl | exact ld_i Tryd.isAgg3 rfl)) ?_
  refine OD.still (wants_plain rfl) rfl (still_bin rfl ot opd_const bin_neq) ?_
  refine OD.still (wants_plain rfl) rfl (still_mv rfl ot) ?_
  refine OD.split (t := 21) lk (fun hg21 => ?_) (fun hg21 => ?_)
  ·have hg21' := hg21; (try simp only [V.cnd, ne_eq] at hg21')
   refine OD.still (wants_T rfl rfl rfl lk (by first | rfl | assumption)) rfl (still_r1 (mk := fun y => Op.fieldAddr 33 y 0) rfl ot (by first | exact fa_ptr (off := 0) Tryd.runUnderlying33 rfl Tryd.sizeOf3 rfl | exact fa_iptr (off := 0) Tryd.runUnderlying33 rfl Tryd.sizeOf3 rfl)) ?_
   refine OD.still (wants_T rfl rfl rfl lk (by first | rfl | assumption)) rfl (still_r1 (mk := Op.load 3) rfl ot (by first | exact ld_blk (k := 0) rfl rfl Tryd.isAgg3 rfl | exact ld_i Tryd.isAgg3 rfl)) ?_
   refine OD.still (wants_T rfl rfl rfl lk (by first | rfl | assumption)) rfl (still_bin rfl ot opd_const bin_neq) ?_
   refine OD.still (wants_plain rfl) rfl (still_pickT rfl ot (by first | rfl | assumption) ot) ?_
   refine OD.wk (Wk.as_ (n := 50) (l' := [(2, _), (3, _), (4, _), (6, _), (14, _), (15, _), (25, _)]) (S' := [⟨b9, 33, 3, [_, _, _]⟩, ⟨b6, 33, 3, [_, _, _]⟩, ⟨b4, 33, 3, [_, _, _]⟩, ⟨b3, 33, 3, [_, _, _]⟩]) rfl rfl ⟨lk, lk, lk, lk, lk, lk, lk, trivial⟩) ?_
   refine OD.nil ?_
   refine CD.cond ot (fun hc1 => ?_) (fun hc1 => ?_)
   ·have hc1' := hc1
    (try simp only [V.cnd, ne_eq] at hc1')
    have hres : logicF a b d = (noVl, 4) := logic_bad hlt (by simp_all) (by simp_all)
    refine CD.seq ?_
    refine CD.region ?_
    refine OD.still (wants_plain rfl) rfl (still_bld (pl := []) (ds := [_, _, _]) rfl Tryd.zeroValue33 Tryd.runUnderlying33 places33_Ex2 trivial rfl rfl) ?_
    refine OD.store (k := 1) (cs' := [_, _, _]) (wants_plain rfl) rfl rfl ot rfl rfl ot rfl rfl Tryd.sizeOf33 rfl rfl rfl ?_
    refine OD.still (wants_plain rfl) rfl (still_as rfl opd_const) ?_
    refine OD.wk (Wk.as_ (n := 50) (l' := [(6, _), (7, _)]) (S' := [⟨b9, 33, 3, [_, _, _]⟩, ⟨b6, 33, 3, [_, _, _]⟩, ⟨b4, 33, 3, [_, _, _]⟩, ⟨b3, 33, 3, [_, _, _]⟩]) rfl rfl ⟨lk, lk, trivial⟩) ?_
    refine OD.nil ?_
    refine CD.ret ?_
    refine ⟨.inr rfl, _, [], List.nil_sublist _, ret_two Tryd.results29 (res_cells (k := 1) (ds := [_, _, _]) (Nat.le_of_ble_eq_true rfl) lk rfl rfl Tryd.isAgg33 Tryd.sizeOf33 rfl rfl) (res_tmp (Nat.le_of_ble_eq_true rfl) lk), ?_⟩
    rw [hres]; exact ⟨rfl, rfl⟩
   ·have hc1' := hc1
    (try simp only [V.cnd, ne_eq] at hc1')
    have hone : ¬ ((selV a b i).k ≠ 1 ∧ (selV a b i).k ≠ 0) := by simp_all
    refine CD.skip ?_
    refine CD.region ?_
    refine OD.still (wants_plain rfl) rfl (still_bin rfl ot opd_const (bin_add (wrap_i64 (by omega) (by omega)))) ?_
    refine OD.still (wants_plain rfl) rfl (still_mv rfl ot) ?_
    refine OD.wk (Wk.as_ (n := 50) (l' := [(2, _), (3, _), (4, _), (6, _), (14, _), (15, _)]) (S' := [⟨b9, 33, 3, [_, _, _]⟩, ⟨b6, 33, 3, [_, _, _]⟩, ⟨b4, 33, 3, [_, _, _]⟩, ⟨b3, 33, 3, [_, _, _]⟩]) rfl rfl ⟨lk, lk, lk, lk, lk, lk, trivial⟩) ?_
    refine OD.nil ?_
    refine ⟨(i + 1), ⟨50, [(2, .v (.int .i64 d)), (3, .v (.pointer (some ⟨b3, 0, none⟩))), (4, .v (.pointer (some ⟨b4, 0, none⟩))), (6, .v (.pointer (some ⟨b6, 0, none⟩))), (14, .agg [.v (.int .i64 a.k), .v (.int .i64 a.n), .v (.string a.s), .v (.int .i64 b.k), .v (.int .i64 b.n), .v (.string b.s)]), (15, .v (.int .i64 (((i + 1)) : Nat)))], [⟨b6, 33, 3, [.v (.int .i64 0), .v (.int .i64 0), .v (.string ⟨#[]⟩)]⟩, ⟨b4, 33, 3, [.v (.int .i64 b.k), .v (.int .i64 b.n), .v (.string b.s)]⟩, ⟨b3, 33, 3, [.v (.int .i64 a.k), .v (.int .i64 a.n), .v (.string a.s)]⟩]⟩, ?_, Wk.asS (n := 50) rfl (by repeat (first | exact List.Sublist.refl _ | apply List.Sublist.cons)) ⟨(by (repeat (first | exact look_hit | (apply look_at; focus (first | rfl | (simp; done) | (congr 2; omega))) | (apply look_miss; focus rfl))); done), (by (repeat (first | exact look_hit | (apply look_at; focus (first | rfl | (simp; done) | (congr 2; omega))) | (apply look_miss; focus rfl))); done), (by (repeat (first | exact look_hit | (apply look_at; focus (first | rfl | (simp; done) | (congr 2; omega))) | (apply look_miss; focus rfl))); done), (by (repeat (first | exact look_hit | (apply look_at; focus (first | rfl | (simp; done) | (congr 2; omega))) | (apply look_miss; focus rfl))); done), (by (repeat (first | exact look_hit | (apply look_at; focus (first | rfl | (simp; done) | (congr 2; omega))) | (apply look_miss; focus rfl))); done), (by (repeat (first | exact look_hit | (apply look_at; focus (first | rfl | (simp; done) | (congr 2; omega))) | (apply look_miss; focus rfl))); done), trivial⟩, (by omega), (sel_more (p := fun v => ¬ (v.k ≠ 1 ∧ v.k ≠ 0)) hall hone), rfl⟩
    first | omega | (simp only []; omega)
  ·have hg21' := hg21; (try simp only [V.cnd, ne_eq] at hg21')
   refine OD.skip (wants_F rfl rfl rfl lk (by first | rfl | assumption)) rfl ?_
   refine OD.skip (wants_F rfl rfl rfl lk (by first | rfl | assumption)) rfl ?_
   refine OD.skip (wants_F rfl rfl rfl lk (by first | rfl | assumption)) rfl ?_
   refine OD.still (wants_plain rfl) rfl (still_pickF rfl ot (by first | rfl | assumption) opd_const) ?_
   refine OD.wk (Wk.as_ (n := 50) (l' := [(2, _), (3, _), (4, _), (6, _), (14, _), (15, _), (25, _)]) (S' := [⟨b9, 33, 3, [_, _, _]⟩, ⟨b6, 33, 3, [_, _, _]⟩, ⟨b4, 33, 3, [_, _, _]⟩, ⟨b3, 33, 3, [_, _, _]⟩]) rfl rfl ⟨lk, lk, lk, lk, lk, lk, lk, trivial⟩) ?_
   refine OD.nil ?_
   refine CD.condF ot (by first | rfl | assumption) ?_
   have hone : ¬ ((selV a b i).k ≠ 1 ∧ (selV a b i).k ≠ 0) := by simp_all
   refine CD.skip ?_
   refine CD.region ?_
   refine OD.still (wants_plain rfl) rfl (still_bin rfl ot opd_const (bin_add (wrap_i64 (by omega) (by omega)))) ?_
   refine OD.still (wants_plain rfl) rfl (still_mv rfl ot) ?_
   refine OD.wk (Wk.as_ (n := 50) (l' := [(2, _), (3, _), (4, _), (6, _), (14, _), (15, _)]) (S' := [⟨b9, 33, 3, [_, _, _]⟩, ⟨b6, 33, 3, [_, _, _]⟩, ⟨b4, 33, 3, [_, _, _]⟩, ⟨b3, 33, 3, [_, _, _]⟩]) rfl rfl ⟨lk, lk, lk, lk, lk, lk, trivial⟩) ?_
   refine OD.nil ?_
   refine ⟨(i + 1), ⟨50, [(2, .v (.int .i64 d)), (3, .v (.pointer (some ⟨b3, 0, none⟩))), (4, .v (.pointer (some ⟨b4, 0, none⟩))), (6, .v (.pointer (some ⟨b6, 0, none⟩))), (14, .agg [.v (.int .i64 a.k), .v (.int .i64 a.n), .v (.string a.s), .v (.int .i64 b.k), .v (.int .i64 b.n), .v (.string b.s)]), (15, .v (.int .i64 (((i + 1)) : Nat)))], [⟨b6, 33, 3, [.v (.int .i64 0), .v (.int .i64 0), .v (.string ⟨#[]⟩)]⟩, ⟨b4, 33, 3, [.v (.int .i64 b.k), .v (.int .i64 b.n), .v (.string b.s)]⟩, ⟨b3, 33, 3, [.v (.int .i64 a.k), .v (.int .i64 a.n), .v (.string a.s)]⟩]⟩, ?_, Wk.asS (n := 50) rfl (by repeat (first | exact List.Sublist.refl _ | apply List.Sublist.cons)) ⟨(by (repeat (first | exact look_hit | (apply look_at; focus (first | rfl | (simp; done) | (congr 2; omega))) | (apply look_miss; focus rfl))); done), (by (repeat (first | exact look_hit | (apply look_at; focus (first | rfl | (simp; done) | (congr 2; omega))) | (apply look_miss; focus rfl))); done), (by (repeat (first | exact look_hit | (apply look_at; focus (first | rfl | (simp; done) | (congr 2; omega))) | (apply look_miss; focus rfl))); done), (by (repeat (first | exact look_hit | (apply look_at; focus (first | rfl | (simp; done) | (congr 2; omega))) | (apply look_miss; focus rfl))); done), (by (repeat (first | exact look_hit | (apply look_at; focus (first | rfl | (simp; done) | (congr 2; omega))) | (apply look_miss; focus rfl))); done), (by (repeat (first | exact look_hit | (apply look_at; focus (first | rfl | (simp; done) | (congr 2; omega))) | (apply look_miss; focus rfl))); done), trivial⟩, (by omega), (sel_more (p := fun v => ¬ (v.k ≠ 1 ∧ v.k ≠ 0)) hall hone), rfl⟩
   first | omega | (simp only []; omega)
 ·have hc0' := hc0
  (try simp only [V.cnd, ne_eq] at hc0')
  have hAB := sel_all (p := fun v => ¬ (v.k ≠ 1 ∧ v.k ≠ 0)) hall (by omega)
  have hg : ¬ ((a.k ≠ 1 ∧ a.k ≠ 0) ∨ (b.k ≠ 1 ∧ b.k ≠ 0)) := fun h => h.elim hAB.1 hAB.2
  clear hall hi
  refine CD.exit ?_
  refine CD.seq ?_
  refine CD.seq ?_
  refine CD.region ?_
  refine OD.still (wants_plain rfl) rfl (still_r1 (mk := Op.load 33) rfl ot (by first | exact ld_blks (k := 2) (ds := [_, _, _]) rfl rfl Tryd.isAgg33 Tryd.sizeOf33 rfl rfl | exact ld_is (ds := [_, _, _]) Tryd.isAgg33 Tryd.sizeOf33 rfl rfl)) ?_
  refine OD.still (wants_plain rfl) rfl (still_r1 (mk := Op.load 33) rfl ot (by first | exact ld_blks (k := 1) (ds := [_, _, _]) rfl rfl Tryd.isAgg33 Tryd.sizeOf33 rfl rfl | exact ld_is (ds := [_, _, _]) Tryd.isAgg33 Tryd.sizeOf33 rfl rfl)) ?_
  refine OD.still (wants_plain rfl) rfl (still_bldA (pl := [(0, _), (1, _)]) (ds := [_, _, _, _, _, _]) rfl Tryd.zeroValue67 Tryd.runUnderlying67 Tryd.sizeOf33 ⟨rfl, ot, rfl, ot, trivial⟩ rfl rfl) ?_
  refine OD.still (wants_plain rfl) rfl (still_mv rfl opd_const) ?_
  refine OD.wk (Wk.as_ (n := 50) (l' := [(2, _), (3, _), (4, _), (6, _), (30, _), (31, _)]) (S' := [⟨b6, 33, 3, [_, _, _]⟩, ⟨b4, 33, 3, [_, _, _]⟩, ⟨b3, 33, 3, [_, _, _]⟩]) rfl rfl ⟨lk, lk, lk, lk, lk, lk, trivial⟩) ?_
  refine OD.nil ?_
  refine CD.block ?_
  refine CD.wk (Wk.asS (n := 50) (l' := [(2, .v (.int .i64 d)), (3, .v (.pointer (some ⟨b3, 0, none⟩))), (4, .v (.pointer (some ⟨b4, 0, none⟩))), (6, .v (.pointer (some ⟨b6, 0, none⟩))), (30, .agg [.v (.int .i64 a.k), .v (.int .i64 a.n), .v (.string a.s), .v (.int .i64 b.k), .v (.int .i64 b.n), .v (.string b.s)]), (31, .v (.int .i64 ((0) : Nat)))]) (S' := [⟨b6, 33, 3, [.v (.int .i64 0), .v (.int .i64 0), .v (.string ⟨#[]⟩)]⟩, ⟨b4, 33, 3, [.v (.int .i64 b.k), .v (.int .i64 b.n), .v (.string b.s)]⟩, ⟨b3, 33, 3, [.v (.int .i64 a.k), .v (.int .i64 a.n), .v (.string a.s)]⟩]) rfl (by repeat (first | exact List.Sublist.refl _ | apply List.Sublist.cons)) ⟨(by (repeat (first | exact look_hit | (apply look_at; focus (first | rfl | (simp; done) | (congr 2; omega))) | (apply look_miss; focus rfl))); done), (by (repeat (first | exact look_hit | (apply look_at; focus (first | rfl | (simp; done) | (congr 2; omega))) | (apply look_miss; focus rfl))); done), (by (repeat (first | exact look_hit | (apply look_at; focus (first | rfl | (simp; done) | (congr 2; omega))) | (apply look_miss; focus rfl))); done), (by (repeat (first | exact look_hit | (apply look_at; focus (first | rfl | (simp; done) | (congr 2; omega))) | (apply look_miss; focus rfl))); done), (by (repeat (first | exact look_hit | (apply look_at; focus (first | rfl | (simp; done) | (congr 2; omega))) | (apply look_miss; focus rfl))); done), (by (repeat (first | exact look_hit | (apply look_at; focus (first | rfl | (simp; done) | (congr 2; omega))) | (apply look_miss; focus rfl))); done), trivial⟩) (CD.loop (fun (i : Nat) y__ => (i ≤ 2) ∧ (∀ j, j < i → ¬ ((selV a b j).k = 1 ∧ (selV a b j).n = d)) ∧ y__ = (⟨50, [(2, .v (.int .i64 d)), (3, .v (.pointer (some ⟨b3, 0, none⟩))), (4, .v (.pointer (some ⟨b4, 0, none⟩))), (6, .v (.pointer (some ⟨b6, 0, none⟩))), (30, .agg [.v (.int .i64 a.k), .v (.int .i64 a.n), .v (.string a.s), .v (.int .i64 b.k), .v (.int .i64 b.n), .v (.string b.s)]), (31, .v (.int .i64 (i : Nat)))], [⟨b6, 33, 3, [.v (.int .i64 0), .v (.int .i64 0), .v (.string ⟨#[]⟩)]⟩, ⟨b4, 33, 3, [.v (.int .i64 b.k), .v (.int .i64 b.n), .v (.string b.s)]⟩, ⟨b3, 33, 3, [.v (.int .i64 a.k), .v (.int .i64 a.n), .v (.string a.s)]⟩]⟩ : St)) (fun (i : Nat) => 2 - i) 0 ⟨(Nat.zero_le _), (fun j hj => absurd hj (Nat.not_lt_zero _)), rfl⟩ ?_)
  rintro i _ ⟨hi2, hall2, rfl⟩
  refine CD.seq ?_
  refine CD.region ?_
  refine OD.still (wants_plain rfl) rfl (still_bin rfl ot opd_const bin_lss) ?_
  refine OD.wk (Wk.as_ (n := 50) (l' := [(2, _), (3, _), (4, _), (6, _), (30, _), (31, _), (32, _)]) (S' := [⟨b6, 33, 3, [_, _, _]⟩, ⟨b4, 33, 3, [_, _, _]⟩, ⟨b3, 33, 3, [_, _, _]⟩]) rfl rfl ⟨lk, lk, lk, lk, lk, lk, lk, trivial⟩) ?_
  refine OD.nil ?_
  refine CD.seq ?_
  refine CD.cond ot (fun hc2 => ?_) (fun hc2 => ?_)
  ·have hc2' := hc2
   (try simp only [V.cnd, ne_eq] at hc2')
   have hlt : i < 2 := by omega
   refine CD.skip ?_
   refine CD.seq ?_
   refine CD.block ?_
   refine CD.seq ?_
   refine CD.region ?_
   refine OD.still (wants_plain rfl) rfl (still_vidxs (j := i) rfl ot ot Tryd.runUnderlying67 Tryd.sizeOf33 Tryd.isAgg33 rfl hlt (sel_cells a b hlt)) ?_
   refine OD.alloc (ds := [_, _, _]) (wants_plain rfl) rfl rfl Tryd.zeroValue33 rfl (fun b11 => ?_)
   refine OD.store (k := 0) (cs' := [_, _, _]) (wants_plain rfl) rfl rfl ot rfl rfl ot rfl rfl Tryd.sizeOf33 rfl rfl rfl ?_
   refine OD.wk (Wk.as_ (n := 50) (l' := [(2, _), (3, _), (4, _), (6, _), (11, _), (30, _), (31, _)]) (S' := [⟨b11, 33, 3, [_, _, _]⟩, ⟨b6, 33, 3, [_, _, _]⟩, ⟨b4, 33, 3, [_, _, _]⟩, ⟨b3, 33, 3, [_, _, _]⟩]) rfl rfl ⟨lk, lk, lk, lk, lk, lk, lk, trivial⟩) ?_
   refine OD.nil ?_
   refine CD.seq ?_
   refine CD.region ?_
   refine OD.still (wants_plain rfl) rfl (still_r1 (mk := fun y => Op.fieldAddr 33 y 0) rfl ot (by first | exact fa_ptr (off := 0) Tryd.runUnderlying33 rfl Tryd.sizeOf3 rfl | exact fa_iptr (off := 0) Tryd.runUnderlying33 rfl Tryd.sizeOf3 rfl)) ?_
   refine OD.still (wants_plain rfl) rfl (still_r1 (mk := Op.load 3) rfl ot (by first | exact ld_blk (k := 0) rfl rfl Tryd.isAgg3 rfl | exact ld_i Tryd.isAgg3 rfl)) ?_
   refine OD.still (wants_plain rfl) rfl (still_bin rfl ot opd_const bin_eql) ?_
   refine OD.still (wants_plain rfl) rfl (still_mv rfl ot) ?_
   refine OD.split (t := 37) lk (fun hg37 => ?_) (fun hg37 => ?_)
   ·have hg37' := hg37; (try simp only [V.cnd, ne_eq] at hg37')
    refine OD.still (wants_T rfl rfl rfl lk (by first | rfl | assumption)) rfl (still_r1 (mk := fun y => Op.fieldAddr 33 y 1) rfl ot (by first | exact fa_ptr (off := 1) Tryd.runUnderlying33 rfl Tryd.sizeOf3 rfl | exact fa_iptr (off := 1) Tryd.runUnderlying33 rfl Tryd.sizeOf3 rfl)) ?_
    refine OD.still (wants_T rfl rfl rfl lk (by first | rfl | assumption)) rfl (still_r1 (mk := Op.load 3) rfl ot (by first | exact ld_blk (k := 0) rfl rfl Tryd.isAgg3 rfl | exact ld_i Tryd.isAgg3 rfl)) ?_
    refine OD.still (wants_T rfl rfl rfl lk (by first | rfl | assumption)) rfl (still_mv rfl ot) ?_
    refine OD.still (wants_T rfl rfl rfl lk (by first | rfl | assumption)) rfl (still_bin rfl ot ot bin_eql) ?_
    refine OD.still (wants_plain rfl) rfl (still_pickT rfl ot (by first | rfl | assumption) ot) ?_
    refine OD.wk (Wk.as_ (n := 50) (l' := [(2, _), (3, _), (4, _), (6, _), (11, _), (30, _), (31, _), (42, _)]) (S' := [⟨b11, 33, 3, [_, _, _]⟩, ⟨b6, 33, 3, [_, _, _]⟩, ⟨b4, 33, 3, [_, _, _]⟩, ⟨b3, 33, 3, [_, _, _]⟩]) rfl rfl ⟨lk, lk, lk, lk, lk, lk, lk, lk, trivial⟩) ?_
    refine OD.nil ?_
    refine CD.cond ot (fun hc3 => ?_) (fun hc3 => ?_)
    ·have hc3' := hc3
     (try simp only [V.cnd, ne_eq] at hc3')
     have hres : logicF a b d = (selV a b i, 0) := logic_hit hlt hg hall2 (by simp_all) (by simp_all)
     refine CD.seq ?_
     refine CD.region ?_
     refine OD.still (wants_plain rfl) rfl (still_r1 (mk := Op.load 33) rfl ot (by first | exact ld_blks (k := 0) (ds := [_, _, _]) rfl rfl Tryd.isAgg33 Tryd.sizeOf33 rfl rfl | exact ld_is (ds := [_, _, _]) Tryd.isAgg33 Tryd.sizeOf33 rfl rfl)) ?_
     refine OD.store (k := 1) (cs' := [_, _, _]) (wants_plain rfl) rfl rfl ot rfl rfl ot rfl rfl Tryd.sizeOf33 rfl rfl rfl ?_
     refine OD.still (wants_plain rfl) rfl (still_as rfl opd_const) ?_
     refine OD.wk (Wk.as_ (n := 50) (l' := [(6, _), (7, _)]) (S' := [⟨b11, 33, 3, [_, _, _]⟩, ⟨b6, 33, 3, [_, _, _]⟩, ⟨b4, 33, 3, [_, _, _]⟩, ⟨b3, 33, 3, [_, _, _]⟩]) rfl rfl ⟨lk, lk, trivial⟩) ?_
     refine OD.nil ?_
     refine CD.ret ?_
     refine ⟨.inr rfl, _, [], List.nil_sublist _, ret_two Tryd.results29 (res_cells (k := 1) (ds := [_, _, _]) (Nat.le_of_ble_eq_true rfl) lk rfl rfl Tryd.isAgg33 Tryd.sizeOf33 rfl rfl) (res_tmp (Nat.le_of_ble_eq_true rfl) lk), ?_⟩
     rw [hres]; exact ⟨rfl, rfl⟩
    ·have hc3' := hc3
     (try simp only [V.cnd, ne_eq] at hc3')
     have hone2 : ¬ ((selV a b i).k = 1 ∧ (selV a b i).n = d) := by simp_all
     refine CD.skip ?_
     refine CD.region ?_
     refine OD.still (wants_plain rfl) rfl (still_bin rfl ot opd_const (bin_add (wrap_i64 (by omega) (by omega)))) ?_
     refine OD.still (wants_plain rfl) rfl (still_mv rfl ot) ?_
     refine OD.wk (Wk.as_ (n := 50) (l' := [(2, _), (3, _), (4, _), (6, _), (30, _), (31, _)]) (S' := [⟨b11, 33, 3, [_, _, _]⟩, ⟨b6, 33, 3, [_, _, _]⟩, ⟨b4, 33, 3, [_, _, _]⟩, ⟨b3, 33, 3, [_, _, _]⟩]) rfl rfl ⟨lk, lk, lk, lk, lk, lk, trivial⟩) ?_
     refine OD.nil ?_
     refine ⟨(i + 1), ⟨50, [(2, .v (.int .i64 d)), (3, .v (.pointer (some ⟨b3, 0, none⟩))), (4, .v (.pointer (some ⟨b4, 0, none⟩))), (6, .v (.pointer (some ⟨b6, 0, none⟩))), (30, .agg [.v (.int .i64 a.k), .v (.int .i64 a.n), .v (.string a.s), .v (.int .i64 b.k), .v (.int .i64 b.n), .v (.string b.s)]), (31, .v (.int .i64 (((i + 1)) : Nat)))], [⟨b6, 33, 3, [.v (.int .i64 0), .v (.int .i64 0), .v (.string ⟨#[]⟩)]⟩, ⟨b4, 33, 3, [.v (.int .i64 b.k), .v (.int .i64 b.n), .v (.string b.s)]⟩, ⟨b3, 33, 3, [.v (.int .i64 a.k), .v (.int .i64 a.n), .v (.string a.s)]⟩]⟩, ?_, Wk.asS (n := 50) rfl (by repeat (first | exact List.Sublist.refl _ | apply List.Sublist.cons)) ⟨(by (repeat (first | exact look_hit | (apply look_at; focus (first | rfl | (simp; done) | (congr 2; omega))) | (apply look_miss; focus rfl))); done), (by (repeat (first | exact look_hit | (apply look_at; focus (first | rfl | (simp; done) | (congr 2; omega))) | (apply look_miss; focus rfl))); done), (by (repeat (first | exact look_hit | (apply look_at; focus (first | rfl | (simp; done) | (congr 2; omega))) | (apply look_miss; focus rfl))); done), (by (repeat (first | exact look_hit | (apply look_at; focus (first | rfl | (simp; done) | (congr 2; omega))) | (apply look_miss; focus rfl))); done), (by (repeat (first | exact look_hit | (apply look_at; focus (first | rfl | (simp; done) | (congr 2; omega))) | (apply look_miss; focus rfl))); done), (by (repeat (first | exact look_hit | (apply look_at; focus (first | rfl | (simp; done) | (congr 2; omega))) | (apply look_miss; focus rfl))); done), trivial⟩, (by omega), (sel_more (p := fun v => ¬ (v.k = 1 ∧ v.n = d)) hall2 hone2), rfl⟩
     first | omega | (simp only []; omega)
   ·have hg37' := hg37; (try simp only [V.cnd, ne_eq] at hg37')
    refine OD.skip (wants_F rfl rfl rfl lk (by first | rfl | assumption)) rfl ?_
    refine OD.skip (wants_F rfl rfl rfl lk (by first | rfl | assumption)) rfl ?_
    refine OD.skip (wants_F rfl rfl rfl lk (by first | rfl | assumption)) rfl ?_
    refine OD.skip (wants_F rfl rfl rfl lk (by first | rfl | assumption)) rfl ?_
    refine OD.still (wants_plain rfl) rfl (still_pickF rfl ot (by first | rfl | assumption) opd_const) ?_
    refine OD.wk (Wk.as_ (n := 50) (l' := [(2, _), (3, _), (4, _), (6, _), (11, _), (30, _), (31, _), (42, _)]) (S' := [⟨b11, 33, 3, [_, _, _]⟩, ⟨b6, 33, 3, [_, _, _]⟩, ⟨b4, 33, 3, [_, _, _]⟩, ⟨b3, 33, 3, [_, _, _]⟩]) rfl rfl ⟨lk, lk, lk, lk, lk, lk, lk, lk, trivial⟩) ?_
    refine OD.nil ?_
    refine CD.condF ot (by first | rfl | assumption) ?_
    have hone2 : ¬ ((selV a b i).k = 1 ∧ (selV a b i).n = d) := by simp_all
    refine CD.skip ?_
    refine CD.region ?_
    refine OD.still (wants_plain rfl) rfl (still_bin rfl ot opd_const (bin_add (wrap_i64 (by omega) (by omega)))) ?_
    refine OD.still (wants_plain rfl) rfl (still_mv rfl ot) ?_
    refine OD.wk (Wk.as_ (n := 50) (l' := [(2, _), (3, _), (4, _), (6, _), (30, _), (31, _)]) (S' := [⟨b11, 33, 3, [_, _, _]⟩, ⟨b6, 33, 3, [_, _, _]⟩, ⟨b4, 33, 3, [_, _, _]⟩, ⟨b3, 33, 3, [_, _, _]⟩]) rfl rfl ⟨lk, lk, lk, lk, lk, lk, trivial⟩) ?_
    refine OD.nil ?_
    refine ⟨(i + 1), ⟨50, [(2, .v (.int .i64 d)), (3, .v (.pointer (some ⟨b3, 0, none⟩))), (4, .v (.pointer (some ⟨b4, 0, none⟩))), (6, .v (.pointer (some ⟨b6, 0, none⟩))), (30, .agg [.v (.int .i64 a.k), .v (.int .i64 a.n), .v (.string a.s), .v (.int .i64 b.k), .v (.int .i64 b.n), .v (.string b.s)]), (31, .v (.int .i64 (((i + 1)) : Nat)))], [⟨b6, 33, 3, [.v (.int .i64 0), .v (.int .i64 0), .v (.string ⟨#[]⟩)]⟩, ⟨b4, 33, 3, [.v (.int .i64 b.k), .v (.int .i64 b.n), .v (.string b.s)]⟩, ⟨b3, 33, 3, [.v (.int .i64 a.k), .v (.int .i64 a.n), .v (.string a.s)]⟩]⟩, ?_, Wk.asS (n := 50) rfl (by repeat (first | exact List.Sublist.refl _ | apply List.Sublist.cons)) ⟨(by (repeat (first | exact look_hit | (apply look_at; focus (first | rfl | (simp; done) | (congr 2; omega))) | (apply look_miss; focus rfl))); done), (by (repeat (first | exact look_hit | (apply look_at; focus (first | rfl | (simp; done) | (congr 2; omega))) | (apply look_miss; focus rfl))); done), (by (repeat (first | exact look_hit | (apply look_at; focus (first | rfl | (simp; done) | (congr 2; omega))) | (apply look_miss; focus rfl))); done), (by (repeat (first | exact look_hit | (apply look_at; focus (first | rfl | (simp; done) | (congr 2; omega))) | (apply look_miss; focus rfl))); done), (by (repeat (first | exact look_hit | (apply look_at; focus (first | rfl | (simp; done) | (congr 2; omega))) | (apply look_miss; focus rfl))); done), (by (repeat (first | exact look_hit | (apply look_at; focus (first | rfl | (simp; done) | (congr 2; omega))) | (apply look_miss; focus rfl))); done), trivial⟩, (by omega), (sel_more (p := fun v => ¬ (v.k = 1 ∧ v.n = d)) hall2 hone2), rfl⟩
    first | omega | (simp only []; omega)
  ·have hc2' := hc2
   (try simp only [V.cnd, ne_eq] at hc2')
   have hCD := sel_all (p := fun v => ¬ (v.k = 1 ∧ v.n = d)) hall2 (by omega)
   refine CD.exit ?_
   refine CD.seq ?_
   refine CD.seq ?_
   refine CD.region ?_
   refine OD.still (wants_plain rfl) rfl (still_r1 (mk := Op.load 33) rfl ot (by first | exact ld_blks (k := 2) (ds := [_, _, _]) rfl rfl Tryd.isAgg33 Tryd.sizeOf33 rfl rfl | exact ld_is (ds := [_, _, _]) Tryd.isAgg33 Tryd.sizeOf33 rfl rfl)) ?_
   refine OD.still (wants_plain rfl) rfl (still_r1 (mk := Op.load 33) rfl ot (by first | exact ld_blks (k := 1) (ds := [_, _, _]) rfl rfl Tryd.isAgg33 Tryd.sizeOf33 rfl rfl | exact ld_is (ds := [_, _, _]) Tryd.isAgg33 Tryd.sizeOf33 rfl rfl)) ?_
   refine OD.callP (wants_plain rfl) rfl rfl rfl Tryd.call30 (hnv) ⟨ot, ot, trivial⟩ ?_
   refine OD.wk (Wk.as_ (n := 50) (l' := [(3, _), (6, _), (47, _)]) (S' := [⟨b6, 33, 3, [_, _, _]⟩, ⟨b4, 33, 3, [_, _, _]⟩, ⟨b3, 33, 3, [_, _, _]⟩]) rfl rfl ⟨lk, lk, lk, trivial⟩) ?_
   refine OD.nil ?_
   refine CD.cond ot (fun hc4 => ?_) (fun hc4 => ?_)
   ·have hc4' := hc4
    (try simp only [V.cnd, ne_eq] at hc4')
    have hres : logicF a b d = (noVl, 0) := by unfold logicF; rw [if_neg hg, if_neg hCD.1, if_neg hCD.2, if_pos (by unfold nullF at hc4; simpa using hc4)]
    refine CD.seq ?_
    refine CD.region ?_
    refine OD.still (wants_plain rfl) rfl (still_bld (pl := []) (ds := [_, _, _]) rfl Tryd.zeroValue33 Tryd.runUnderlying33 places33_Ex2 trivial rfl rfl) ?_
    refine OD.store (k := 0) (cs' := [_, _, _]) (wants_plain rfl) rfl rfl ot rfl rfl ot rfl rfl Tryd.sizeOf33 rfl rfl rfl ?_
    refine OD.still (wants_plain rfl) rfl (still_as rfl opd_const) ?_
    refine OD.wk (Wk.as_ (n := 50) (l' := [(6, _), (7, _)]) (S' := [⟨b6, 33, 3, [_, _, _]⟩, ⟨b4, 33, 3, [_, _, _]⟩, ⟨b3, 33, 3, [_, _, _]⟩]) rfl rfl ⟨lk, lk, trivial⟩) ?_
    refine OD.nil ?_
    refine CD.ret ?_
    refine ⟨.inr rfl, _, [], List.nil_sublist _, ret_two Tryd.results29 (res_cells (k := 0) (ds := [_, _, _]) (Nat.le_of_ble_eq_true rfl) lk rfl rfl Tryd.isAgg33 Tryd.sizeOf33 rfl rfl) (res_tmp (Nat.le_of_ble_eq_true rfl) lk), ?_⟩
    rw [hres]; exact ⟨rfl, rfl⟩
   ·have hc4' := hc4
    (try simp only [V.cnd, ne_eq] at hc4')
    have hres : logicF a b d = (a, 0) := by unfold logicF; rw [if_neg hg, if_neg hCD.1, if_neg hCD.2, if_neg (by unfold nullF at hc4; simpa using hc4)]
    refine CD.skip ?_
    refine CD.seq ?_
    refine CD.region ?_
    refine OD.still (wants_plain rfl) rfl (still_r1 (mk := Op.load 33) rfl ot (by first | exact ld_blks (k := 2) (ds := [_, _, _]) rfl rfl Tryd.isAgg33 Tryd.sizeOf33 rfl rfl | exact ld_is (ds := [_, _, _]) Tryd.isAgg33 Tryd.sizeOf33 rfl rfl)) ?_
    refine OD.store (k := 0) (cs' := [_, _, _]) (wants_plain rfl) rfl rfl ot rfl rfl ot rfl rfl Tryd.sizeOf33 rfl rfl rfl ?_
    refine OD.still (wants_plain rfl) rfl (still_as rfl opd_const) ?_
    refine OD.wk (Wk.as_ (n := 50) (l' := [(6, _), (7, _)]) (S' := [⟨b6, 33, 3, [_, _, _]⟩, ⟨b4, 33, 3, [_, _, _]⟩, ⟨b3, 33, 3, [_, _, _]⟩]) rfl rfl ⟨lk, lk, trivial⟩) ?_
    refine OD.nil ?_
    refine CD.ret ?_
    refine ⟨.inr rfl, _, [], List.nil_sublist _, ret_two Tryd.results29 (res_cells (k := 0) (ds := [_, _, _]) (Nat.le_of_ble_eq_true rfl) lk rfl rfl Tryd.isAgg33 Tryd.sizeOf33 rfl rfl) (res_tmp (Nat.le_of_ble_eq_true rfl) lk), ?_⟩
    rw [hres]; exact ⟨rfl, rfl⟩

set_option maxHeartbeats 4000000 in
set_option maxRecDepth 100000 in
theorem arith_vp (k a b : Int) : VP Tryd.prog G 33 [.v (.int .i64 k), .v (.int .i64 a), .v (.int .i64 b)] (.tup [.v (.int .i64 (arithF k a b).1), .v (.bool (arithF k a b).2)]) := by
 refine VC.body Tryd.func33 rfl Tryd.ntmps33 (Nat.le_of_ble_eq_true rfl) fun X0 w0 S00 => ?_
 refine CD.seq ?_
 refine CD.region ?_
 refine OD.still (wants_plain rfl) rfl (still_as rfl opd_const) ?_
 refine OD.still (wants_plain rfl) rfl (still_as rfl opd_const) ?_
 refine OD.wk (Wk.as_ (n := 58) (l' := [(0, _), (1, _), (2, _)]) (S' := []) rfl rfl ⟨lk, lk, lk, trivial⟩) ?_
 refine OD.nil ?_
 refine CD.seq ?_
 refine CD.seq ?_
 refine CD.region ?_
 refine OD.still (wants_plain rfl) rfl (still_mv rfl ot) ?_
 refine OD.wk (Wk.as_ (n := 58) (l' := [(1, _), (2, _), (11, _)]) (S' := []) rfl rfl ⟨lk, lk, lk, trivial⟩) ?_
 refine OD.nil ?_
 refine CD.block ?_
 refine CD.seq ?_
 refine CD.region ?_
 refine OD.still (wants_plain rfl) rfl (still_bin rfl ot opd_const bin_eql) ?_
 refine OD.still (wants_plain rfl) rfl (still_as rfl ot) ?_
 refine OD.wk (Wk.as_ (n := 58) (l' := [(1, _), (2, _), (11, _), (12, _)]) (S' := []) rfl rfl ⟨lk, lk, lk, lk, trivial⟩) ?_
 refine OD.nil ?_
 refine CD.cond ot (fun hc0 => ?_) (fun hc0 => ?_)
 ·have hc0' := hc0
  (try simp only [V.cnd, ne_eq] at hc0')
  refine CD.seq ?_
  refine CD.region ?_
  refine OD.still (wants_plain rfl) rfl (still_mv rfl ot) ?_
  refine OD.still (wants_plain rfl) rfl (still_mv rfl ot) ?_
  refine OD.still (wants_plain rfl) rfl (still_bin (r := .int .i64 (wr (a + b))) rfl ot ot (bin_add rfl)) ?_
  refine OD.still (wants_plain rfl) rfl (still_as rfl ot) ?_
  refine OD.wk (Wk.as_ (n := 58) (l' := [(1, _), (2, _), (8, _)]) (S' := []) rfl rfl ⟨lk, lk, lk, trivial⟩) ?_
  refine OD.nil ?_
  refine CD.seq ?_
  refine CD.region ?_
  refine OD.still (wants_plain rfl) rfl (still_mv rfl ot) ?_
  refine OD.still (wants_plain rfl) rfl (still_mv rfl ot) ?_
  refine OD.still (wants_plain rfl) rfl (still_mv rfl ot) ?_
  refine OD.still (wants_plain rfl) rfl (still_bin rfl ot ot bin_lss) ?_
  refine OD.still (wants_plain rfl) rfl (still_mv rfl ot) ?_
  refine OD.still (wants_plain rfl) rfl (still_bin rfl ot opd_const bin_lss) ?_
  refine OD.still (wants_plain rfl) rfl (still_bin rfl ot ot (bin_beql Tryd.underlying4)) ?_
  refine OD.still (wants_plain rfl) rfl (still_as rfl ot) ?_
  refine OD.still (wants_plain rfl) rfl (still_as rfl ot) ?_
  refine OD.wk (Wk.as_ (n := 58) (l' := [(6, _), (7, _)]) (S' := []) rfl rfl ⟨lk, lk, trivial⟩) ?_
  refine OD.nil ?_
  refine CD.ret ?_
  refine ⟨.inr rfl, _, [], List.nil_sublist _, ret_two Tryd.results33 (res_tmp (Nat.le_of_ble_eq_true rfl) lk) (res_tmp (Nat.le_of_ble_eq_true rfl) lk), ?_⟩
  refine ⟨?_, rfl⟩
  unfold arithF
  simp_all
 ·have hc0' := hc0
  (try simp only [V.cnd, ne_eq] at hc0')
  refine CD.seq ?_
  refine CD.region ?_
  refine OD.still (wants_plain rfl) rfl (still_bin rfl ot opd_const bin_eql) ?_
  refine OD.still (wants_plain rfl) rfl (still_as rfl ot) ?_
  refine OD.wk (Wk.as_ (n := 58) (l' := [(1, _), (2, _), (24, _)]) (S' := []) rfl rfl ⟨lk, lk, lk, trivial⟩) ?_
  refine OD.nil ?_
  refine CD.cond ot (fun hc1 => ?_) (fun hc1 => ?_)
  ·have hc1' := hc1
   (try simp only [V.cnd, ne_eq] at hc1')
   refine CD.seq ?_
   refine CD.region ?_
   refine OD.still (wants_plain rfl) rfl (still_mv rfl ot) ?_
   refine OD.still (wants_plain rfl) rfl (still_mv rfl ot) ?_
   refine OD.still (wants_plain rfl) rfl (still_bin (r := .int .i64 (wr (a - b))) rfl ot ot (bin_sub rfl)) ?_
   refine OD.still (wants_plain rfl) rfl (still_as rfl ot) ?_
   refine OD.wk (Wk.as_ (n := 58) (l' := [(1, _), (2, _), (9, _)]) (S' := []) rfl rfl ⟨lk, lk, lk, trivial⟩) ?_
   refine OD.nil ?_
   refine CD.seq ?_
   refine CD.region ?_
   refine OD.still (wants_plain rfl) rfl (still_mv rfl ot) ?_
   refine OD.still (wants_plain rfl) rfl (still_mv rfl ot) ?_
   refine OD.still (wants_plain rfl) rfl (still_mv rfl ot) ?_
   refine OD.still (wants_plain rfl) rfl (still_bin rfl ot ot bin_gtr) ?_
   refine OD.still (wants_plain rfl) rfl (still_mv rfl ot) ?_
   refine OD.still (wants_plain rfl) rfl (still_bin rfl ot opd_const bin_lss) ?_
   refine OD.still (wants_plain rfl) rfl (still_bin rfl ot ot (bin_beql Tryd.underlying4)) ?_
   refine OD.still (wants_plain rfl) rfl (still_as rfl ot) ?_
   refine OD.still (wants_plain rfl) rfl (still_as rfl ot) ?_
   refine OD.wk (Wk.as_ (n := 58) (l' := [(6, _), (7, _)]) (S' := []) rfl rfl ⟨lk, lk, trivial⟩) ?_
   refine OD.nil ?_
   refine CD.ret ?_
   refine ⟨.inr rfl, _, [], List.nil_sublist _, ret_two Tryd.results33 (res_tmp (Nat.le_of_ble_eq_true rfl) lk) (res_tmp (Nat.le_of_ble_eq_true rfl) lk), ?_⟩
   refine ⟨?_, rfl⟩
   unfold arithF
   simp_all
  ·have hc1' := hc1
   (try simp only [V.cnd, ne_eq] at hc1')
   refine CD.skip ?_
   refine CD.seq ?_
   refine CD.region ?_
   refine OD.still (wants_plain rfl) rfl (still_mv rfl ot) ?_
   refine OD.still (wants_plain rfl) rfl (still_mv rfl ot) ?_
   refine OD.still (wants_plain rfl) rfl (still_bin (r := .int .i64 (wr (a * b))) rfl ot ot (bin_mul rfl)) ?_
   refine OD.still (wants_plain rfl) rfl (still_as rfl ot) ?_
   refine OD.wk (Wk.as_ (n := 58) (l' := [(1, _), (2, _), (10, _)]) (S' := []) rfl rfl ⟨lk, lk, lk, trivial⟩) ?_
   refine OD.nil ?_
   refine CD.seq ?_
   refine CD.region ?_
   refine OD.still (wants_plain rfl) rfl (still_mv rfl ot) ?_
   refine OD.still (wants_plain rfl) rfl (still_mv rfl ot) ?_
   refine OD.still (wants_plain rfl) rfl (still_bin rfl ot opd_const bin_eql) ?_
   refine OD.still (wants_plain rfl) rfl (still_mv rfl ot) ?_
   refine OD.split (t := 42) lk (fun hg42 => ?_) (fun hg42 => ?_)
   ·have hg42' := hg42; (try simp only [V.cnd, ne_eq] at hg42')
    refine OD.skip (wants_F rfl rfl rfl lk (by first | rfl | assumption)) rfl ?_
    refine OD.skip (wants_F rfl rfl rfl lk (by first | rfl | assumption)) rfl ?_
    refine OD.skip (wants_F rfl rfl rfl lk (by first | rfl | assumption)) rfl ?_
    refine OD.skip (wants_F rfl rfl rfl lk (by first | rfl | assumption)) rfl ?_
    refine OD.skip (wants_F rfl rfl rfl lk (by first | rfl | assumption)) rfl ?_
    refine OD.skip (wants_F rfl rfl rfl lk (by first | rfl | assumption)) rfl ?_
    refine OD.skip (wants_J (b := false) rfl rfl rfl lk) rfl ?_
    refine OD.skip (wants_J (b := false) rfl rfl rfl lk) rfl ?_
    refine OD.skip (wants_J (b := false) rfl rfl rfl lk) rfl ?_
    refine OD.skip (wants_J (b := false) rfl rfl rfl lk) rfl ?_
    refine OD.skip (wants_J (b := false) rfl rfl rfl lk) rfl ?_
    refine OD.skip (wants_J (b := false) rfl rfl rfl lk) rfl ?_
    refine OD.skip (wants_J (b := false) rfl rfl rfl lk) rfl ?_
    refine OD.skip (wants_F rfl rfl rfl lk (by first | rfl | assumption)) rfl ?_
    refine OD.still (wants_plain rfl) rfl (still_pickT rfl ot (by first | rfl | assumption) opd_const) ?_
    refine OD.still (wants_plain rfl) rfl (still_as rfl ot) ?_
    refine OD.still (wants_plain rfl) rfl (still_as rfl ot) ?_
    refine OD.wk (Wk.as_ (n := 58) (l' := [(6, _), (7, _)]) (S' := []) rfl rfl ⟨lk, lk, trivial⟩) ?_
    refine OD.nil ?_
    refine CD.ret ?_
    refine ⟨.inr rfl, _, [], List.nil_sublist _, ret_two Tryd.results33 (res_tmp (Nat.le_of_ble_eq_true rfl) lk) (res_tmp (Nat.le_of_ble_eq_true rfl) lk), ?_⟩
    refine ⟨?_, rfl⟩
    unfold arithF
    simp_all
   ·have hg42' := hg42; (try simp only [V.cnd, ne_eq] at hg42')
    refine OD.still (wants_T rfl rfl rfl lk (by first | rfl | assumption)) rfl (still_mv rfl ot) ?_
    refine OD.still (wants_T rfl rfl rfl lk (by first | rfl | assumption)) rfl (still_mv rfl ot) ?_
    refine OD.still (wants_T rfl rfl rfl lk (by first | rfl | assumption)) rfl (still_bin (r := .int .i64 (wr ((wr (a * b)).tdiv a))) rfl ot ot (bin_quo (by simpa using hg42) rfl)) ?_
    refine OD.still (wants_T rfl rfl rfl lk (by first | rfl | assumption)) rfl (still_mv rfl ot) ?_
    refine OD.still (wants_T rfl rfl rfl lk (by first | rfl | assumption)) rfl (still_bin rfl ot ot bin_eql) ?_
    refine OD.still (wants_T rfl rfl rfl lk (by first | rfl | assumption)) rfl (still_mv rfl ot) ?_
    refine OD.split (t := 48) lk (fun hg48 => ?_) (fun hg48 => ?_)
    ·have hg48' := hg48; (try simp only [V.cnd, ne_eq] at hg48')
     refine OD.still (wants_T rfl rfl rfl lk (by first | rfl | assumption)) rfl (still_mv rfl ot) ?_
     refine OD.still (wants_T rfl rfl rfl lk (by first | rfl | assumption)) rfl (still_bin rfl ot opd_const bin_eql) ?_
     refine OD.still (wants_T rfl rfl rfl lk (by first | rfl | assumption)) rfl (still_mv rfl ot) ?_
     refine OD.split (t := 51) lk (fun hg51 => ?_) (fun hg51 => ?_)
     ·have hg51' := hg51; (try simp only [V.cnd, ne_eq] at hg51')
      refine OD.still (wants_T rfl rfl rfl lk (by first | rfl | assumption)) rfl (still_mv rfl ot) ?_
      refine OD.still (wants_T rfl rfl rfl lk (by first | rfl | assumption)) rfl (still_bin rfl ot opd_const bin_eql) ?_
      refine OD.still (wants_T rfl rfl rfl lk (by first | rfl | assumption)) rfl (still_pickT rfl ot (by first | rfl | assumption) ot) ?_
      refine OD.still (wants_T rfl rfl rfl lk (by first | rfl | assumption)) rfl (still_un rfl ot un_not) ?_
      refine OD.still (wants_T rfl rfl rfl lk (by first | rfl | assumption)) rfl (still_pickT rfl ot (by first | rfl | assumption) ot) ?_
      refine OD.still (wants_plain rfl) rfl (still_pickF rfl ot (by first | rfl | assumption) ot) ?_
      refine OD.still (wants_plain rfl) rfl (still_as rfl ot) ?_
      refine OD.still (wants_plain rfl) rfl (still_as rfl ot) ?_
      refine OD.wk (Wk.as_ (n := 58) (l' := [(6, _), (7, _)]) (S' := []) rfl rfl ⟨lk, lk, trivial⟩) ?_
      refine OD.nil ?_
      refine CD.ret ?_
      refine ⟨.inr rfl, _, [], List.nil_sublist _, ret_two Tryd.results33 (res_tmp (Nat.le_of_ble_eq_true rfl) lk) (res_tmp (Nat.le_of_ble_eq_true rfl) lk), ?_⟩
      refine ⟨?_, rfl⟩
      unfold arithF
      simp_all
     ·have hg51' := hg51; (try simp only [V.cnd, ne_eq] at hg51')
      refine OD.skip (wants_F rfl rfl rfl lk (by first | rfl | assumption)) rfl ?_
      refine OD.skip (wants_F rfl rfl rfl lk (by first | rfl | assumption)) rfl ?_
      refine OD.still (wants_T rfl rfl rfl lk (by first | rfl | assumption)) rfl (still_pickF rfl ot (by first | rfl | assumption) opd_const) ?_
      refine OD.still (wants_T rfl rfl rfl lk (by first | rfl | assumption)) rfl (still_un rfl ot un_not) ?_
      refine OD.still (wants_T rfl rfl rfl lk (by first | rfl | assumption)) rfl (still_pickT rfl ot (by first | rfl | assumption) ot) ?_
      refine OD.still (wants_plain rfl) rfl (still_pickF rfl ot (by first | rfl | assumption) ot) ?_
      refine OD.still (wants_plain rfl) rfl (still_as rfl ot) ?_
      refine OD.still (wants_plain rfl) rfl (still_as rfl ot) ?_
      refine OD.wk (Wk.as_ (n := 58) (l' := [(6, _), (7, _)]) (S' := []) rfl rfl ⟨lk, lk, trivial⟩) ?_
      refine OD.nil ?_
      refine CD.ret ?_
      refine ⟨.inr rfl, _, [], List.nil_sublist _, ret_two Tryd.results33 (res_tmp (Nat.le_of_ble_eq_true rfl) lk) (res_tmp (Nat.le_of_ble_eq_true rfl) lk), ?_⟩
      refine ⟨?_, rfl⟩
      unfold arithF
      simp_all
    ·have hg48' := hg48; (try simp only [V.cnd, ne_eq] at hg48')
     refine OD.skip (wants_F rfl rfl rfl lk (by first | rfl | assumption)) rfl ?_
     refine OD.skip (wants_F rfl rfl rfl lk (by first | rfl | assumption)) rfl ?_
     refine OD.skip (wants_F rfl rfl rfl lk (by first | rfl | assumption)) rfl ?_
     refine OD.skip (wants_J (b := false) rfl rfl rfl lk) rfl ?_
     refine OD.skip (wants_J (b := false) rfl rfl rfl lk) rfl ?_
     refine OD.skip (wants_F rfl rfl rfl lk (by first | rfl | assumption)) rfl ?_
     refine OD.skip (wants_F rfl rfl rfl lk (by first | rfl | assumption)) rfl ?_
     refine OD.still (wants_T rfl rfl rfl lk (by first | rfl | assumption)) rfl (still_pickF rfl ot (by first | rfl | assumption) opd_const) ?_
     refine OD.still (wants_plain rfl) rfl (still_pickF rfl ot (by first | rfl | assumption) ot) ?_
     refine OD.still (wants_plain rfl) rfl (still_as rfl ot) ?_
     refine OD.still (wants_plain rfl) rfl (still_as rfl ot) ?_
     refine OD.wk (Wk.as_ (n := 58) (l' := [(6, _), (7, _)]) (S' := []) rfl rfl ⟨lk, lk, trivial⟩) ?_
     refine OD.nil ?_
     refine CD.ret ?_
     refine ⟨.inr rfl, _, [], List.nil_sublist _, ret_two Tryd.results33 (res_tmp (Nat.le_of_ble_eq_true rfl) lk) (res_tmp (Nat.le_of_ble_eq_true rfl) lk), ?_⟩
     refine ⟨?_, rfl⟩
     unfold arithF
     simp_all

set_option maxHeartbeats 4000000 in
set_option maxRecDepth 100000 in
theorem one_vp (k : Int) (a : Vl) : VP Tryd.prog G 14 [.v (.int .i64 k), .agg (cV a)] (vlD (oneF k a)) := by
 refine VC.body Tryd.func14 rfl Tryd.ntmps14 (Nat.le_of_ble_eq_true rfl) fun X0 w0 S00 => ?_
 unfold vlD
 have hcv := Vl.check_vp (G := G) a
 unfold cV at hcv
 unfold cV
 refine CD.seq ?_
 refine CD.region ?_
 refine OD.box (ds := [_, _, _]) (wants_plain rfl) rfl rfl ot rfl rfl (fun b3 => ?_)
 refine OD.alloc (ds := [_, _, _]) (wants_plain rfl) rfl rfl Tryd.zeroValue33 rfl (fun b4 => ?_)
 refine OD.still (wants_plain rfl) rfl (still_as rfl opd_const) ?_
 refine OD.wk (Wk.as_ (n := 35) (l' := [(0, _), (3, _), (4, _)]) (S' := [⟨b4, 33, 3, [_, _, _]⟩, ⟨b3, 33, 3, [_, _, _]⟩]) rfl rfl ⟨lk, lk, lk, trivial⟩) ?_
 refine OD.nil ?_
 refine CD.seq ?_
 refine CD.seq ?_
 refine CD.region ?_
 refine OD.still (wants_plain rfl) rfl (still_r1 (mk := Op.load 33) rfl ot (by first | exact ld_blks (k := 1) (ds := [_, _, _]) rfl rfl Tryd.isAgg33 Tryd.sizeOf33 rfl rfl | exact ld_is (ds := [_, _, _]) Tryd.isAgg33 Tryd.sizeOf33 rfl rfl)) ?_
 refine OD.callP (wants_plain rfl) rfl rfl rfl Tryd.call34 (hcv) ⟨ot, trivial⟩ ?_
 refine OD.still (wants_plain rfl) rfl (still_as rfl ot) ?_
 refine OD.wk (Wk.as_ (n := 35) (l' := [(0, _), (3, _), (4, _), (6, _)]) (S' := [⟨b4, 33, 3, [_, _, _]⟩, ⟨b3, 33, 3, [_, _, _]⟩]) rfl rfl ⟨lk, lk, lk, lk, trivial⟩) ?_
 refine OD.nil ?_
 refine CD.seq ?_
 refine CD.region ?_
 refine OD.still (wants_plain rfl) rfl (still_mv rfl ot) ?_
 refine OD.still (wants_plain rfl) rfl (still_bin rfl ot opd_const bin_neq) ?_
 refine OD.wk (Wk.as_ (n := 35) (l' := [(0, _), (3, _), (4, _), (6, _), (10, _)]) (S' := [⟨b4, 33, 3, [_, _, _]⟩, ⟨b3, 33, 3, [_, _, _]⟩]) rfl rfl ⟨lk, lk, lk, lk, lk, trivial⟩) ?_
 refine OD.nil ?_
 refine CD.cond ot (fun hc0 => ?_) (fun hc0 => ?_)
 ·have hc0' := hc0
  (try simp only [V.cnd, ne_eq] at hc0')
  refine CD.seq ?_
  refine CD.region ?_
  refine OD.still (wants_plain rfl) rfl (still_bld (pl := []) (ds := [_, _, _]) rfl Tryd.zeroValue33 Tryd.runUnderlying33 places33_Ex2 trivial rfl rfl) ?_
  refine OD.still (wants_plain rfl) rfl (still_mv rfl ot) ?_
  refine OD.store (k := 0) (cs' := [_, _, _]) (wants_plain rfl) rfl rfl ot rfl rfl ot rfl rfl Tryd.sizeOf33 rfl rfl rfl ?_
  refine OD.still (wants_plain rfl) rfl (still_as rfl ot) ?_
  refine OD.wk (Wk.as_ (n := 35) (l' := [(4, _), (5, _)]) (S' := [⟨b4, 33, 3, [_, _, _]⟩, ⟨b3, 33, 3, [_, _, _]⟩]) rfl rfl ⟨lk, lk, trivial⟩) ?_
  refine OD.nil ?_
  refine CD.ret ?_
  refine ⟨.inr rfl, _, [], List.nil_sublist _, ret_two Tryd.results14 (res_cells (k := 0) (ds := [_, _, _]) (Nat.le_of_ble_eq_true rfl) lk rfl rfl Tryd.isAgg33 Tryd.sizeOf33 rfl rfl) (res_tmp (Nat.le_of_ble_eq_true rfl) lk), ?_⟩
  refine ⟨?_, rfl⟩
  unfold oneF
  simp_all [noVl]
 ·have hc0' := hc0
  (try simp only [V.cnd, ne_eq] at hc0')
  refine CD.skip ?_
  refine CD.seq ?_
  refine CD.seq ?_
  refine CD.region ?_
  refine OD.still (wants_plain rfl) rfl (still_mv rfl ot) ?_
  refine OD.wk (Wk.as_ (n := 35) (l' := [(3, _), (4, _), (13, _)]) (S' := [⟨b4, 33, 3, [_, _, _]⟩, ⟨b3, 33, 3, [_, _, _]⟩]) rfl rfl ⟨lk, lk, lk, trivial⟩) ?_
  refine OD.nil ?_
  refine CD.block ?_
  refine CD.seq ?_
  refine CD.region ?_
  refine OD.still (wants_plain rfl) rfl (still_bin rfl ot opd_const bin_eql) ?_
  refine OD.still (wants_plain rfl) rfl (still_as rfl ot) ?_
  refine OD.wk (Wk.as_ (n := 35) (l' := [(3, _), (4, _), (13, _), (14, _)]) (S' := [⟨b4, 33, 3, [_, _, _]⟩, ⟨b3, 33, 3, [_, _, _]⟩]) rfl rfl ⟨lk, lk, lk, lk, trivial⟩) ?_
  refine OD.nil ?_
  refine CD.cond ot (fun hc1 => ?_) (fun hc1 => ?_)
  ·have hc1' := hc1
   (try simp only [V.cnd, ne_eq] at hc1')
   refine CD.seq ?_
   refine CD.region ?_
   refine OD.still (wants_plain rfl) rfl (still_r1 (mk := fun y => Op.fieldAddr 33 y 0) rfl ot (by first | exact fa_ptr (off := 0) Tryd.runUnderlying33 rfl Tryd.sizeOf3 rfl | exact fa_iptr (off := 0) Tryd.runUnderlying33 rfl Tryd.sizeOf3 rfl)) ?_
   refine OD.still (wants_plain rfl) rfl (still_r1 (mk := Op.load 3) rfl ot (by first | exact ld_blk (k := 1) rfl rfl Tryd.isAgg3 rfl | exact ld_i Tryd.isAgg3 rfl)) ?_
   refine OD.still (wants_plain rfl) rfl (still_bin rfl ot opd_const bin_eql) ?_
   refine OD.callP (wants_plain rfl) rfl rfl rfl Tryd.call32 (truth_vp _) ⟨ot, trivial⟩ ?_
   refine OD.store (k := 0) (cs' := [_, _, _]) (wants_plain rfl) rfl rfl ot rfl rfl ot rfl rfl Tryd.sizeOf33 rfl rfl rfl ?_
   refine OD.still (wants_plain rfl) rfl (still_as rfl opd_const) ?_
   refine OD.wk (Wk.as_ (n := 35) (l' := [(4, _), (5, _)]) (S' := [⟨b4, 33, 3, [_, _, _]⟩, ⟨b3, 33, 3, [_, _, _]⟩]) rfl rfl ⟨lk, lk, trivial⟩) ?_
   refine OD.nil ?_
   refine CD.ret ?_
   refine ⟨.inr rfl, _, [], List.nil_sublist _, ret_two Tryd.results14 (res_cells (k := 0) (ds := [_, _, _]) (Nat.le_of_ble_eq_true rfl) lk rfl rfl Tryd.isAgg33 Tryd.sizeOf33 rfl rfl) (res_tmp (Nat.le_of_ble_eq_true rfl) lk), ?_⟩
   refine ⟨?_, rfl⟩
   unfold oneF
   simp_all [noVl]
  ·have hc1' := hc1
   (try simp only [V.cnd, ne_eq] at hc1')
   refine CD.seq ?_
   refine CD.region ?_
   refine OD.still (wants_plain rfl) rfl (still_bin rfl ot opd_const bin_eql) ?_
   refine OD.still (wants_plain rfl) rfl (still_as rfl ot) ?_
   refine OD.wk (Wk.as_ (n := 35) (l' := [(3, _), (4, _), (20, _)]) (S' := [⟨b4, 33, 3, [_, _, _]⟩, ⟨b3, 33, 3, [_, _, _]⟩]) rfl rfl ⟨lk, lk, lk, trivial⟩) ?_
   refine OD.nil ?_
   refine CD.cond ot (fun hc2 => ?_) (fun hc2 => ?_)
   ·have hc2' := hc2
    (try simp only [V.cnd, ne_eq] at hc2')
    refine CD.seq ?_
    refine CD.seq ?_
    refine CD.region ?_
    refine OD.still (wants_plain rfl) rfl (still_r1 (mk := fun y => Op.fieldAddr 33 y 0) rfl ot (by first | exact fa_ptr (off := 0) Tryd.runUnderlying33 rfl Tryd.sizeOf3 rfl | exact fa_iptr (off := 0) Tryd.runUnderlying33 rfl Tryd.sizeOf3 rfl)) ?_
    refine OD.still (wants_plain rfl) rfl (still_r1 (mk := Op.load 3) rfl ot (by first | exact ld_blk (k := 1) rfl rfl Tryd.isAgg3 rfl | exact ld_i Tryd.isAgg3 rfl)) ?_
    refine OD.wk (Wk.as_ (n := 35) (l' := [(3, _), (4, _), (23, _)]) (S' := [⟨b4, 33, 3, [_, _, _]⟩, ⟨b3, 33, 3, [_, _, _]⟩]) rfl rfl ⟨lk, lk, lk, trivial⟩) ?_
    refine OD.nil ?_
    refine CD.block ?_
    refine CD.seq ?_
    refine CD.region ?_
    refine OD.still (wants_plain rfl) rfl (still_bin rfl ot opd_const bin_eql) ?_
    refine OD.still (wants_plain rfl) rfl (still_as rfl ot) ?_
    refine OD.wk (Wk.as_ (n := 35) (l' := [(3, _), (4, _), (23, _), (24, _)]) (S' := [⟨b4, 33, 3, [_, _, _]⟩, ⟨b3, 33, 3, [_, _, _]⟩]) rfl rfl ⟨lk, lk, lk, lk, trivial⟩) ?_
    refine OD.nil ?_
    refine CD.cond ot (fun hc3 => ?_) (fun hc3 => ?_)
    ·have hc3' := hc3
     (try simp only [V.cnd, ne_eq] at hc3')
     refine CD.seq ?_
     refine CD.region ?_
     refine OD.still (wants_plain rfl) rfl (still_r1 (mk := Op.load 33) rfl ot (by first | exact ld_blks (k := 1) (ds := [_, _, _]) rfl rfl Tryd.isAgg33 Tryd.sizeOf33 rfl rfl | exact ld_is (ds := [_, _, _]) Tryd.isAgg33 Tryd.sizeOf33 rfl rfl)) ?_
     refine OD.store (k := 0) (cs' := [_, _, _]) (wants_plain rfl) rfl rfl ot rfl rfl ot rfl rfl Tryd.sizeOf33 rfl rfl rfl ?_
     refine OD.still (wants_plain rfl) rfl (still_as rfl opd_const) ?_
     refine OD.wk (Wk.as_ (n := 35) (l' := [(4, _), (5, _)]) (S' := [⟨b4, 33, 3, [_, _, _]⟩, ⟨b3, 33, 3, [_, _, _]⟩]) rfl rfl ⟨lk, lk, trivial⟩) ?_
     refine OD.nil ?_
     refine CD.ret ?_
     refine ⟨.inr rfl, _, [], List.nil_sublist _, ret_two Tryd.results14 (res_cells (k := 0) (ds := [_, _, _]) (Nat.le_of_ble_eq_true rfl) lk rfl rfl Tryd.isAgg33 Tryd.sizeOf33 rfl rfl) (res_tmp (Nat.le_of_ble_eq_true rfl) lk), ?_⟩
     refine ⟨?_, rfl⟩
     unfold oneF
     simp_all [noVl]
    ·have hc3' := hc3
     (try simp only [V.cnd, ne_eq] at hc3')
     refine CD.seq ?_
     refine CD.region ?_
     refine OD.still (wants_plain rfl) rfl (still_bin rfl ot opd_const bin_eql) ?_
     refine OD.still (wants_plain rfl) rfl (still_as rfl ot) ?_
     refine OD.wk (Wk.as_ (n := 35) (l' := [(3, _), (4, _), (27, _)]) (S' := [⟨b4, 33, 3, [_, _, _]⟩, ⟨b3, 33, 3, [_, _, _]⟩]) rfl rfl ⟨lk, lk, lk, trivial⟩) ?_
     refine OD.nil ?_
     refine CD.cond ot (fun hc4 => ?_) (fun hc4 => ?_)
     ·have hc4' := hc4
      (try simp only [V.cnd, ne_eq] at hc4')
      refine CD.seq ?_
      refine CD.region ?_
      refine OD.still (wants_plain rfl) rfl (still_r1 (mk := fun y => Op.fieldAddr 33 y 1) rfl ot (by first | exact fa_ptr (off := 1) Tryd.runUnderlying33 rfl Tryd.sizeOf3 rfl | exact fa_iptr (off := 1) Tryd.runUnderlying33 rfl Tryd.sizeOf3 rfl)) ?_
      refine OD.still (wants_plain rfl) rfl (still_r1 (mk := Op.load 3) rfl ot (by first | exact ld_blk (k := 1) rfl rfl Tryd.isAgg3 rfl | exact ld_i Tryd.isAgg3 rfl)) ?_
      refine OD.still (wants_plain rfl) rfl (still_bin rfl ot opd_const bin_eql) ?_
      refine OD.callP (wants_plain rfl) rfl rfl rfl Tryd.call32 (truth_vp _) ⟨ot, trivial⟩ ?_
      refine OD.store (k := 0) (cs' := [_, _, _]) (wants_plain rfl) rfl rfl ot rfl rfl ot rfl rfl Tryd.sizeOf33 rfl rfl rfl ?_
      refine OD.still (wants_plain rfl) rfl (still_as rfl opd_const) ?_
      refine OD.wk (Wk.as_ (n := 35) (l' := [(4, _), (5, _)]) (S' := [⟨b4, 33, 3, [_, _, _]⟩, ⟨b3, 33, 3, [_, _, _]⟩]) rfl rfl ⟨lk, lk, trivial⟩) ?_
      refine OD.nil ?_
      refine CD.ret ?_
      refine ⟨.inr rfl, _, [], List.nil_sublist _, ret_two Tryd.results14 (res_cells (k := 0) (ds := [_, _, _]) (Nat.le_of_ble_eq_true rfl) lk rfl rfl Tryd.isAgg33 Tryd.sizeOf33 rfl rfl) (res_tmp (Nat.le_of_ble_eq_true rfl) lk), ?_⟩
      refine ⟨?_, rfl⟩
      unfold oneF
      simp_all [noVl]
     ·have hc4' := hc4
      (try simp only [V.cnd, ne_eq] at hc4')
      refine CD.skip ?_
      refine CD.seq ?_
      refine CD.region ?_
      refine OD.still (wants_plain rfl) rfl (still_bld (pl := []) (ds := [_, _, _]) rfl Tryd.zeroValue33 Tryd.runUnderlying33 places33_Ex2 trivial rfl rfl) ?_
      refine OD.store (k := 0) (cs' := [_, _, _]) (wants_plain rfl) rfl rfl ot rfl rfl ot rfl rfl Tryd.sizeOf33 rfl rfl rfl ?_
      refine OD.still (wants_plain rfl) rfl (still_as rfl opd_const) ?_
      refine OD.wk (Wk.as_ (n := 35) (l' := [(4, _), (5, _)]) (S' := [⟨b4, 33, 3, [_, _, _]⟩, ⟨b3, 33, 3, [_, _, _]⟩]) rfl rfl ⟨lk, lk, trivial⟩) ?_
      refine OD.nil ?_
      refine CD.ret ?_
      refine ⟨.inr rfl, _, [], List.nil_sublist _, ret_two Tryd.results14 (res_cells (k := 0) (ds := [_, _, _]) (Nat.le_of_ble_eq_true rfl) lk rfl rfl Tryd.isAgg33 Tryd.sizeOf33 rfl rfl) (res_tmp (Nat.le_of_ble_eq_true rfl) lk), ?_⟩
      refine ⟨?_, rfl⟩
      unfold oneF
      simp_all [noVl]
   ·have hc2' := hc2
    (try simp only [V.cnd, ne_eq] at hc2')
    refine CD.skip ?_
    refine CD.seq ?_
    refine CD.region ?_
    refine OD.still (wants_plain rfl) rfl (still_bld (pl := []) (ds := [_, _, _]) rfl Tryd.zeroValue33 Tryd.runUnderlying33 places33_Ex2 trivial rfl rfl) ?_
    refine OD.store (k := 0) (cs' := [_, _, _]) (wants_plain rfl) rfl rfl ot rfl rfl ot rfl rfl Tryd.sizeOf33 rfl rfl rfl ?_
    refine OD.still (wants_plain rfl) rfl (still_as rfl opd_const) ?_
    refine OD.wk (Wk.as_ (n := 35) (l' := [(4, _), (5, _)]) (S' := [⟨b4, 33, 3, [_, _, _]⟩, ⟨b3, 33, 3, [_, _, _]⟩]) rfl rfl ⟨lk, lk, trivial⟩) ?_
    refine OD.nil ?_
    refine CD.ret ?_
    refine ⟨.inr rfl, _, [], List.nil_sublist _, ret_two Tryd.results14 (res_cells (k := 0) (ds := [_, _, _]) (Nat.le_of_ble_eq_true rfl) lk rfl rfl Tryd.isAgg33 Tryd.sizeOf33 rfl rfl) (res_tmp (Nat.le_of_ble_eq_true rfl) lk), ?_⟩
    refine ⟨?_, rfl⟩
    unfold oneF
    simp_all [noVl]

theorem two_bad {k : Int} {a b : Vl} (h0 : bothV a b = 0) (hk : k = 8 ∨ k = 9 ∨ k = 10) {i : Nat} (hi : i < 2) (h1 : (selV a b i).k ≠ 2) (h2 : (selV a b i).k ≠ 0) : twoF k a b = (noVl, 4) := by
 unfold twoF
 rw [if_neg (by simp [h0]), if_neg (by omega), if_neg (by omega), if_neg (by omega), if_pos hk]
 match i, hi with
 | 0, _ => rw [if_pos (.inl ⟨h1, h2⟩)]
 | 1, _ => rw [if_pos (.inr ⟨h1, h2⟩)]
theorem two_arith {k : Int} {a b : Vl} (h0 : bothV a b = 0) (hk : k = 8 ∨ k = 9 ∨ k = 10) (hg : ¬ ((a.k ≠ 2 ∧ a.k ≠ 0) ∨ (b.k ≠ 2 ∧ b.k ≠ 0))) :
  twoF k a b = if nullF a b = true then (noVl, 0) else if (arithF k a.n b.n).2 = true then (⟨2, (arithF k a.n b.n).1, ⟨#[]⟩⟩, 0) else (noVl, 5) := by
 unfold twoF
 rw [if_neg (by simp [h0]), if_neg (by omega), if_neg (by omega), if_neg (by omega), if_pos hk, if_neg hg]

set_option maxHeartbeats 4000000 in
set_option maxRecDepth 100000 in
theorem two_vp (k : Int) (a b : Vl) (oa : a.Ok) (ob : b.Ok) : VP Tryd.prog G 13 [.v (.int .i64 k), .agg (cV a), .agg (cV b)] (vlD (twoF k a b)) := by
 refine VC.body Tryd.func13 rfl Tryd.ntmps13 (Nat.le_of_ble_eq_true rfl) fun X0 w0 S00 => ?_
 unfold vlD
 have hbv := Cd.both_vp (G := G) a b
 have hnv := null_vp (G := G) a b
 have hl0 := logic_vp (G := G) a b 0
 have hl1 := logic_vp (G := G) a b 1
 have hcv := Cd.compare_vp (G := G) a b oa ob
 have hav := arith_vp (G := G) k a.n b.n
 unfold vlD at hl0 hl1
 unfold cV at hbv hnv hl0 hl1 hcv
 unfold cV
 refine CD.seq ?_
 refine CD.region ?_
 refine OD.box (ds := [_, _, _]) (wants_plain rfl) rfl rfl ot rfl rfl (fun b4 => ?_)
 refine OD.box (ds := [_, _, _]) (wants_plain rfl) rfl rfl ot rfl rfl (fun b5 => ?_)
 refine OD.alloc (ds := [_, _, _]) (wants_plain rfl) rfl rfl Tryd.zeroValue33 rfl (fun b6 => ?_)
 refine OD.still (wants_plain rfl) rfl (still_as rfl opd_const) ?_
 refine OD.wk (Wk.as_ (n := 106) (l' := [(0, _), (4, _), (5, _), (6, _)]) (S' := [⟨b6, 33, 3, [_, _, _]⟩, ⟨b5, 33, 3, [_, _, _]⟩, ⟨b4, 33, 3, [_, _, _]⟩]) rfl rfl ⟨lk, lk, lk, lk, trivial⟩) ?_
 refine OD.nil ?_
 refine CD.seq ?_
 refine CD.seq ?_
 refine CD.region ?_
 refine OD.still (wants_plain rfl) rfl (still_r1 (mk := Op.load 33) rfl ot (by first | exact ld_blks (k := 2) (ds := [_, _, _]) rfl rfl Tryd.isAgg33 Tryd.sizeOf33 rfl rfl | exact ld_is (ds := [_, _, _]) Tryd.isAgg33 Tryd.sizeOf33 rfl rfl)) ?_
 refine OD.still (wants_plain rfl) rfl (still_r1 (mk := Op.load 33) rfl ot (by first | exact ld_blks (k := 1) (ds := [_, _, _]) rfl rfl Tryd.isAgg33 Tryd.sizeOf33 rfl rfl | exact ld_is (ds := [_, _, _]) Tryd.isAgg33 Tryd.sizeOf33 rfl rfl)) ?_
 refine OD.callP (wants_plain rfl) rfl rfl rfl Tryd.call28 (hbv) ⟨ot, ot, trivial⟩ ?_
 refine OD.still (wants_plain rfl) rfl (still_as rfl ot) ?_
 refine OD.wk (Wk.as_ (n := 106) (l' := [(0, _), (4, _), (5, _), (6, _), (8, _)]) (S' := [⟨b6, 33, 3, [_, _, _]⟩, ⟨b5, 33, 3, [_, _, _]⟩, ⟨b4, 33, 3, [_, _, _]⟩]) rfl rfl ⟨lk, lk, lk, lk, lk, trivial⟩) ?_
 refine OD.nil ?_
 refine CD.seq ?_
 refine CD.region ?_
 refine OD.still (wants_plain rfl) rfl (still_mv rfl ot) ?_
 refine OD.still (wants_plain rfl) rfl (still_bin rfl ot opd_const bin_neq) ?_
 refine OD.wk (Wk.as_ (n := 106) (l' := [(0, _), (4, _), (5, _), (6, _), (8, _), (18, _)]) (S' := [⟨b6, 33, 3, [_, _, _]⟩, ⟨b5, 33, 3, [_, _, _]⟩, ⟨b4, 33, 3, [_, _, _]⟩]) rfl rfl ⟨lk, lk, lk, lk, lk, lk, trivial⟩) ?_
 refine OD.nil ?_
 refine CD.cond ot (fun hc0 => ?_) (fun hc0 => ?_)
 ·have hc0' := hc0
  (try simp only [V.cnd, ne_eq] at hc0')
  have hb0 : bothV a b ≠ 0 := by simpa using hc0
  have hres : twoF k a b = (noVl, bothV a b) := by unfold twoF; rw [if_pos hb0]
  refine CD.seq ?_
  refine CD.region ?_
  refine OD.still (wants_plain rfl) rfl (still_bld (pl := []) (ds := [_, _, _]) rfl Tryd.zeroValue33 Tryd.runUnderlying33 places33_Ex2 trivial rfl rfl) ?_
  refine OD.still (wants_plain rfl) rfl (still_mv rfl ot) ?_
  refine OD.store (k := 0) (cs' := [_, _, _]) (wants_plain rfl) rfl rfl ot rfl rfl ot rfl rfl Tryd.sizeOf33 rfl rfl rfl ?_
  refine OD.still (wants_plain rfl) rfl (still_as rfl ot) ?_
  refine OD.wk (Wk.as_ (n := 106) (l' := [(6, _), (7, _)]) (S' := [⟨b6, 33, 3, [_, _, _]⟩, ⟨b5, 33, 3, [_, _, _]⟩, ⟨b4, 33, 3, [_, _, _]⟩]) rfl rfl ⟨lk, lk, trivial⟩) ?_
  refine OD.nil ?_
  refine CD.ret ?_
  refine ⟨.inr rfl, _, [], List.nil_sublist _, ret_two Tryd.results13 (res_cells (k := 0) (ds := [_, _, _]) (Nat.le_of_ble_eq_true rfl) lk rfl rfl Tryd.isAgg33 Tryd.sizeOf33 rfl rfl) (res_tmp (Nat.le_of_ble_eq_true rfl) lk), ?_⟩
  rw [hres]
  first | exact ⟨rfl, rfl⟩ | (refine ⟨?_, rfl⟩; clear hres hcv hav hl0 hl1 hbv hnv; generalize (cmpV a b == 0) = z1 at *; generalize (decide (cmpV a b < 0)) = z2 at *; subst_vars; simp_all; done)
 ·have hc0' := hc0
  (try simp only [V.cnd, ne_eq] at hc0')
  have hb0 : bothV a b = 0 := by simpa using hc0
  refine CD.skip ?_
  refine CD.seq ?_
  refine CD.seq ?_
  refine CD.region ?_
  refine OD.still (wants_plain rfl) rfl (still_mv rfl ot) ?_
  refine OD.wk (Wk.as_ (n := 106) (l' := [(0, _), (4, _), (5, _), (6, _), (21, _)]) (S' := [⟨b6, 33, 3, [_, _, _]⟩, ⟨b5, 33, 3, [_, _, _]⟩, ⟨b4, 33, 3, [_, _, _]⟩]) rfl rfl ⟨lk, lk, lk, lk, lk, trivial⟩) ?_
  refine OD.nil ?_
  refine CD.block ?_
  refine CD.seq ?_
  refine CD.region ?_
  refine OD.still (wants_plain rfl) rfl (still_bin rfl ot opd_const bin_eql) ?_
  refine OD.still (wants_plain rfl) rfl (still_as rfl ot) ?_
  refine OD.wk (Wk.as_ (n := 106) (l' := [(0, _), (4, _), (5, _), (6, _), (21, _), (22, _)]) (S' := [⟨b6, 33, 3, [_, _, _]⟩, ⟨b5, 33, 3, [_, _, _]⟩, ⟨b4, 33, 3, [_, _, _]⟩]) rfl rfl ⟨lk, lk, lk, lk, lk, lk, trivial⟩) ?_
  refine OD.nil ?_
  refine CD.cond ot (fun hc1 => ?_) (fun hc1 => ?_)
  ·have hc1' := hc1
   (try simp only [V.cnd, ne_eq] at hc1')
   have hres : twoF k a b = logicF a b 0 := by unfold twoF; rw [if_neg (by simp [hb0]), if_pos (by omega)]
   refine CD.seq ?_
   refine CD.region ?_
   refine OD.still (wants_plain rfl) rfl (still_r1 (mk := Op.load 33) rfl ot (by first | exact ld_blks (k := 2) (ds := [_, _, _]) rfl rfl Tryd.isAgg33 Tryd.sizeOf33 rfl rfl | exact ld_is (ds := [_, _, _]) Tryd.isAgg33 Tryd.sizeOf33 rfl rfl)) ?_
   refine OD.still (wants_plain rfl) rfl (still_r1 (mk := Op.load 33) rfl ot (by first | exact ld_blks (k := 1) (ds := [_, _, _]) rfl rfl Tryd.isAgg33 Tryd.sizeOf33 rfl rfl | exact ld_is (ds := [_, _, _]) Tryd.isAgg33 Tryd.sizeOf33 rfl rfl)) ?_
   refine OD.callP (wants_plain rfl) rfl rfl rfl Tryd.call29 (hl0) ⟨ot, ot, opd_const, trivial⟩ ?_
   refine OD.still (wants_plain rfl) rfl (still_extract rfl ot rfl) ?_
   refine OD.still (wants_plain rfl) rfl (still_extract rfl ot rfl) ?_
   refine OD.store (k := 0) (cs' := [_, _, _]) (wants_plain rfl) rfl rfl ot rfl rfl ot rfl rfl Tryd.sizeOf33 rfl rfl rfl ?_
   refine OD.still (wants_plain rfl) rfl (still_as rfl ot) ?_
   refine OD.wk (Wk.as_ (n := 106) (l' := [(6, _), (7, _)]) (S' := [⟨b6, 33, 3, [_, _, _]⟩, ⟨b5, 33, 3, [_, _, _]⟩, ⟨b4, 33, 3, [_, _, _]⟩]) rfl rfl ⟨lk, lk, trivial⟩) ?_
   refine OD.nil ?_
   refine CD.ret ?_
   refine ⟨.inr rfl, _, [], List.nil_sublist _, ret_two Tryd.results13 (res_cells (k := 0) (ds := [_, _, _]) (Nat.le_of_ble_eq_true rfl) lk rfl rfl Tryd.isAgg33 Tryd.sizeOf33 rfl rfl) (res_tmp (Nat.le_of_ble_eq_true rfl) lk), ?_⟩
   rw [hres]
   first | exact ⟨rfl, rfl⟩ | (refine ⟨?_, rfl⟩; clear hres hcv hav hl0 hl1 hbv hnv; generalize (cmpV a b == 0) = z1 at *; generalize (decide (cmpV a b < 0)) = z2 at *; subst_vars; simp_all; done)
  ·have hc1' := hc1
   (try simp only [V.cnd, ne_eq] at hc1')
   refine CD.seq ?_
   refine CD.region ?_
   refine OD.still (wants_plain rfl) rfl (still_bin rfl ot opd_const bin_eql) ?_
   refine OD.still (wants_plain rfl) rfl (still_as rfl ot) ?_
   refine OD.wk (Wk.as_ (n := 106) (l' := [(0, _), (4, _), (5, _), (6, _), (21, _), (29, _)]) (S' := [⟨b6, 33, 3, [_, _, _]⟩, ⟨b5, 33, 3, [_, _, _]⟩, ⟨b4, 33, 3, [_, _, _]⟩]) rfl rfl ⟨lk, lk, lk, lk, lk, lk, trivial⟩) ?_
   refine OD.nil ?_
   refine CD.cond ot (fun hc2 => ?_) (fun hc2 => ?_)
   ·have hc2' := hc2
    (try simp only [V.cnd, ne_eq] at hc2')
    have hres : twoF k a b = logicF a b 1 := by unfold twoF; rw [if_neg (by simp [hb0]), if_neg (by omega), if_pos (by omega)]
    refine CD.seq ?_
    refine CD.region ?_
    refine OD.still (wants_plain rfl) rfl (still_r1 (mk := Op.load 33) rfl ot (by first | exact ld_blks (k := 2) (ds := [_, _, _]) rfl rfl Tryd.isAgg33 Tryd.sizeOf33 rfl rfl | exact ld_is (ds := [_, _, _]) Tryd.isAgg33 Tryd.sizeOf33 rfl rfl)) ?_
    refine OD.still (wants_plain rfl) rfl (still_r1 (mk := Op.load 33) rfl ot (by first | exact ld_blks (k := 1) (ds := [_, _, _]) rfl rfl Tryd.isAgg33 Tryd.sizeOf33 rfl rfl | exact ld_is (ds := [_, _, _]) Tryd.isAgg33 Tryd.sizeOf33 rfl rfl)) ?_
    refine OD.callP (wants_plain rfl) rfl rfl rfl Tryd.call29 (hl1) ⟨ot, ot, opd_const, trivial⟩ ?_
    refine OD.still (wants_plain rfl) rfl (still_extract rfl ot rfl) ?_
    refine OD.still (wants_plain rfl) rfl (still_extract rfl ot rfl) ?_
    refine OD.store (k := 0) (cs' := [_, _, _]) (wants_plain rfl) rfl rfl ot rfl rfl ot rfl rfl Tryd.sizeOf33 rfl rfl rfl ?_
    refine OD.still (wants_plain rfl) rfl (still_as rfl ot) ?_
    refine OD.wk (Wk.as_ (n := 106) (l' := [(6, _), (7, _)]) (S' := [⟨b6, 33, 3, [_, _, _]⟩, ⟨b5, 33, 3, [_, _, _]⟩, ⟨b4, 33, 3, [_, _, _]⟩]) rfl rfl ⟨lk, lk, trivial⟩) ?_
    refine OD.nil ?_
    refine CD.ret ?_
    refine ⟨.inr rfl, _, [], List.nil_sublist _, ret_two Tryd.results13 (res_cells (k := 0) (ds := [_, _, _]) (Nat.le_of_ble_eq_true rfl) lk rfl rfl Tryd.isAgg33 Tryd.sizeOf33 rfl rfl) (res_tmp (Nat.le_of_ble_eq_true rfl) lk), ?_⟩
    rw [hres]
    first | exact ⟨rfl, rfl⟩ | (refine ⟨?_, rfl⟩; clear hres hcv hav hl0 hl1 hbv hnv; generalize (cmpV a b == 0) = z1 at *; generalize (decide (cmpV a b < 0)) = z2 at *; subst_vars; simp_all; done)
   ·have hc2' := hc2
    (try simp only [V.cnd, ne_eq] at hc2')
    refine CD.seq ?_
    refine CD.seq ?_
    refine CD.region ?_
    refine OD.still (wants_plain rfl) rfl (still_bin rfl ot opd_const bin_eql) ?_
    refine OD.still (wants_plain rfl) rfl (still_as rfl ot) ?_
    refine OD.wk (Wk.as_ (n := 106) (l' := [(0, _), (4, _), (5, _), (6, _), (21, _), (36, _)]) (S' := [⟨b6, 33, 3, [_, _, _]⟩, ⟨b5, 33, 3, [_, _, _]⟩, ⟨b4, 33, 3, [_, _, _]⟩]) rfl rfl ⟨lk, lk, lk, lk, lk, lk, trivial⟩) ?_
    refine OD.nil ?_
    refine CD.cond ot (fun hc3 => ?_) (fun hc3 => ?_)
    ·have hc3' := hc3
     (try simp only [V.cnd, ne_eq] at hc3')
     refine CD.skip ?_
     refine CD.condT ot (by first | rfl | assumption) ?_
     refine CD.seq ?_
     refine CD.seq ?_
     refine CD.region ?_
     refine OD.still (wants_plain rfl) rfl (still_r1 (mk := Op.load 33) rfl ot (by first | exact ld_blks (k := 2) (ds := [_, _, _]) rfl rfl Tryd.isAgg33 Tryd.sizeOf33 rfl rfl | exact ld_is (ds := [_, _, _]) Tryd.isAgg33 Tryd.sizeOf33 rfl rfl)) ?_
     refine OD.still (wants_plain rfl) rfl (still_r1 (mk := Op.load 33) rfl ot (by first | exact ld_blks (k := 1) (ds := [_, _, _]) rfl rfl Tryd.isAgg33 Tryd.sizeOf33 rfl rfl | exact ld_is (ds := [_, _, _]) Tryd.isAgg33 Tryd.sizeOf33 rfl rfl)) ?_
     refine OD.callP (wants_plain rfl) rfl rfl rfl Tryd.call30 (hnv) ⟨ot, ot, trivial⟩ ?_
     refine OD.wk (Wk.as_ (n := 106) (l' := [(0, _), (4, _), (5, _), (6, _), (41, _)]) (S' := [⟨b6, 33, 3, [_, _, _]⟩, ⟨b5, 33, 3, [_, _, _]⟩, ⟨b4, 33, 3, [_, _, _]⟩]) rfl rfl ⟨lk, lk, lk, lk, lk, trivial⟩) ?_
     refine OD.nil ?_
     refine CD.cond ot (fun hc5 => ?_) (fun hc5 => ?_)
     ·have hc5' := hc5
      (try simp only [V.cnd, ne_eq] at hc5')
      have hres : twoF k a b = (noVl, 0) := by unfold twoF; rw [if_neg (by simp [hb0]), if_neg (by omega), if_neg (by omega), if_pos (by omega), if_pos hc5]
      refine CD.seq ?_
      refine CD.region ?_
      refine OD.still (wants_plain rfl) rfl (still_bld (pl := []) (ds := [_, _, _]) rfl Tryd.zeroValue33 Tryd.runUnderlying33 places33_Ex2 trivial rfl rfl) ?_
      refine OD.store (k := 0) (cs' := [_, _, _]) (wants_plain rfl) rfl rfl ot rfl rfl ot rfl rfl Tryd.sizeOf33 rfl rfl rfl ?_
      refine OD.still (wants_plain rfl) rfl (still_as rfl opd_const) ?_
      refine OD.wk (Wk.as_ (n := 106) (l' := [(6, _), (7, _)]) (S' := [⟨b6, 33, 3, [_, _, _]⟩, ⟨b5, 33, 3, [_, _, _]⟩, ⟨b4, 33, 3, [_, _, _]⟩]) rfl rfl ⟨lk, lk, trivial⟩) ?_
      refine OD.nil ?_
      refine CD.ret ?_
      refine ⟨.inr rfl, _, [], List.nil_sublist _, ret_two Tryd.results13 (res_cells (k := 0) (ds := [_, _, _]) (Nat.le_of_ble_eq_true rfl) lk rfl rfl Tryd.isAgg33 Tryd.sizeOf33 rfl rfl) (res_tmp (Nat.le_of_ble_eq_true rfl) lk), ?_⟩
      rw [hres]
      first | exact ⟨rfl, rfl⟩ | (refine ⟨?_, rfl⟩; clear hres hcv hav hl0 hl1 hbv hnv; generalize (cmpV a b == 0) = z1 at *; generalize (decide (cmpV a b < 0)) = z2 at *; subst_vars; simp_all; done)
     ·have hc5' := hc5
      (try simp only [V.cnd, ne_eq] at hc5')
      refine CD.skip ?_
      refine CD.seq ?_
      refine CD.seq ?_
      refine CD.region ?_
      refine OD.still (wants_plain rfl) rfl (still_r1 (mk := fun y => Op.fieldAddr 33 y 0) rfl ot (by first | exact fa_ptr (off := 0) Tryd.runUnderlying33 rfl Tryd.sizeOf3 rfl | exact fa_iptr (off := 0) Tryd.runUnderlying33 rfl Tryd.sizeOf3 rfl)) ?_
      refine OD.still (wants_plain rfl) rfl (still_r1 (mk := Op.load 3) rfl ot (by first | exact ld_blk (k := 2) rfl rfl Tryd.isAgg3 rfl | exact ld_i Tryd.isAgg3 rfl)) ?_
      refine OD.still (wants_plain rfl) rfl (still_r1 (mk := fun y => Op.fieldAddr 33 y 0) rfl ot (by first | exact fa_ptr (off := 0) Tryd.runUnderlying33 rfl Tryd.sizeOf3 rfl | exact fa_iptr (off := 0) Tryd.runUnderlying33 rfl Tryd.sizeOf3 rfl)) ?_
      refine OD.still (wants_plain rfl) rfl (still_r1 (mk := Op.load 3) rfl ot (by first | exact ld_blk (k := 1) rfl rfl Tryd.isAgg3 rfl | exact ld_i Tryd.isAgg3 rfl)) ?_
      refine OD.still (wants_plain rfl) rfl (still_bin rfl ot ot bin_neq) ?_
      refine OD.wk (Wk.as_ (n := 106) (l' := [(0, _), (4, _), (5, _), (6, _), (47, _)]) (S' := [⟨b6, 33, 3, [_, _, _]⟩, ⟨b5, 33, 3, [_, _, _]⟩, ⟨b4, 33, 3, [_, _, _]⟩]) rfl rfl ⟨lk, lk, lk, lk, lk, trivial⟩) ?_
      refine OD.nil ?_
      refine CD.cond ot (fun hc6 => ?_) (fun hc6 => ?_)
      ·have hc6' := hc6
       (try simp only [V.cnd, ne_eq] at hc6')
       have hres : twoF k a b = (noVl, 4) := by unfold twoF; rw [if_neg (by simp [hb0]), if_neg (by omega), if_neg (by omega), if_pos (by omega), if_neg (by rw [hc5]; simp), if_pos (by simpa using hc6)]
       refine CD.seq ?_
       refine CD.region ?_
       refine OD.still (wants_plain rfl) rfl (still_bld (pl := []) (ds := [_, _, _]) rfl Tryd.zeroValue33 Tryd.runUnderlying33 places33_Ex2 trivial rfl rfl) ?_
       refine OD.store (k := 0) (cs' := [_, _, _]) (wants_plain rfl) rfl rfl ot rfl rfl ot rfl rfl Tryd.sizeOf33 rfl rfl rfl ?_
       refine OD.still (wants_plain rfl) rfl (still_as rfl opd_const) ?_
       refine OD.wk (Wk.as_ (n := 106) (l' := [(6, _), (7, _)]) (S' := [⟨b6, 33, 3, [_, _, _]⟩, ⟨b5, 33, 3, [_, _, _]⟩, ⟨b4, 33, 3, [_, _, _]⟩]) rfl rfl ⟨lk, lk, trivial⟩) ?_
       refine OD.nil ?_
       refine CD.ret ?_
       refine ⟨.inr rfl, _, [], List.nil_sublist _, ret_two Tryd.results13 (res_cells (k := 0) (ds := [_, _, _]) (Nat.le_of_ble_eq_true rfl) lk rfl rfl Tryd.isAgg33 Tryd.sizeOf33 rfl rfl) (res_tmp (Nat.le_of_ble_eq_true rfl) lk), ?_⟩
       rw [hres]
       first | exact ⟨rfl, rfl⟩ | (refine ⟨?_, rfl⟩; clear hres hcv hav hl0 hl1 hbv hnv; generalize (cmpV a b == 0) = z1 at *; generalize (decide (cmpV a b < 0)) = z2 at *; subst_vars; simp_all; done)
      ·have hc6' := hc6
       (try simp only [V.cnd, ne_eq] at hc6')
       have hres : twoF k a b = (truthV ((cmpV a b == 0 && k == 6) || (decide (cmpV a b < 0) && k == 7)), 0) := by unfold twoF; rw [if_neg (by simp [hb0]), if_neg (by omega), if_neg (by omega), if_pos (by omega), if_neg (by rw [hc5]; simp), if_neg (by simpa using hc6)]
       refine CD.skip ?_
       refine CD.seq ?_
       refine CD.region ?_
       refine OD.still (wants_plain rfl) rfl (still_r1 (mk := Op.load 33) rfl ot (by first | exact ld_blks (k := 2) (ds := [_, _, _]) rfl rfl Tryd.isAgg33 Tryd.sizeOf33 rfl rfl | exact ld_is (ds := [_, _, _]) Tryd.isAgg33 Tryd.sizeOf33 rfl rfl)) ?_
       refine OD.still (wants_plain rfl) rfl (still_r1 (mk := Op.load 33) rfl ot (by first | exact ld_blks (k := 1) (ds := [_, _, _]) rfl rfl Tryd.isAgg33 Tryd.sizeOf33 rfl rfl | exact ld_is (ds := [_, _, _]) Tryd.isAgg33 Tryd.sizeOf33 rfl rfl)) ?_
       refine OD.callP (wants_plain rfl) rfl rfl rfl Tryd.call31 (hcv) ⟨ot, ot, trivial⟩ ?_
       refine OD.still (wants_plain rfl) rfl (still_as rfl ot) ?_
       refine OD.wk (Wk.as_ (n := 106) (l' := [(0, _), (6, _), (9, _)]) (S' := [⟨b6, 33, 3, [_, _, _]⟩, ⟨b5, 33, 3, [_, _, _]⟩, ⟨b4, 33, 3, [_, _, _]⟩]) rfl rfl ⟨lk, lk, lk, trivial⟩) ?_
       refine OD.nil ?_
       refine CD.seq ?_
       refine CD.region ?_
       refine OD.still (wants_plain rfl) rfl (still_mv rfl ot) ?_
       refine OD.still (wants_plain rfl) rfl (still_bin rfl ot opd_const bin_eql) ?_
       refine OD.still (wants_plain rfl) rfl (still_mv rfl ot) ?_
       refine OD.split (t := 54) lk (fun hg54 => ?_) (fun hg54 => ?_)
       ·have hg54' := hg54; (try simp only [V.cnd, ne_eq] at hg54')
        refine OD.still (wants_T rfl rfl rfl lk (by first | rfl | assumption)) rfl (still_mv rfl ot) ?_
        refine OD.still (wants_T rfl rfl rfl lk (by first | rfl | assumption)) rfl (still_bin rfl ot opd_const bin_eql) ?_
        refine OD.still (wants_plain rfl) rfl (still_pickT rfl ot (by first | rfl | assumption) ot) ?_
        refine OD.still (wants_plain rfl) rfl (still_mv rfl ot) ?_
        refine OD.split (t := 58) lk (fun hg58 => ?_) (fun hg58 => ?_)
        ·have hg58' := hg58; (try simp only [V.cnd, ne_eq] at hg58')
         refine OD.skip (wants_F rfl rfl rfl lk (by first | rfl | assumption)) rfl ?_
         refine OD.skip (wants_F rfl rfl rfl lk (by first | rfl | assumption)) rfl ?_
         refine OD.skip (wants_F rfl rfl rfl lk (by first | rfl | assumption)) rfl ?_
         refine OD.skip (wants_J (b := false) rfl rfl rfl lk) rfl ?_
         refine OD.skip (wants_J (b := false) rfl rfl rfl lk) rfl ?_
         refine OD.skip (wants_F rfl rfl rfl lk (by first | rfl | assumption)) rfl ?_
         refine OD.still (wants_plain rfl) rfl (still_pickT rfl ot (by first | rfl | assumption) opd_const) ?_
         refine OD.callP (wants_plain rfl) rfl rfl rfl Tryd.call32 (truth_vp _) ⟨ot, trivial⟩ ?_
         refine OD.store (k := 0) (cs' := [_, _, _]) (wants_plain rfl) rfl rfl ot rfl rfl ot rfl rfl Tryd.sizeOf33 rfl rfl rfl ?_
         refine OD.still (wants_plain rfl) rfl (still_as rfl opd_const) ?_
         refine OD.wk (Wk.as_ (n := 106) (l' := [(6, _), (7, _)]) (S' := [⟨b6, 33, 3, [_, _, _]⟩, ⟨b5, 33, 3, [_, _, _]⟩, ⟨b4, 33, 3, [_, _, _]⟩]) rfl rfl ⟨lk, lk, trivial⟩) ?_
         refine OD.nil ?_
         refine CD.ret ?_
         refine ⟨.inr rfl, _, [], List.nil_sublist _, ret_two Tryd.results13 (res_cells (k := 0) (ds := [_, _, _]) (Nat.le_of_ble_eq_true rfl) lk rfl rfl Tryd.isAgg33 Tryd.sizeOf33 rfl rfl) (res_tmp (Nat.le_of_ble_eq_true rfl) lk), ?_⟩
         rw [hres]
         first | exact ⟨rfl, rfl⟩ | (refine ⟨?_, rfl⟩; clear hres hcv hav hl0 hl1 hbv hnv; generalize (cmpV a b == 0) = z1 at *; generalize (decide (cmpV a b < 0)) = z2 at *; subst_vars; simp_all; done)
        ·have hg58' := hg58; (try simp only [V.cnd, ne_eq] at hg58')
         refine OD.still (wants_T rfl rfl rfl lk (by first | rfl | assumption)) rfl (still_mv rfl ot) ?_
         refine OD.still (wants_T rfl rfl rfl lk (by first | rfl | assumption)) rfl (still_bin rfl ot opd_const bin_lss) ?_
         refine OD.still (wants_T rfl rfl rfl lk (by first | rfl | assumption)) rfl (still_mv rfl ot) ?_
         refine OD.split (t := 61) lk (fun hg61 => ?_) (fun hg61 => ?_)
         ·have hg61' := hg61; (try simp only [V.cnd, ne_eq] at hg61')
          refine OD.still (wants_T rfl rfl rfl lk (by first | rfl | assumption)) rfl (still_mv rfl ot) ?_
          refine OD.still (wants_T rfl rfl rfl lk (by first | rfl | assumption)) rfl (still_bin rfl ot opd_const bin_eql) ?_
          refine OD.still (wants_T rfl rfl rfl lk (by first | rfl | assumption)) rfl (still_pickT rfl ot (by first | rfl | assumption) ot) ?_
          refine OD.still (wants_plain rfl) rfl (still_pickF rfl ot (by first | rfl | assumption) ot) ?_
          refine OD.callP (wants_plain rfl) rfl rfl rfl Tryd.call32 (truth_vp _) ⟨ot, trivial⟩ ?_
          refine OD.store (k := 0) (cs' := [_, _, _]) (wants_plain rfl) rfl rfl ot rfl rfl ot rfl rfl Tryd.sizeOf33 rfl rfl rfl ?_
          refine OD.still (wants_plain rfl) rfl (still_as rfl opd_const) ?_
          refine OD.wk (Wk.as_ (n := 106) (l' := [(6, _), (7, _)]) (S' := [⟨b6, 33, 3, [_, _, _]⟩, ⟨b5, 33, 3, [_, _, _]⟩, ⟨b4, 33, 3, [_, _, _]⟩]) rfl rfl ⟨lk, lk, trivial⟩) ?_
          refine OD.nil ?_
          refine CD.ret ?_
          refine ⟨.inr rfl, _, [], List.nil_sublist _, ret_two Tryd.results13 (res_cells (k := 0) (ds := [_, _, _]) (Nat.le_of_ble_eq_true rfl) lk rfl rfl Tryd.isAgg33 Tryd.sizeOf33 rfl rfl) (res_tmp (Nat.le_of_ble_eq_true rfl) lk), ?_⟩
          rw [hres]
          first | exact ⟨rfl, rfl⟩ | (refine ⟨?_, rfl⟩; clear hres hcv hav hl0 hl1 hbv hnv; generalize (cmpV a b == 0) = z1 at *; generalize (decide (cmpV a b < 0)) = z2 at *; subst_vars; simp_all; done)
         ·have hg61' := hg61; (try simp only [V.cnd, ne_eq] at hg61')
          refine OD.skip (wants_F rfl rfl rfl lk (by first | rfl | assumption)) rfl ?_
          refine OD.skip (wants_F rfl rfl rfl lk (by first | rfl | assumption)) rfl ?_
          refine OD.still (wants_T rfl rfl rfl lk (by first | rfl | assumption)) rfl (still_pickF rfl ot (by first | rfl | assumption) opd_const) ?_
          refine OD.still (wants_plain rfl) rfl (still_pickF rfl ot (by first | rfl | assumption) ot) ?_
          refine OD.callP (wants_plain rfl) rfl rfl rfl Tryd.call32 (truth_vp _) ⟨ot, trivial⟩ ?_
          refine OD.store (k := 0) (cs' := [_, _, _]) (wants_plain rfl) rfl rfl ot rfl rfl ot rfl rfl Tryd.sizeOf33 rfl rfl rfl ?_
          refine OD.still (wants_plain rfl) rfl (still_as rfl opd_const) ?_
          refine OD.wk (Wk.as_ (n := 106) (l' := [(6, _), (7, _)]) (S' := [⟨b6, 33, 3, [_, _, _]⟩, ⟨b5, 33, 3, [_, _, _]⟩, ⟨b4, 33, 3, [_, _, _]⟩]) rfl rfl ⟨lk, lk, trivial⟩) ?_
          refine OD.nil ?_
          refine CD.ret ?_
          refine ⟨.inr rfl, _, [], List.nil_sublist _, ret_two Tryd.results13 (res_cells (k := 0) (ds := [_, _, _]) (Nat.le_of_ble_eq_true rfl) lk rfl rfl Tryd.isAgg33 Tryd.sizeOf33 rfl rfl) (res_tmp (Nat.le_of_ble_eq_true rfl) lk), ?_⟩
          rw [hres]
          first | exact ⟨rfl, rfl⟩ | (refine ⟨?_, rfl⟩; clear hres hcv hav hl0 hl1 hbv hnv; generalize (cmpV a b == 0) = z1 at *; generalize (decide (cmpV a b < 0)) = z2 at *; subst_vars; simp_all; done)
       ·have hg54' := hg54; (try simp only [V.cnd, ne_eq] at hg54')
        refine OD.skip (wants_F rfl rfl rfl lk (by first | rfl | assumption)) rfl ?_
        refine OD.skip (wants_F rfl rfl rfl lk (by first | rfl | assumption)) rfl ?_
        refine OD.still (wants_plain rfl) rfl (still_pickF rfl ot (by first | rfl | assumption) opd_const) ?_
        refine OD.still (wants_plain rfl) rfl (still_mv rfl ot) ?_
        refine OD.still (wants_T rfl rfl rfl lk (by first | rfl | assumption)) rfl (still_mv rfl ot) ?_
        refine OD.still (wants_T rfl rfl rfl lk (by first | rfl | assumption)) rfl (still_bin rfl ot opd_const bin_lss) ?_
        refine OD.still (wants_T rfl rfl rfl lk (by first | rfl | assumption)) rfl (still_mv rfl ot) ?_
        refine OD.split (t := 61) lk (fun hg61 => ?_) (fun hg61 => ?_)
        ·have hg61' := hg61; (try simp only [V.cnd, ne_eq] at hg61')
         refine OD.still (wants_T rfl rfl rfl lk (by first | rfl | assumption)) rfl (still_mv rfl ot) ?_
         refine OD.still (wants_T rfl rfl rfl lk (by first | rfl | assumption)) rfl (still_bin rfl ot opd_const bin_eql) ?_
         refine OD.still (wants_T rfl rfl rfl lk (by first | rfl | assumption)) rfl (still_pickT rfl ot (by first | rfl | assumption) ot) ?_
         refine OD.still (wants_plain rfl) rfl (still_pickF rfl ot (by first | rfl | assumption) ot) ?_
         refine OD.callP (wants_plain rfl) rfl rfl rfl Tryd.call32 (truth_vp _) ⟨ot, trivial⟩ ?_
         refine OD.store (k := 0) (cs' := [_, _, _]) (wants_plain rfl) rfl rfl ot rfl rfl ot rfl rfl Tryd.sizeOf33 rfl rfl rfl ?_
         refine OD.still (wants_plain rfl) rfl (still_as rfl opd_const) ?_
         refine OD.wk (Wk.as_ (n := 106) (l' := [(6, _), (7, _)]) (S' := [⟨b6, 33, 3, [_, _, _]⟩, ⟨b5, 33, 3, [_, _, _]⟩, ⟨b4, 33, 3, [_, _, _]⟩]) rfl rfl ⟨lk, lk, trivial⟩) ?_
         refine OD.nil ?_
         refine CD.ret ?_
         refine ⟨.inr rfl, _, [], List.nil_sublist _, ret_two Tryd.results13 (res_cells (k := 0) (ds := [_, _, _]) (Nat.le_of_ble_eq_true rfl) lk rfl rfl Tryd.isAgg33 Tryd.sizeOf33 rfl rfl) (res_tmp (Nat.le_of_ble_eq_true rfl) lk), ?_⟩
         rw [hres]
         first | exact ⟨rfl, rfl⟩ | (refine ⟨?_, rfl⟩; clear hres hcv hav hl0 hl1 hbv hnv; generalize (cmpV a b == 0) = z1 at *; generalize (decide (cmpV a b < 0)) = z2 at *; subst_vars; simp_all; done)
        ·have hg61' := hg61; (try simp only [V.cnd, ne_eq] at hg61')
         refine OD.skip (wants_F rfl rfl rfl lk (by first | rfl | assumption)) rfl ?_
         refine OD.skip (wants_F rfl rfl rfl lk (by first | rfl | assumption)) rfl ?_
         refine OD.still (wants_T rfl rfl rfl lk (by first | rfl | assumption)) rfl (still_pickF rfl ot (by first | rfl | assumption) opd_const) ?_
         refine OD.still (wants_plain rfl) rfl (still_pickF rfl ot (by first | rfl | assumption) ot) ?_
         refine OD.callP (wants_plain rfl) rfl rfl rfl Tryd.call32 (truth_vp _) ⟨ot, trivial⟩ ?_
         refine OD.store (k := 0) (cs' := [_, _, _]) (wants_plain rfl) rfl rfl ot rfl rfl ot rfl rfl Tryd.sizeOf33 rfl rfl rfl ?_
         refine OD.still (wants_plain rfl) rfl (still_as rfl opd_const) ?_
         refine OD.wk (Wk.as_ (n := 106) (l' := [(6, _), (7, _)]) (S' := [⟨b6, 33, 3, [_, _, _]⟩, ⟨b5, 33, 3, [_, _, _]⟩, ⟨b4, 33, 3, [_, _, _]⟩]) rfl rfl ⟨lk, lk, trivial⟩) ?_
         refine OD.nil ?_
         refine CD.ret ?_
         refine ⟨.inr rfl, _, [], List.nil_sublist _, ret_two Tryd.results13 (res_cells (k := 0) (ds := [_, _, _]) (Nat.le_of_ble_eq_true rfl) lk rfl rfl Tryd.isAgg33 Tryd.sizeOf33 rfl rfl) (res_tmp (Nat.le_of_ble_eq_true rfl) lk), ?_⟩
         rw [hres]
         first | exact ⟨rfl, rfl⟩ | (refine ⟨?_, rfl⟩; clear hres hcv hav hl0 hl1 hbv hnv; generalize (cmpV a b == 0) = z1 at *; generalize (decide (cmpV a b < 0)) = z2 at *; subst_vars; simp_all; done)
    ·have hc3' := hc3
     (try simp only [V.cnd, ne_eq] at hc3')
     refine CD.region ?_
     refine OD.still (wants_plain rfl) rfl (still_bin rfl ot opd_const bin_eql) ?_
     refine OD.still (wants_plain rfl) rfl (still_as rfl ot) ?_
     refine OD.wk (Wk.as_ (n := 106) (l' := [(0, _), (4, _), (5, _), (6, _), (21, _), (36, _)]) (S' := [⟨b6, 33, 3, [_, _, _]⟩, ⟨b5, 33, 3, [_, _, _]⟩, ⟨b4, 33, 3, [_, _, _]⟩]) rfl rfl ⟨lk, lk, lk, lk, lk, lk, trivial⟩) ?_
     refine OD.nil ?_
     refine CD.cond ot (fun hc4 => ?_) (fun hc4 => ?_)
     ·have hc4' := hc4
      (try simp only [V.cnd, ne_eq] at hc4')
      refine CD.seq ?_
      refine CD.seq ?_
      refine CD.region ?_
      refine OD.still (wants_plain rfl) rfl (still_r1 (mk := Op.load 33) rfl ot (by first | exact ld_blks (k := 2) (ds := [_, _, _]) rfl rfl Tryd.isAgg33 Tryd.sizeOf33 rfl rfl | exact ld_is (ds := [_, _, _]) Tryd.isAgg33 Tryd.sizeOf33 rfl rfl)) ?_
      refine OD.still (wants_plain rfl) rfl (still_r1 (mk := Op.load 33) rfl ot (by first | exact ld_blks (k := 1) (ds := [_, _, _]) rfl rfl Tryd.isAgg33 Tryd.sizeOf33 rfl rfl | exact ld_is (ds := [_, _, _]) Tryd.isAgg33 Tryd.sizeOf33 rfl rfl)) ?_
      refine OD.callP (wants_plain rfl) rfl rfl rfl Tryd.call30 (hnv) ⟨ot, ot, trivial⟩ ?_
      refine OD.wk (Wk.as_ (n := 106) (l' := [(0, _), (4, _), (5, _), (6, _), (41, _)]) (S' := [⟨b6, 33, 3, [_, _, _]⟩, ⟨b5, 33, 3, [_, _, _]⟩, ⟨b4, 33, 3, [_, _, _]⟩]) rfl rfl ⟨lk, lk, lk, lk, lk, trivial⟩) ?_
      refine OD.nil ?_
      refine CD.cond ot (fun hc5 => ?_) (fun hc5 => ?_)
      ·have hc5' := hc5
       (try simp only [V.cnd, ne_eq] at hc5')
       have hres : twoF k a b = (noVl, 0) := by unfold twoF; rw [if_neg (by simp [hb0]), if_neg (by omega), if_neg (by omega), if_pos (by omega), if_pos hc5]
       refine CD.seq ?_
       refine CD.region ?_
       refine OD.still (wants_plain rfl) rfl (still_bld (pl := []) (ds := [_, _, _]) rfl Tryd.zeroValue33 Tryd.runUnderlying33 places33_Ex2 trivial rfl rfl) ?_
       refine OD.store (k := 0) (cs' := [_, _, _]) (wants_plain rfl) rfl rfl ot rfl rfl ot rfl rfl Tryd.sizeOf33 rfl rfl rfl ?_
       refine OD.still (wants_plain rfl) rfl (still_as rfl opd_const) ?_
       refine OD.wk (Wk.as_ (n := 106) (l' := [(6, _), (7, _)]) (S' := [⟨b6, 33, 3, [_, _, _]⟩, ⟨b5, 33, 3, [_, _, _]⟩, ⟨b4, 33, 3, [_, _, _]⟩]) rfl rfl ⟨lk, lk, trivial⟩) ?_
       refine OD.nil ?_
       refine CD.ret ?_
       refine ⟨.inr rfl, _, [], List.nil_sublist _, ret_two Tryd.results13 (res_cells (k := 0) (ds := [_, _, _]) (Nat.le_of_ble_eq_true rfl) lk rfl rfl Tryd.isAgg33 Tryd.sizeOf33 rfl rfl) (res_tmp (Nat.le_of_ble_eq_true rfl) lk), ?_⟩
       rw [hres]
       first | exact ⟨rfl, rfl⟩ | (refine ⟨?_, rfl⟩; clear hres hcv hav hl0 hl1 hbv hnv; generalize (cmpV a b == 0) = z1 at *; generalize (decide (cmpV a b < 0)) = z2 at *; subst_vars; simp_all; done)
      ·have hc5' := hc5
       (try simp only [V.cnd, ne_eq] at hc5')
       refine CD.skip ?_
       refine CD.seq ?_
       refine CD.seq ?_
       refine CD.region ?_
       refine OD.still (wants_plain rfl) rfl (still_r1 (mk := fun y => Op.fieldAddr 33 y 0) rfl ot (by first | exact fa_ptr (off := 0) Tryd.runUnderlying33 rfl Tryd.sizeOf3 rfl | exact fa_iptr (off := 0) Tryd.runUnderlying33 rfl Tryd.sizeOf3 rfl)) ?_
       refine OD.still (wants_plain rfl) rfl (still_r1 (mk := Op.load 3) rfl ot (by first | exact ld_blk (k := 2) rfl rfl Tryd.isAgg3 rfl | exact ld_i Tryd.isAgg3 rfl)) ?_
       refine OD.still (wants_plain rfl) rfl (still_r1 (mk := fun y => Op.fieldAddr 33 y 0) rfl ot (by first | exact fa_ptr (off := 0) Tryd.runUnderlying33 rfl Tryd.sizeOf3 rfl | exact fa_iptr (off := 0) Tryd.runUnderlying33 rfl Tryd.sizeOf3 rfl)) ?_
       refine OD.still (wants_plain rfl) rfl (still_r1 (mk := Op.load 3) rfl ot (by first | exact ld_blk (k := 1) rfl rfl Tryd.isAgg3 rfl | exact ld_i Tryd.isAgg3 rfl)) ?_
       refine OD.still (wants_plain rfl) rfl (still_bin rfl ot ot bin_neq) ?_
       refine OD.wk (Wk.as_ (n := 106) (l' := [(0, _), (4, _), (5, _), (6, _), (47, _)]) (S' := [⟨b6, 33, 3, [_, _, _]⟩, ⟨b5, 33, 3, [_, _, _]⟩, ⟨b4, 33, 3, [_, _, _]⟩]) rfl rfl ⟨lk, lk, lk, lk, lk, trivial⟩) ?_
       refine OD.nil ?_
       refine CD.cond ot (fun hc6 => ?_) (fun hc6 => ?_)
       ·have hc6' := hc6
        (try simp only [V.cnd, ne_eq] at hc6')
        have hres : twoF k a b = (noVl, 4) := by unfold twoF; rw [if_neg (by simp [hb0]), if_neg (by omega), if_neg (by omega), if_pos (by omega), if_neg (by rw [hc5]; simp), if_pos (by simpa using hc6)]
        refine CD.seq ?_
        refine CD.region ?_
        refine OD.still (wants_plain rfl) rfl (still_bld (pl := []) (ds := [_, _, _]) rfl Tryd.zeroValue33 Tryd.runUnderlying33 places33_Ex2 trivial rfl rfl) ?_
        refine OD.store (k := 0) (cs' := [_, _, _]) (wants_plain rfl) rfl rfl ot rfl rfl ot rfl rfl Tryd.sizeOf33 rfl rfl rfl ?_
        refine OD.still (wants_plain rfl) rfl (still_as rfl opd_const) ?_
        refine OD.wk (Wk.as_ (n := 106) (l' := [(6, _), (7, _)]) (S' := [⟨b6, 33, 3, [_, _, _]⟩, ⟨b5, 33, 3, [_, _, _]⟩, ⟨b4, 33, 3, [_, _, _]⟩]) rfl rfl ⟨lk, lk, trivial⟩) ?_
        refine OD.nil ?_
        refine CD.ret ?_
        refine ⟨.inr rfl, _, [], List.nil_sublist _, ret_two Tryd.results13 (res_cells (k := 0) (ds := [_, _, _]) (Nat.le_of_ble_eq_true rfl) lk rfl rfl Tryd.isAgg33 Tryd.sizeOf33 rfl rfl) (res_tmp (Nat.le_of_ble_eq_true rfl) lk), ?_⟩
        rw [hres]
        first | exact ⟨rfl, rfl⟩ | (refine ⟨?_, rfl⟩; clear hres hcv hav hl0 hl1 hbv hnv; generalize (cmpV a b == 0) = z1 at *; generalize (decide (cmpV a b < 0)) = z2 at *; subst_vars; simp_all; done)
       ·have hc6' := hc6
        (try simp only [V.cnd, ne_eq] at hc6')
        have hres : twoF k a b = (truthV ((cmpV a b == 0 && k == 6) || (decide (cmpV a b < 0) && k == 7)), 0) := by unfold twoF; rw [if_neg (by simp [hb0]), if_neg (by omega), if_neg (by omega), if_pos (by omega), if_neg (by rw [hc5]; simp), if_neg (by simpa using hc6)]
        refine CD.skip ?_
        refine CD.seq ?_
        refine CD.region ?_
        refine OD.still (wants_plain rfl) rfl (still_r1 (mk := Op.load 33) rfl ot (by first | exact ld_blks (k := 2) (ds := [_, _, _]) rfl rfl Tryd.isAgg33 Tryd.sizeOf33 rfl rfl | exact ld_is (ds := [_, _, _]) Tryd.isAgg33 Tryd.sizeOf33 rfl rfl)) ?_
        refine OD.still (wants_plain rfl) rfl (still_r1 (mk := Op.load 33) rfl ot (by first | exact ld_blks (k := 1) (ds := [_, _, _]) rfl rfl Tryd.isAgg33 Tryd.sizeOf33 rfl rfl | exact ld_is (ds := [_, _, _]) Tryd.isAgg33 Tryd.sizeOf33 rfl rfl)) ?_
        refine OD.callP (wants_plain rfl) rfl rfl rfl Tryd.call31 (hcv) ⟨ot, ot, trivial⟩ ?_
        refine OD.still (wants_plain rfl) rfl (still_as rfl ot) ?_
        refine OD.wk (Wk.as_ (n := 106) (l' := [(0, _), (6, _), (9, _)]) (S' := [⟨b6, 33, 3, [_, _, _]⟩, ⟨b5, 33, 3, [_, _, _]⟩, ⟨b4, 33, 3, [_, _, _]⟩]) rfl rfl ⟨lk, lk, lk, trivial⟩) ?_
        refine OD.nil ?_
        refine CD.seq ?_
        refine CD.region ?_
        refine OD.still (wants_plain rfl) rfl (still_mv rfl ot) ?_
        refine OD.still (wants_plain rfl) rfl (still_bin rfl ot opd_const bin_eql) ?_
        refine OD.still (wants_plain rfl) rfl (still_mv rfl ot) ?_
        refine OD.split (t := 54) lk (fun hg54 => ?_) (fun hg54 => ?_)
        ·have hg54' := hg54; (try simp only [V.cnd, ne_eq] at hg54')
         refine OD.still (wants_T rfl rfl rfl lk (by first | rfl | assumption)) rfl (still_mv rfl ot) ?_
         refine OD.still (wants_T rfl rfl rfl lk (by first | rfl | assumption)) rfl (still_bin rfl ot opd_const bin_eql) ?_
         refine OD.still (wants_plain rfl) rfl (still_pickT rfl ot (by first | rfl | assumption) ot) ?_
         refine OD.still (wants_plain rfl) rfl (still_mv rfl ot) ?_
         refine OD.split (t := 58) lk (fun hg58 => ?_) (fun hg58 => ?_)
         ·have hg58' := hg58; (try simp only [V.cnd, ne_eq] at hg58')
          refine OD.skip (wants_F rfl rfl rfl lk (by first | rfl | assumption)) rfl ?_
          refine OD.skip (wants_F rfl rfl rfl lk (by first | rfl | assumption)) rfl ?_
          refine OD.skip (wants_F rfl rfl rfl lk (by first | rfl | assumption)) rfl ?_
          refine OD.skip (wants_J (b := false) rfl rfl rfl lk) rfl ?_
          refine OD.skip (wants_J (b := false) rfl rfl rfl lk) rfl ?_
          refine OD.skip (wants_F rfl rfl rfl lk (by first | rfl | assumption)) rfl ?_
          refine OD.still (wants_plain rfl) rfl (still_pickT rfl ot (by first | rfl | assumption) opd_const) ?_
          refine OD.callP (wants_plain rfl) rfl rfl rfl Tryd.call32 (truth_vp _) ⟨ot, trivial⟩ ?_
          refine OD.store (k := 0) (cs' := [_, _, _]) (wants_plain rfl) rfl rfl ot rfl rfl ot rfl rfl Tryd.sizeOf33 rfl rfl rfl ?_
          refine OD.still (wants_plain rfl) rfl (still_as rfl opd_const) ?_
          refine OD.wk (Wk.as_ (n := 106) (l' := [(6, _), (7, _)]) (S' := [⟨b6, 33, 3, [_, _, _]⟩, ⟨b5, 33, 3, [_, _, _]⟩, ⟨b4, 33, 3, [_, _, _]⟩]) rfl rfl ⟨lk, lk, trivial⟩) ?_
          refine OD.nil ?_
          refine CD.ret ?_
          refine ⟨.inr rfl, _, [], List.nil_sublist _, ret_two Tryd.results13 (res_cells (k := 0) (ds := [_, _, _]) (Nat.le_of_ble_eq_true rfl) lk rfl rfl Tryd.isAgg33 Tryd.sizeOf33 rfl rfl) (res_tmp (Nat.le_of_ble_eq_true rfl) lk), ?_⟩
          rw [hres]
          first | exact ⟨rfl, rfl⟩ | (refine ⟨?_, rfl⟩; clear hres hcv hav hl0 hl1 hbv hnv; generalize (cmpV a b == 0) = z1 at *; generalize (decide (cmpV a b < 0)) = z2 at *; subst_vars; simp_all; done)
         ·have hg58' := hg58; (try simp only [V.cnd, ne_eq] at hg58')
          refine OD.still (wants_T rfl rfl rfl lk (by first | rfl | assumption)) rfl (still_mv rfl ot) ?_
          refine OD.still (wants_T rfl rfl rfl lk (by first | rfl | assumption)) rfl (still_bin rfl ot opd_const bin_lss) ?_
          refine OD.still (wants_T rfl rfl rfl lk (by first | rfl | assumption)) rfl (still_mv rfl ot) ?_
          refine OD.split (t := 61) lk (fun hg61 => ?_) (fun hg61 => ?_)
          ·have hg61' := hg61; (try simp only [V.cnd, ne_eq] at hg61')
           refine OD.still (wants_T rfl rfl rfl lk (by first | rfl | assumption)) rfl (still_mv rfl ot) ?_
           refine OD.still (wants_T rfl rfl rfl lk (by first | rfl | assumption)) rfl (still_bin rfl ot opd_const bin_eql) ?_
           refine OD.still (wants_T rfl rfl rfl lk (by first | rfl | assumption)) rfl (still_pickT rfl ot (by first | rfl | assumption) ot) ?_
           refine OD.still (wants_plain rfl) rfl (still_pickF rfl ot (by first | rfl | assumption) ot) ?_
           refine OD.callP (wants_plain rfl) rfl rfl rfl Tryd.call32 (truth_vp _) ⟨ot, trivial⟩ ?_
           refine OD.store (k := 0) (cs' := [_, _, _]) (wants_plain rfl) rfl rfl ot rfl rfl ot rfl rfl Tryd.sizeOf33 rfl rfl rfl ?_
           refine OD.still (wants_plain rfl) rfl (still_as rfl opd_const) ?_
           refine OD.wk (Wk.as_ (n := 106) (l' := [(6, _), (7, _)]) (S' := [⟨b6, 33, 3, [_, _, _]⟩, ⟨b5, 33, 3, [_, _, _]⟩, ⟨b4, 33, 3, [_, _, _]⟩]) rfl rfl ⟨lk, lk, trivial⟩) ?_
           refine OD.nil ?_
           refine CD.ret ?_
           refine ⟨.inr rfl, _, [], List.nil_sublist _, ret_two Tryd.results13 (res_cells (k := 0) (ds := [_, _, _]) (Nat.le_of_ble_eq_true rfl) lk rfl rfl Tryd.isAgg33 Tryd.sizeOf33 rfl rfl) (res_tmp (Nat.le_of_ble_eq_true rfl) lk), ?_⟩
           rw [hres]
           first | exact ⟨rfl, rfl⟩ | (refine ⟨?_, rfl⟩; clear hres hcv hav hl0 hl1 hbv hnv; generalize (cmpV a b == 0) = z1 at *; generalize (decide (cmpV a b < 0)) = z2 at *; subst_vars; simp_all; done)
          ·have hg61' := hg61; (try simp only [V.cnd, ne_eq] at hg61')
           refine OD.skip (wants_F rfl rfl rfl lk (by first | rfl | assumption)) rfl ?_
           refine OD.skip (wants_F rfl rfl rfl lk (by first | rfl | assumption)) rfl ?_
           refine OD.still (wants_T rfl rfl rfl lk (by first | rfl | assumption)) rfl (still_pickF rfl ot (by first | rfl | assumption) opd_const) ?_
           refine OD.still (wants_plain rfl) rfl (still_pickF rfl ot (by first | rfl | assumption) ot) ?_
           refine OD.callP (wants_plain rfl) rfl rfl rfl Tryd.call32 (truth_vp _) ⟨ot, trivial⟩ ?_
           refine OD.store (k := 0) (cs' := [_, _, _]) (wants_plain rfl) rfl rfl ot rfl rfl ot rfl rfl Tryd.sizeOf33 rfl rfl rfl ?_
           refine OD.still (wants_plain rfl) rfl (still_as rfl opd_const) ?_
           refine OD.wk (Wk.as_ (n := 106) (l' := [(6, _), (7, _)]) (S' := [⟨b6, 33, 3, [_, _, _]⟩, ⟨b5, 33, 3, [_, _, _]⟩, ⟨b4, 33, 3, [_, _, _]⟩]) rfl rfl ⟨lk, lk, trivial⟩) ?_
           refine OD.nil ?_
           refine CD.ret ?_
           refine ⟨.inr rfl, _, [], List.nil_sublist _, ret_two Tryd.results13 (res_cells (k := 0) (ds := [_, _, _]) (Nat.le_of_ble_eq_true rfl) lk rfl rfl Tryd.isAgg33 Tryd.sizeOf33 rfl rfl) (res_tmp (Nat.le_of_ble_eq_true rfl) lk), ?_⟩
           rw [hres]
           first | exact ⟨rfl, rfl⟩ | (refine ⟨?_, rfl⟩; clear hres hcv hav hl0 hl1 hbv hnv; generalize (cmpV a b == 0) = z1 at *; generalize (decide (cmpV a b < 0)) = z2 at *; subst_vars; simp_all; done)
        ·have hg54' := hg54; (try simp only [V.cnd, ne_eq] at hg54')
         refine OD.skip (wants_F rfl rfl rfl lk (by first | rfl | assumption)) rfl ?_
         refine OD.skip (wants_F rfl rfl rfl lk (by first | rfl | assumption)) rfl ?_
         refine OD.still (wants_plain rfl) rfl (still_pickF rfl ot (by first | rfl | assumption) opd_const) ?_
         refine OD.still (wants_plain rfl) rfl (still_mv rfl ot) ?_
         refine OD.still (wants_T rfl rfl rfl lk (by first | rfl | assumption)) rfl (still_mv rfl ot) ?_
         refine OD.still (wants_T rfl rfl rfl lk (by first | rfl | assumption)) rfl (still_bin rfl ot opd_const bin_lss) ?_
         refine OD.still (wants_T rfl rfl rfl lk (by first | rfl | assumption)) rfl (still_mv rfl ot) ?_
         refine OD.split (t := 61) lk (fun hg61 => ?_) (fun hg61 => ?_)
         ·have hg61' := hg61; (try simp only [V.cnd, ne_eq] at hg61')
          refine OD.still (wants_T rfl rfl rfl lk (by first | rfl | assumption)) rfl (still_mv rfl ot) ?_
          refine OD.still (wants_T rfl rfl rfl lk (by first | rfl | assumption)) rfl (still_bin rfl ot opd_const bin_eql) ?_
          refine OD.still (wants_T rfl rfl rfl lk (by first | rfl | assumption)) rfl (still_pickT rfl ot (by first | rfl | assumption) ot) ?_
          refine OD.still (wants_plain rfl) rfl (still_pickF rfl ot (by first | rfl | assumption) ot) ?_
          refine OD.callP (wants_plain rfl) rfl rfl rfl Tryd.call32 (truth_vp _) ⟨ot, trivial⟩ ?_
          refine OD.store (k := 0) (cs' := [_, _, _]) (wants_plain rfl) rfl rfl ot rfl rfl ot rfl rfl Tryd.sizeOf33 rfl rfl rfl ?_
          refine OD.still (wants_plain rfl) rfl (still_as rfl opd_const) ?_
          refine OD.wk (Wk.as_ (n := 106) (l' := [(6, _), (7, _)]) (S' := [⟨b6, 33, 3, [_, _, _]⟩, ⟨b5, 33, 3, [_, _, _]⟩, ⟨b4, 33, 3, [_, _, _]⟩]) rfl rfl ⟨lk, lk, trivial⟩) ?_
          refine OD.nil ?_
          refine CD.ret ?_
          refine ⟨.inr rfl, _, [], List.nil_sublist _, ret_two Tryd.results13 (res_cells (k := 0) (ds := [_, _, _]) (Nat.le_of_ble_eq_true rfl) lk rfl rfl Tryd.isAgg33 Tryd.sizeOf33 rfl rfl) (res_tmp (Nat.le_of_ble_eq_true rfl) lk), ?_⟩
          rw [hres]
          first | exact ⟨rfl, rfl⟩ | (refine ⟨?_, rfl⟩; clear hres hcv hav hl0 hl1 hbv hnv; generalize (cmpV a b == 0) = z1 at *; generalize (decide (cmpV a b < 0)) = z2 at *; subst_vars; simp_all; done)
         ·have hg61' := hg61; (try simp only [V.cnd, ne_eq] at hg61')
          refine OD.skip (wants_F rfl rfl rfl lk (by first | rfl | assumption)) rfl ?_
          refine OD.skip (wants_F rfl rfl rfl lk (by first | rfl | assumption)) rfl ?_
          refine OD.still (wants_T rfl rfl rfl lk (by first | rfl | assumption)) rfl (still_pickF rfl ot (by first | rfl | assumption) opd_const) ?_
          refine OD.still (wants_plain rfl) rfl (still_pickF rfl ot (by first | rfl | assumption) ot) ?_
          refine OD.callP (wants_plain rfl) rfl rfl rfl Tryd.call32 (truth_vp _) ⟨ot, trivial⟩ ?_
          refine OD.store (k := 0) (cs' := [_, _, _]) (wants_plain rfl) rfl rfl ot rfl rfl ot rfl rfl Tryd.sizeOf33 rfl rfl rfl ?_
          refine OD.still (wants_plain rfl) rfl (still_as rfl opd_const) ?_
          refine OD.wk (Wk.as_ (n := 106) (l' := [(6, _), (7, _)]) (S' := [⟨b6, 33, 3, [_, _, _]⟩, ⟨b5, 33, 3, [_, _, _]⟩, ⟨b4, 33, 3, [_, _, _]⟩]) rfl rfl ⟨lk, lk, trivial⟩) ?_
          refine OD.nil ?_
          refine CD.ret ?_
          refine ⟨.inr rfl, _, [], List.nil_sublist _, ret_two Tryd.results13 (res_cells (k := 0) (ds := [_, _, _]) (Nat.le_of_ble_eq_true rfl) lk rfl rfl Tryd.isAgg33 Tryd.sizeOf33 rfl rfl) (res_tmp (Nat.le_of_ble_eq_true rfl) lk), ?_⟩
          rw [hres]
          first | exact ⟨rfl, rfl⟩ | (refine ⟨?_, rfl⟩; clear hres hcv hav hl0 hl1 hbv hnv; generalize (cmpV a b == 0) = z1 at *; generalize (decide (cmpV a b < 0)) = z2 at *; subst_vars; simp_all; done)
     ·have hc4' := hc4
      (try simp only [V.cnd, ne_eq] at hc4')
      refine CD.seq ?_
      refine CD.seq ?_
      refine CD.region ?_
      refine OD.still (wants_plain rfl) rfl (still_bin rfl ot opd_const bin_eql) ?_
      refine OD.still (wants_plain rfl) rfl (still_as rfl ot) ?_
      refine OD.wk (Wk.as_ (n := 106) (l' := [(0, _), (4, _), (5, _), (6, _), (21, _), (67, _)]) (S' := [⟨b6, 33, 3, [_, _, _]⟩, ⟨b5, 33, 3, [_, _, _]⟩, ⟨b4, 33, 3, [_, _, _]⟩]) rfl rfl ⟨lk, lk, lk, lk, lk, lk, trivial⟩) ?_
      refine OD.nil ?_
      refine CD.cond ot (fun hc7 => ?_) (fun hc7 => ?_)
      ·have hc7' := hc7
       (try simp only [V.cnd, ne_eq] at hc7')
       refine CD.skip ?_
       refine CD.condT ot (by first | rfl | assumption) ?_
       refine CD.seq ?_
       refine CD.seq ?_
       refine CD.region ?_
       refine OD.still (wants_plain rfl) rfl (still_r1 (mk := Op.load 33) rfl ot (by first | exact ld_blks (k := 2) (ds := [_, _, _]) rfl rfl Tryd.isAgg33 Tryd.sizeOf33 rfl rfl | exact ld_is (ds := [_, _, _]) Tryd.isAgg33 Tryd.sizeOf33 rfl rfl)) ?_
       refine OD.still (wants_plain rfl) rfl (still_r1 (mk := Op.load 33) rfl ot (by first | exact ld_blks (k := 1) (ds := [_, _, _]) rfl rfl Tryd.isAgg33 Tryd.sizeOf33 rfl rfl | exact ld_is (ds := [_, _, _]) Tryd.isAgg33 Tryd.sizeOf33 rfl rfl)) ?_
       refine OD.still (wants_plain rfl) rfl (still_bldA (pl := [(0, _), (1, _)]) (ds := [_, _, _, _, _, _]) rfl Tryd.zeroValue67 Tryd.runUnderlying67 Tryd.sizeOf33 ⟨rfl, ot, rfl, ot, trivial⟩ rfl rfl) ?_
       refine OD.still (wants_plain rfl) rfl (still_mv rfl opd_const) ?_
       refine OD.wk (Wk.as_ (n := 106) (l' := [(0, _), (4, _), (5, _), (6, _), (73, _), (74, _)]) (S' := [⟨b6, 33, 3, [_, _, _]⟩, ⟨b5, 33, 3, [_, _, _]⟩, ⟨b4, 33, 3, [_, _, _]⟩]) rfl rfl ⟨lk, lk, lk, lk, lk, lk, trivial⟩) ?_
       refine OD.nil ?_
       refine CD.block ?_
       refine CD.wk (Wk.asS (n := 106) (l' := [(0, .v (.int .i64 k)), (4, .v (.pointer (some ⟨b4, 0, none⟩))), (5, .v (.pointer (some ⟨b5, 0, none⟩))), (6, .v (.pointer (some ⟨b6, 0, none⟩))), (73, .agg [.v (.int .i64 a.k), .v (.int .i64 a.n), .v (.string a.s), .v (.int .i64 b.k), .v (.int .i64 b.n), .v (.string b.s)]), (74, .v (.int .i64 ((0) : Nat)))]) (S' := [⟨b6, 33, 3, [.v (.int .i64 0), .v (.int .i64 0), .v (.string ⟨#[]⟩)]⟩, ⟨b5, 33, 3, [.v (.int .i64 b.k), .v (.int .i64 b.n), .v (.string b.s)]⟩, ⟨b4, 33, 3, [.v (.int .i64 a.k), .v (.int .i64 a.n), .v (.string a.s)]⟩]) rfl (by repeat (first | exact List.Sublist.refl _ | apply List.Sublist.cons)) ⟨(by (repeat (first | exact look_hit | (apply look_at; focus (first | rfl | (simp; done) | (congr 2; omega))) | (apply look_miss; focus rfl))); done), (by (repeat (first | exact look_hit | (apply look_at; focus (first | rfl | (simp; done) | (congr 2; omega))) | (apply look_miss; focus rfl))); done), (by (repeat (first | exact look_hit | (apply look_at; focus (first | rfl | (simp; done) | (congr 2; omega))) | (apply look_miss; focus rfl))); done), (by (repeat (first | exact look_hit | (apply look_at; focus (first | rfl | (simp; done) | (congr 2; omega))) | (apply look_miss; focus rfl))); done), (by (repeat (first | exact look_hit | (apply look_at; focus (first | rfl | (simp; done) | (congr 2; omega))) | (apply look_miss; focus rfl))); done), (by (repeat (first | exact look_hit | (apply look_at; focus (first | rfl | (simp; done) | (congr 2; omega))) | (apply look_miss; focus rfl))); done), trivial⟩) (CD.loop (fun (i : Nat) y__ => (i ≤ 2) ∧ (∀ j, j < i → ¬ ((selV a b j).k ≠ 2 ∧ (selV a b j).k ≠ 0)) ∧ y__ = (⟨106, [(0, .v (.int .i64 k)), (4, .v (.pointer (some ⟨b4, 0, none⟩))), (5, .v (.pointer (some ⟨b5, 0, none⟩))), (6, .v (.pointer (some ⟨b6, 0, none⟩))), (73, .agg [.v (.int .i64 a.k), .v (.int .i64 a.n), .v (.string a.s), .v (.int .i64 b.k), .v (.int .i64 b.n), .v (.string b.s)]), (74, .v (.int .i64 (i : Nat)))], [⟨b6, 33, 3, [.v (.int .i64 0), .v (.int .i64 0), .v (.string ⟨#[]⟩)]⟩, ⟨b5, 33, 3, [.v (.int .i64 b.k), .v (.int .i64 b.n), .v (.string b.s)]⟩, ⟨b4, 33, 3, [.v (.int .i64 a.k), .v (.int .i64 a.n), .v (.string a.s)]⟩]⟩ : St)) (fun (i : Nat) => 2 - i) 0 ⟨(Nat.zero_le _), (fun j hj => absurd hj (Nat.not_lt_zero _)), rfl⟩ ?_)
       rintro i _ ⟨hi, hall, rfl⟩
       have hk8 : k = 8 ∨ k = 9 ∨ k = 10 := by omega
       refine CD.seq ?_
       refine CD.region ?_
       refine OD.still (wants_plain rfl) rfl (still_bin rfl ot opd_const bin_lss) ?_
       refine OD.wk (Wk.as_ (n := 106) (l' := [(0, _), (4, _), (5, _), (6, _), (73, _), (74, _), (75, _)]) (S' := [⟨b6, 33, 3, [_, _, _]⟩, ⟨b5, 33, 3, [_, _, _]⟩, ⟨b4, 33, 3, [_, _, _]⟩]) rfl rfl ⟨lk, lk, lk, lk, lk, lk, lk, trivial⟩) ?_
       refine OD.nil ?_
       refine CD.seq ?_
       refine CD.cond ot (fun hc10 => ?_) (fun hc10 => ?_)
       ·have hc10' := hc10
        (try simp only [V.cnd, ne_eq] at hc10')
        have hlt : i < 2 := by omega
        refine CD.skip ?_
        refine CD.seq ?_
        refine CD.block ?_
        refine CD.seq ?_
        refine CD.region ?_
        refine OD.still (wants_plain rfl) rfl (still_vidxs (j := i) rfl ot ot Tryd.runUnderlying67 Tryd.sizeOf33 Tryd.isAgg33 rfl hlt (sel_cells a b hlt)) ?_
        refine OD.alloc (ds := [_, _, _]) (wants_plain rfl) rfl rfl Tryd.zeroValue33 rfl (fun b11 => ?_)
        refine OD.store (k := 0) (cs' := [_, _, _]) (wants_plain rfl) rfl rfl ot rfl rfl ot rfl rfl Tryd.sizeOf33 rfl rfl rfl ?_
        refine OD.wk (Wk.as_ (n := 106) (l' := [(0, _), (4, _), (5, _), (6, _), (11, _), (73, _), (74, _)]) (S' := [⟨b11, 33, 3, [_, _, _]⟩, ⟨b6, 33, 3, [_, _, _]⟩, ⟨b5, 33, 3, [_, _, _]⟩, ⟨b4, 33, 3, [_, _, _]⟩]) rfl rfl ⟨lk, lk, lk, lk, lk, lk, lk, trivial⟩) ?_
        refine OD.nil ?_
        refine CD.seq ?_
        refine CD.region ?_
        refine OD.still (wants_plain rfl) rfl (still_r1 (mk := fun y => Op.fieldAddr 33 y 0) rfl ot (by first | exact fa_ptr (off := 0) Tryd.runUnderlying33 rfl Tryd.sizeOf3 rfl | exact fa_iptr (off := 0) Tryd.runUnderlying33 rfl Tryd.sizeOf3 rfl)) ?_
        refine OD.still (wants_plain rfl) rfl (still_r1 (mk := Op.load 3) rfl ot (by first | exact ld_blk (k := 0) rfl rfl Tryd.isAgg3 rfl | exact ld_i Tryd.isAgg3 rfl)) ?_
        refine OD.still (wants_plain rfl) rfl (still_bin rfl ot opd_const bin_neq) ?_
        refine OD.still (wants_plain rfl) rfl (still_mv rfl ot) ?_
        refine OD.split (t := 80) lk (fun hg80 => ?_) (fun hg80 => ?_)
        ·have hg80' := hg80; (try simp only [V.cnd, ne_eq] at hg80')
         refine OD.still (wants_T rfl rfl rfl lk (by first | rfl | assumption)) rfl (still_r1 (mk := fun y => Op.fieldAddr 33 y 0) rfl ot (by first | exact fa_ptr (off := 0) Tryd.runUnderlying33 rfl Tryd.sizeOf3 rfl | exact fa_iptr (off := 0) Tryd.runUnderlying33 rfl Tryd.sizeOf3 rfl)) ?_
         refine OD.still (wants_T rfl rfl rfl lk (by first | rfl | assumption)) rfl (still_r1 (mk := Op.load 3) rfl ot (by first | exact ld_blk (k := 0) rfl rfl Tryd.isAgg3 rfl | exact ld_i Tryd.isAgg3 rfl)) ?_
         refine OD.still (wants_T rfl rfl rfl lk (by first | rfl | assumption)) rfl (still_bin rfl ot opd_const bin_neq) ?_
         refine OD.still (wants_plain rfl) rfl (still_pickT rfl ot (by first | rfl | assumption) ot) ?_
         refine OD.wk (Wk.as_ (n := 106) (l' := [(0, _), (4, _), (5, _), (6, _), (73, _), (74, _), (84, _)]) (S' := [⟨b11, 33, 3, [_, _, _]⟩, ⟨b6, 33, 3, [_, _, _]⟩, ⟨b5, 33, 3, [_, _, _]⟩, ⟨b4, 33, 3, [_, _, _]⟩]) rfl rfl ⟨lk, lk, lk, lk, lk, lk, lk, trivial⟩) ?_
         refine OD.nil ?_
         refine CD.cond ot (fun hc11 => ?_) (fun hc11 => ?_)
         ·have hc11' := hc11
          (try simp only [V.cnd, ne_eq] at hc11')
          have hres : twoF k a b = (noVl, 4) := two_bad hb0 hk8 hlt (by simp_all) (by simp_all)
          refine CD.seq ?_
          refine CD.region ?_
          refine OD.still (wants_plain rfl) rfl (still_bld (pl := []) (ds := [_, _, _]) rfl Tryd.zeroValue33 Tryd.runUnderlying33 places33_Ex2 trivial rfl rfl) ?_
          refine OD.store (k := 1) (cs' := [_, _, _]) (wants_plain rfl) rfl rfl ot rfl rfl ot rfl rfl Tryd.sizeOf33 rfl rfl rfl ?_
          refine OD.still (wants_plain rfl) rfl (still_as rfl opd_const) ?_
          refine OD.wk (Wk.as_ (n := 106) (l' := [(6, _), (7, _)]) (S' := [⟨b11, 33, 3, [_, _, _]⟩, ⟨b6, 33, 3, [_, _, _]⟩, ⟨b5, 33, 3, [_, _, _]⟩, ⟨b4, 33, 3, [_, _, _]⟩]) rfl rfl ⟨lk, lk, trivial⟩) ?_
          refine OD.nil ?_
          refine CD.ret ?_
          refine ⟨.inr rfl, _, [], List.nil_sublist _, ret_two Tryd.results13 (res_cells (k := 1) (ds := [_, _, _]) (Nat.le_of_ble_eq_true rfl) lk rfl rfl Tryd.isAgg33 Tryd.sizeOf33 rfl rfl) (res_tmp (Nat.le_of_ble_eq_true rfl) lk), ?_⟩
          rw [hres]
          first | exact ⟨rfl, rfl⟩ | (refine ⟨?_, rfl⟩; clear hres hcv hav hl0 hl1 hbv hnv; generalize (cmpV a b == 0) = z1 at *; generalize (decide (cmpV a b < 0)) = z2 at *; subst_vars; simp_all; done)
         ·have hc11' := hc11
          (try simp only [V.cnd, ne_eq] at hc11')
          have hone : ¬ ((selV a b i).k ≠ 2 ∧ (selV a b i).k ≠ 0) := by simp_all
          refine CD.skip ?_
          refine CD.region ?_
          refine OD.still (wants_plain rfl) rfl (still_bin rfl ot opd_const (bin_add (wrap_i64 (by omega) (by omega)))) ?_
          refine OD.still (wants_plain rfl) rfl (still_mv rfl ot) ?_
          refine OD.wk (Wk.as_ (n := 106) (l' := [(0, _), (4, _), (5, _), (6, _), (73, _), (74, _)]) (S' := [⟨b11, 33, 3, [_, _, _]⟩, ⟨b6, 33, 3, [_, _, _]⟩, ⟨b5, 33, 3, [_, _, _]⟩, ⟨b4, 33, 3, [_, _, _]⟩]) rfl rfl ⟨lk, lk, lk, lk, lk, lk, trivial⟩) ?_
          refine OD.nil ?_
          refine ⟨(i + 1), ⟨106, [(0, .v (.int .i64 k)), (4, .v (.pointer (some ⟨b4, 0, none⟩))), (5, .v (.pointer (some ⟨b5, 0, none⟩))), (6, .v (.pointer (some ⟨b6, 0, none⟩))), (73, .agg [.v (.int .i64 a.k), .v (.int .i64 a.n), .v (.string a.s), .v (.int .i64 b.k), .v (.int .i64 b.n), .v (.string b.s)]), (74, .v (.int .i64 (((i + 1)) : Nat)))], [⟨b6, 33, 3, [.v (.int .i64 0), .v (.int .i64 0), .v (.string ⟨#[]⟩)]⟩, ⟨b5, 33, 3, [.v (.int .i64 b.k), .v (.int .i64 b.n), .v (.string b.s)]⟩, ⟨b4, 33, 3, [.v (.int .i64 a.k), .v (.int .i64 a.n), .v (.string a.s)]⟩]⟩, ?_, Wk.asS (n := 106) rfl (by repeat (first | exact List.Sublist.refl _ | apply List.Sublist.cons)) ⟨(by (repeat (first | exact look_hit | (apply look_at; focus (first | rfl | (simp; done) | (congr 2; omega))) | (apply look_miss; focus rfl))); done), (by (repeat (first | exact look_hit | (apply look_at; focus (first | rfl | (simp; done) | (congr 2; omega))) | (apply look_miss; focus rfl))); done), (by (repeat (first | exact look_hit | (apply look_at; focus (first | rfl | (simp; done) | (congr 2; omega))) | (apply look_miss; focus rfl))); done), (by (repeat (first | exact look_hit | (apply look_at; focus (first | rfl | (simp; done) | (congr 2; omega))) | (apply look_miss; focus rfl))); done), (by (repeat (first | exact look_hit | (apply look_at; focus (first | rfl | (simp; done) | (congr 2; omega))) | (apply look_miss; focus rfl))); done), (by (repeat (first | exact look_hit | (apply look_at; focus (first | rfl | (simp; done) | (congr 2; omega))) | (apply look_miss; focus rfl))); done), trivial⟩, (by omega), (sel_more (p := fun v => ¬ (v.k ≠ 2 ∧ v.k ≠ 0)) hall hone), rfl⟩
          first | omega | (simp only []; omega)
        ·have hg80' := hg80; (try simp only [V.cnd, ne_eq] at hg80')
         refine OD.skip (wants_F rfl rfl rfl lk (by first | rfl | assumption)) rfl ?_
         refine OD.skip (wants_F rfl rfl rfl lk (by first | rfl | assumption)) rfl ?_
         refine OD.skip (wants_F rfl rfl rfl lk (by first | rfl | assumption)) rfl ?_
         refine OD.still (wants_plain rfl) rfl (still_pickF rfl ot (by first | rfl | assumption) opd_const) ?_
         refine OD.wk (Wk.as_ (n := 106) (l' := [(0, _), (4, _), (5, _), (6, _), (73, _), (74, _), (84, _)]) (S' := [⟨b11, 33, 3, [_, _, _]⟩, ⟨b6, 33, 3, [_, _, _]⟩, ⟨b5, 33, 3, [_, _, _]⟩, ⟨b4, 33, 3, [_, _, _]⟩]) rfl rfl ⟨lk, lk, lk, lk, lk, lk, lk, trivial⟩) ?_
         refine OD.nil ?_
         refine CD.condF ot (by first | rfl | assumption) ?_
         have hone : ¬ ((selV a b i).k ≠ 2 ∧ (selV a b i).k ≠ 0) := by simp_all
         refine CD.skip ?_
         refine CD.region ?_
         refine OD.still (wants_plain rfl) rfl (still_bin rfl ot opd_const (bin_add (wrap_i64 (by omega) (by omega)))) ?_
         refine OD.still (wants_plain rfl) rfl (still_mv rfl ot) ?_
         refine OD.wk (Wk.as_ (n := 106) (l' := [(0, _), (4, _), (5, _), (6, _), (73, _), (74, _)]) (S' := [⟨b11, 33, 3, [_, _, _]⟩, ⟨b6, 33, 3, [_, _, _]⟩, ⟨b5, 33, 3, [_, _, _]⟩, ⟨b4, 33, 3, [_, _, _]⟩]) rfl rfl ⟨lk, lk, lk, lk, lk, lk, trivial⟩) ?_
         refine OD.nil ?_
         refine ⟨(i + 1), ⟨106, [(0, .v (.int .i64 k)), (4, .v (.pointer (some ⟨b4, 0, none⟩))), (5, .v (.pointer (some ⟨b5, 0, none⟩))), (6, .v (.pointer (some ⟨b6, 0, none⟩))), (73, .agg [.v (.int .i64 a.k), .v (.int .i64 a.n), .v (.string a.s), .v (.int .i64 b.k), .v (.int .i64 b.n), .v (.string b.s)]), (74, .v (.int .i64 (((i + 1)) : Nat)))], [⟨b6, 33, 3, [.v (.int .i64 0), .v (.int .i64 0), .v (.string ⟨#[]⟩)]⟩, ⟨b5, 33, 3, [.v (.int .i64 b.k), .v (.int .i64 b.n), .v (.string b.s)]⟩, ⟨b4, 33, 3, [.v (.int .i64 a.k), .v (.int .i64 a.n), .v (.string a.s)]⟩]⟩, ?_, Wk.asS (n := 106) rfl (by repeat (first | exact List.Sublist.refl _ | apply List.Sublist.cons)) ⟨(by (repeat (first | exact look_hit | (apply look_at; focus (first | rfl | (simp; done) | (congr 2; omega))) | (apply look_miss; focus rfl))); done), (by (repeat (first | exact look_hit | (apply look_at; focus (first | rfl | (simp; done) | (congr 2; omega))) | (apply look_miss; focus rfl))); done), (by (repeat (first | exact look_hit | (apply look_at; focus (first | rfl | (simp; done) | (congr 2; omega))) | (apply look_miss; focus rfl))); done), (by (repeat (first | exact look_hit | (apply look_at; focus (first | rfl | (simp; done) | (congr 2; omega))) | (apply look_miss; focus rfl))); done), (by (repeat (first | exact look_hit | (apply look_at; focus (first | rfl | (simp; done) | (congr 2; omega))) | (apply look_miss; focus rfl))); done), (by (repeat (first | exact look_hit | (apply look_at; focus (first | rfl | (simp; done) | (congr 2; omega))) | (apply look_miss; focus rfl))); done), trivial⟩, (by omega), (sel_more (p := fun v => ¬ (v.k ≠ 2 ∧ v.k ≠ 0)) hall hone), rfl⟩
         first | omega | (simp only []; omega)
       ·have hc10' := hc10
        (try simp only [V.cnd, ne_eq] at hc10')
        have hAB := sel_all (p := fun v => ¬ (v.k ≠ 2 ∧ v.k ≠ 0)) hall (by omega)
        have har := two_arith hb0 hk8 (fun h => h.elim hAB.1 hAB.2)
        refine CD.exit ?_
        refine CD.seq ?_
        refine CD.seq ?_
        refine CD.region ?_
        refine OD.still (wants_plain rfl) rfl (still_r1 (mk := Op.load 33) rfl ot (by first | exact ld_blks (k := 2) (ds := [_, _, _]) rfl rfl Tryd.isAgg33 Tryd.sizeOf33 rfl rfl | exact ld_is (ds := [_, _, _]) Tryd.isAgg33 Tryd.sizeOf33 rfl rfl)) ?_
        refine OD.still (wants_plain rfl) rfl (still_r1 (mk := Op.load 33) rfl ot (by first | exact ld_blks (k := 1) (ds := [_, _, _]) rfl rfl Tryd.isAgg33 Tryd.sizeOf33 rfl rfl | exact ld_is (ds := [_, _, _]) Tryd.isAgg33 Tryd.sizeOf33 rfl rfl)) ?_
        refine OD.callP (wants_plain rfl) rfl rfl rfl Tryd.call30 (hnv) ⟨ot, ot, trivial⟩ ?_
        refine OD.wk (Wk.as_ (n := 106) (l' := [(0, _), (4, _), (5, _), (6, _), (89, _)]) (S' := [⟨b6, 33, 3, [_, _, _]⟩, ⟨b5, 33, 3, [_, _, _]⟩, ⟨b4, 33, 3, [_, _, _]⟩]) rfl rfl ⟨lk, lk, lk, lk, lk, trivial⟩) ?_
        refine OD.nil ?_
        refine CD.cond ot (fun hc12 => ?_) (fun hc12 => ?_)
        ·have hc12' := hc12
         (try simp only [V.cnd, ne_eq] at hc12')
         have hres : twoF k a b = (noVl, 0) := by rw [har, if_pos hc12]
         refine CD.seq ?_
         refine CD.region ?_
         refine OD.still (wants_plain rfl) rfl (still_bld (pl := []) (ds := [_, _, _]) rfl Tryd.zeroValue33 Tryd.runUnderlying33 places33_Ex2 trivial rfl rfl) ?_
         refine OD.store (k := 0) (cs' := [_, _, _]) (wants_plain rfl) rfl rfl ot rfl rfl ot rfl rfl Tryd.sizeOf33 rfl rfl rfl ?_
         refine OD.still (wants_plain rfl) rfl (still_as rfl opd_const) ?_
         refine OD.wk (Wk.as_ (n := 106) (l' := [(6, _), (7, _)]) (S' := [⟨b6, 33, 3, [_, _, _]⟩, ⟨b5, 33, 3, [_, _, _]⟩, ⟨b4, 33, 3, [_, _, _]⟩]) rfl rfl ⟨lk, lk, trivial⟩) ?_
         refine OD.nil ?_
         refine CD.ret ?_
         refine ⟨.inr rfl, _, [], List.nil_sublist _, ret_two Tryd.results13 (res_cells (k := 0) (ds := [_, _, _]) (Nat.le_of_ble_eq_true rfl) lk rfl rfl Tryd.isAgg33 Tryd.sizeOf33 rfl rfl) (res_tmp (Nat.le_of_ble_eq_true rfl) lk), ?_⟩
         rw [hres]
         first | exact ⟨rfl, rfl⟩ | (refine ⟨?_, rfl⟩; clear hres hcv hav hl0 hl1 hbv hnv; generalize (cmpV a b == 0) = z1 at *; generalize (decide (cmpV a b < 0)) = z2 at *; subst_vars; simp_all; done)
        ·have hc12' := hc12
         (try simp only [V.cnd, ne_eq] at hc12')
         refine CD.skip ?_
         refine CD.seq ?_
         refine CD.region ?_
         refine OD.still (wants_plain rfl) rfl (still_mv rfl ot) ?_
         refine OD.still (wants_plain rfl) rfl (still_r1 (mk := fun y => Op.fieldAddr 33 y 1) rfl ot (by first | exact fa_ptr (off := 1) Tryd.runUnderlying33 rfl Tryd.sizeOf3 rfl | exact fa_iptr (off := 1) Tryd.runUnderlying33 rfl Tryd.sizeOf3 rfl)) ?_
         refine OD.still (wants_plain rfl) rfl (still_r1 (mk := Op.load 3) rfl ot (by first | exact ld_blk (k := 2) rfl rfl Tryd.isAgg3 rfl | exact ld_i Tryd.isAgg3 rfl)) ?_
         refine OD.still (wants_plain rfl) rfl (still_r1 (mk := fun y => Op.fieldAddr 33 y 1) rfl ot (by first | exact fa_ptr (off := 1) Tryd.runUnderlying33 rfl Tryd.sizeOf3 rfl | exact fa_iptr (off := 1) Tryd.runUnderlying33 rfl Tryd.sizeOf3 rfl)) ?_
         refine OD.still (wants_plain rfl) rfl (still_r1 (mk := Op.load 3) rfl ot (by first | exact ld_blk (k := 1) rfl rfl Tryd.isAgg3 rfl | exact ld_i Tryd.isAgg3 rfl)) ?_
         refine OD.callP (wants_plain rfl) rfl rfl rfl Tryd.call33 (hav) ⟨ot, ot, ot, trivial⟩ ?_
         refine OD.still (wants_plain rfl) rfl (still_mv rfl ot) ?_
         refine OD.still (wants_plain rfl) rfl (still_extract rfl ot rfl) ?_
         refine OD.still (wants_plain rfl) rfl (still_extract rfl ot rfl) ?_
         refine OD.still (wants_plain rfl) rfl (still_as rfl ot) ?_
         refine OD.still (wants_plain rfl) rfl (still_as rfl ot) ?_
         refine OD.wk (Wk.as_ (n := 106) (l' := [(6, _), (12, _), (13, _)]) (S' := [⟨b6, 33, 3, [_, _, _]⟩, ⟨b5, 33, 3, [_, _, _]⟩, ⟨b4, 33, 3, [_, _, _]⟩]) rfl rfl ⟨lk, lk, lk, trivial⟩) ?_
         refine OD.nil ?_
         refine CD.seq ?_
         refine CD.seq ?_
         refine CD.region ?_
         refine OD.still (wants_plain rfl) rfl (still_mv rfl ot) ?_
         refine OD.still (wants_plain rfl) rfl (still_un rfl ot un_not) ?_
         refine OD.wk (Wk.as_ (n := 106) (l' := [(6, _), (12, _), (101, _)]) (S' := [⟨b6, 33, 3, [_, _, _]⟩, ⟨b5, 33, 3, [_, _, _]⟩, ⟨b4, 33, 3, [_, _, _]⟩]) rfl rfl ⟨lk, lk, lk, trivial⟩) ?_
         refine OD.nil ?_
         refine CD.cond ot (fun hc13 => ?_) (fun hc13 => ?_)
         ·have hc13' := hc13
          (try simp only [V.cnd, ne_eq] at hc13')
          have hres : twoF k a b = (noVl, 5) := by rw [har, if_neg (by rw [hc12]; simp), if_neg (by simpa using hc13)]
          refine CD.seq ?_
          refine CD.region ?_
          refine OD.still (wants_plain rfl) rfl (still_bld (pl := []) (ds := [_, _, _]) rfl Tryd.zeroValue33 Tryd.runUnderlying33 places33_Ex2 trivial rfl rfl) ?_
          refine OD.store (k := 0) (cs' := [_, _, _]) (wants_plain rfl) rfl rfl ot rfl rfl ot rfl rfl Tryd.sizeOf33 rfl rfl rfl ?_
          refine OD.still (wants_plain rfl) rfl (still_as rfl opd_const) ?_
          refine OD.wk (Wk.as_ (n := 106) (l' := [(6, _), (7, _)]) (S' := [⟨b6, 33, 3, [_, _, _]⟩, ⟨b5, 33, 3, [_, _, _]⟩, ⟨b4, 33, 3, [_, _, _]⟩]) rfl rfl ⟨lk, lk, trivial⟩) ?_
          refine OD.nil ?_
          refine CD.ret ?_
          refine ⟨.inr rfl, _, [], List.nil_sublist _, ret_two Tryd.results13 (res_cells (k := 0) (ds := [_, _, _]) (Nat.le_of_ble_eq_true rfl) lk rfl rfl Tryd.isAgg33 Tryd.sizeOf33 rfl rfl) (res_tmp (Nat.le_of_ble_eq_true rfl) lk), ?_⟩
          rw [hres]
          first | exact ⟨rfl, rfl⟩ | (refine ⟨?_, rfl⟩; clear hres hcv hav hl0 hl1 hbv hnv; generalize (cmpV a b == 0) = z1 at *; generalize (decide (cmpV a b < 0)) = z2 at *; subst_vars; simp_all; done)
         ·have hc13' := hc13
          (try simp only [V.cnd, ne_eq] at hc13')
          have hres : twoF k a b = (⟨2, (arithF k a.n b.n).1, ⟨#[]⟩⟩, 0) := by rw [har, if_neg (by rw [hc12]; simp), if_pos (by simpa using hc13)]
          refine CD.skip ?_
          refine CD.seq ?_
          refine CD.region ?_
          refine OD.still (wants_plain rfl) rfl (still_mv rfl ot) ?_
          refine OD.still (wants_plain rfl) rfl (still_bld (pl := [(0, _), (1, _)]) (ds := [_, _, _]) rfl Tryd.zeroValue33 Tryd.runUnderlying33 places33_Ex2 ⟨rfl, opd_const, rfl, ot, trivial⟩ rfl rfl) ?_
          refine OD.store (k := 0) (cs' := [_, _, _]) (wants_plain rfl) rfl rfl ot rfl rfl ot rfl rfl Tryd.sizeOf33 rfl rfl rfl ?_
          refine OD.still (wants_plain rfl) rfl (still_as rfl opd_const) ?_
          refine OD.wk (Wk.as_ (n := 106) (l' := [(6, _), (7, _)]) (S' := [⟨b6, 33, 3, [_, _, _]⟩, ⟨b5, 33, 3, [_, _, _]⟩, ⟨b4, 33, 3, [_, _, _]⟩]) rfl rfl ⟨lk, lk, trivial⟩) ?_
          refine OD.nil ?_
          refine CD.ret ?_
          refine ⟨.inr rfl, _, [], List.nil_sublist _, ret_two Tryd.results13 (res_cells (k := 0) (ds := [_, _, _]) (Nat.le_of_ble_eq_true rfl) lk rfl rfl Tryd.isAgg33 Tryd.sizeOf33 rfl rfl) (res_tmp (Nat.le_of_ble_eq_true rfl) lk), ?_⟩
          rw [hres]
          first | exact ⟨rfl, rfl⟩ | (refine ⟨?_, rfl⟩; clear hres hcv hav hl0 hl1 hbv hnv; generalize (cmpV a b == 0) = z1 at *; generalize (decide (cmpV a b < 0)) = z2 at *; subst_vars; simp_all; done)
      ·have hc7' := hc7
       (try simp only [V.cnd, ne_eq] at hc7')
       refine CD.seq ?_
       refine CD.region ?_
       refine OD.still (wants_plain rfl) rfl (still_bin rfl ot opd_const bin_eql) ?_
       refine OD.still (wants_plain rfl) rfl (still_as rfl ot) ?_
       refine OD.wk (Wk.as_ (n := 106) (l' := [(0, _), (4, _), (5, _), (6, _), (21, _), (67, _)]) (S' := [⟨b6, 33, 3, [_, _, _]⟩, ⟨b5, 33, 3, [_, _, _]⟩, ⟨b4, 33, 3, [_, _, _]⟩]) rfl rfl ⟨lk, lk, lk, lk, lk, lk, trivial⟩) ?_
       refine OD.nil ?_
       refine CD.cond ot (fun hc8 => ?_) (fun hc8 => ?_)
       ·have hc8' := hc8
        (try simp only [V.cnd, ne_eq] at hc8')
        refine CD.skip ?_
        refine CD.condT ot (by first | rfl | assumption) ?_
        refine CD.seq ?_
        refine CD.seq ?_
        refine CD.region ?_
        refine OD.still (wants_plain rfl) rfl (still_r1 (mk := Op.load 33) rfl ot (by first | exact ld_blks (k := 2) (ds := [_, _, _]) rfl rfl Tryd.isAgg33 Tryd.sizeOf33 rfl rfl | exact ld_is (ds := [_, _, _]) Tryd.isAgg33 Tryd.sizeOf33 rfl rfl)) ?_
        refine OD.still (wants_plain rfl) rfl (still_r1 (mk := Op.load 33) rfl ot (by first | exact ld_blks (k := 1) (ds := [_, _, _]) rfl rfl Tryd.isAgg33 Tryd.sizeOf33 rfl rfl | exact ld_is (ds := [_, _, _]) Tryd.isAgg33 Tryd.sizeOf33 rfl rfl)) ?_
        refine OD.still (wants_plain rfl) rfl (still_bldA (pl := [(0, _), (1, _)]) (ds := [_, _, _, _, _, _]) rfl Tryd.zeroValue67 Tryd.runUnderlying67 Tryd.sizeOf33 ⟨rfl, ot, rfl, ot, trivial⟩ rfl rfl) ?_
        refine OD.still (wants_plain rfl) rfl (still_mv rfl opd_const) ?_
        refine OD.wk (Wk.as_ (n := 106) (l' := [(0, _), (4, _), (5, _), (6, _), (73, _), (74, _)]) (S' := [⟨b6, 33, 3, [_, _, _]⟩, ⟨b5, 33, 3, [_, _, _]⟩, ⟨b4, 33, 3, [_, _, _]⟩]) rfl rfl ⟨lk, lk, lk, lk, lk, lk, trivial⟩) ?_
        refine OD.nil ?_
        refine CD.block ?_
        refine CD.wk (Wk.asS (n := 106) (l' := [(0, .v (.int .i64 k)), (4, .v (.pointer (some ⟨b4, 0, none⟩))), (5, .v (.pointer (some ⟨b5, 0, none⟩))), (6, .v (.pointer (some ⟨b6, 0, none⟩))), (73, .agg [.v (.int .i64 a.k), .v (.int .i64 a.n), .v (.string a.s), .v (.int .i64 b.k), .v (.int .i64 b.n), .v (.string b.s)]), (74, .v (.int .i64 ((0) : Nat)))]) (S' := [⟨b6, 33, 3, [.v (.int .i64 0), .v (.int .i64 0), .v (.string ⟨#[]⟩)]⟩, ⟨b5, 33, 3, [.v (.int .i64 b.k), .v (.int .i64 b.n), .v (.string b.s)]⟩, ⟨b4, 33, 3, [.v (.int .i64 a.k), .v (.int .i64 a.n), .v (.string a.s)]⟩]) rfl (by repeat (first | exact List.Sublist.refl _ | apply List.Sublist.cons)) ⟨(by (repeat (first | exact look_hit | (apply look_at; focus (first | rfl | (simp; done) | (congr 2; omega))) | (apply look_miss; focus rfl))); done), (by (repeat (first | exact look_hit | (apply look_at; focus (first | rfl | (simp; done) | (congr 2; omega))) | (apply look_miss; focus rfl))); done), (by (repeat (first | exact look_hit | (apply look_at; focus (first | rfl | (simp; done) | (congr 2; omega))) | (apply look_miss; focus rfl))); done), (by (repeat (first | exact look_hit | (apply look_at; focus (first | rfl | (simp; done) | (congr 2; omega))) | (apply look_miss; focus rfl))); done), (by (repeat (first | exact look_hit | (apply look_at; focus (first | rfl | (simp; done) | (congr 2; omega))) | (apply look_miss; focus rfl))); done), (by (repeat (first | exact look_hit | (apply look_at; focus (first | rfl | (simp; done) | (congr 2; omega))) | (apply look_miss; focus rfl))); done), trivial⟩) (CD.loop (fun (i : Nat) y__ => (i ≤ 2) ∧ (∀ j, j < i → ¬ ((selV a b j).k ≠ 2 ∧ (selV a b j).k ≠ 0)) ∧ y__ = (⟨106, [(0, .v (.int .i64 k)), (4, .v (.pointer (some ⟨b4, 0, none⟩))), (5, .v (.pointer (some ⟨b5, 0, none⟩))), (6, .v (.pointer (some ⟨b6, 0, none⟩))), (73, .agg [.v (.int .i64 a.k), .v (.int .i64 a.n), .v (.string a.s), .v (.int .i64 b.k), .v (.int .i64 b.n), .v (.string b.s)]), (74, .v (.int .i64 (i : Nat)))], [⟨b6, 33, 3, [.v (.int .i64 0), .v (.int .i64 0), .v (.string ⟨#[]⟩)]⟩, ⟨b5, 33, 3, [.v (.int .i64 b.k), .v (.int .i64 b.n), .v (.string b.s)]⟩, ⟨b4, 33, 3, [.v (.int .i64 a.k), .v (.int .i64 a.n), .v (.string a.s)]⟩]⟩ : St)) (fun (i : Nat) => 2 - i) 0 ⟨(Nat.zero_le _), (fun j hj => absurd hj (Nat.not_lt_zero _)), rfl⟩ ?_)
        rintro i _ ⟨hi, hall, rfl⟩
        have hk8 : k = 8 ∨ k = 9 ∨ k = 10 := by omega
        refine CD.seq ?_
        refine CD.region ?_
        refine OD.still (wants_plain rfl) rfl (still_bin rfl ot opd_const bin_lss) ?_
        refine OD.wk (Wk.as_ (n := 106) (l' := [(0, _), (4, _), (5, _), (6, _), (73, _), (74, _), (75, _)]) (S' := [⟨b6, 33, 3, [_, _, _]⟩, ⟨b5, 33, 3, [_, _, _]⟩, ⟨b4, 33, 3, [_, _, _]⟩]) rfl rfl ⟨lk, lk, lk, lk, lk, lk, lk, trivial⟩) ?_
        refine OD.nil ?_
        refine CD.seq ?_
        refine CD.cond ot (fun hc10 => ?_) (fun hc10 => ?_)
        ·have hc10' := hc10
         (try simp only [V.cnd, ne_eq] at hc10')
         have hlt : i < 2 := by omega
         refine CD.skip ?_
         refine CD.seq ?_
         refine CD.block ?_
         refine CD.seq ?_
         refine CD.region ?_
         refine OD.still (wants_plain rfl) rfl (still_vidxs (j := i) rfl ot ot Tryd.runUnderlying67 Tryd.sizeOf33 Tryd.isAgg33 rfl hlt (sel_cells a b hlt)) ?_
         refine OD.alloc (ds := [_, _, _]) (wants_plain rfl) rfl rfl Tryd.zeroValue33 rfl (fun b11 => ?_)
         refine OD.store (k := 0) (cs' := [_, _, _]) (wants_plain rfl) rfl rfl ot rfl rfl ot rfl rfl Tryd.sizeOf33 rfl rfl rfl ?_
         refine OD.wk (Wk.as_ (n := 106) (l' := [(0, _), (4, _), (5, _), (6, _), (11, _), (73, _), (74, _)]) (S' := [⟨b11, 33, 3, [_, _, _]⟩, ⟨b6, 33, 3, [_, _, _]⟩, ⟨b5, 33, 3, [_, _, _]⟩, ⟨b4, 33, 3, [_, _, _]⟩]) rfl rfl ⟨lk, lk, lk, lk, lk, lk, lk, trivial⟩) ?_
         refine OD.nil ?_
         refine CD.seq ?_
         refine CD.region ?_
         refine OD.still (wants_plain rfl) rfl (still_r1 (mk := fun y => Op.fieldAddr 33 y 0) rfl ot (by first | exact fa_ptr (off := 0) Tryd.runUnderlying33 rfl Tryd.sizeOf3 rfl | exact fa_iptr (off := 0) Tryd.runUnderlying33 rfl Tryd.sizeOf3 rfl)) ?_
         refine OD.still (wants_plain rfl) rfl (still_r1 (mk := Op.load 3) rfl ot (by first | exact ld_blk (k := 0) rfl rfl Tryd.isAgg3 rfl | exact ld_i Tryd.isAgg3 rfl)) ?_
         refine OD.still (wants_plain rfl) rfl (still_bin rfl ot opd_const bin_neq) ?_
         refine OD.still (wants_plain rfl) rfl (still_mv rfl ot) ?_
         refine OD.split (t := 80) lk (fun hg80 => ?_) (fun hg80 => ?_)
         ·have hg80' := hg80; (try simp only [V.cnd, ne_eq] at hg80')
          refine OD.still (wants_T rfl rfl rfl lk (by first | rfl | assumption)) rfl (still_r1 (mk := fun y => Op.fieldAddr 33 y 0) rfl ot (by first | exact fa_ptr (off := 0) Tryd.runUnderlying33 rfl Tryd.sizeOf3 rfl | exact fa_iptr (off := 0) Tryd.runUnderlying33 rfl Tryd.sizeOf3 rfl)) ?_
          refine OD.still (wants_T rfl rfl rfl lk (by first | rfl | assumption)) rfl (still_r1 (mk := Op.load 3) rfl ot (by first | exact ld_blk (k := 0) rfl rfl Tryd.isAgg3 rfl | exact ld_i Tryd.isAgg3 rfl)) ?_
          refine OD.still (wants_T rfl rfl rfl lk (by first | rfl | assumption)) rfl (still_bin rfl ot opd_const bin_neq) ?_
          refine OD.still (wants_plain rfl) rfl (still_pickT rfl ot (by first | rfl | assumption) ot) ?_
          refine OD.wk (Wk.as_ (n := 106) (l' := [(0, _), (4, _), (5, _), (6, _), (73, _), (74, _), (84, _)]) (S' := [⟨b11, 33, 3, [_, _, _]⟩, ⟨b6, 33, 3, [_, _, _]⟩, ⟨b5, 33, 3, [_, _, _]⟩, ⟨b4, 33, 3, [_, _, _]⟩]) rfl rfl ⟨lk, lk, lk, lk, lk, lk, lk, trivial⟩) ?_
          refine OD.nil ?_
          refine CD.cond ot (fun hc11 => ?_) (fun hc11 => ?_)
          ·have hc11' := hc11
           (try simp only [V.cnd, ne_eq] at hc11')
           have hres : twoF k a b = (noVl, 4) := two_bad hb0 hk8 hlt (by simp_all) (by simp_all)
           refine CD.seq ?_
           refine CD.region ?_
           refine OD.still (wants_plain rfl) rfl (still_bld (pl := []) (ds := [_, _, _]) rfl Tryd.zeroValue33 Tryd.runUnderlying33 places33_Ex2 trivial rfl rfl) ?_
           refine OD.store (k := 1) (cs' := [_, _, _]) (wants_plain rfl) rfl rfl ot rfl rfl ot rfl rfl Tryd.sizeOf33 rfl rfl rfl ?_
           refine OD.still (wants_plain rfl) rfl (still_as rfl opd_const) ?_
           refine OD.wk (Wk.as_ (n := 106) (l' := [(6, _), (7, _)]) (S' := [⟨b11, 33, 3, [_, _, _]⟩, ⟨b6, 33, 3, [_, _, _]⟩, ⟨b5, 33, 3, [_, _, _]⟩, ⟨b4, 33, 3, [_, _, _]⟩]) rfl rfl ⟨lk, lk, trivial⟩) ?_
           refine OD.nil ?_
           refine CD.ret ?_
           refine ⟨.inr rfl, _, [], List.nil_sublist _, ret_two Tryd.results13 (res_cells (k := 1) (ds := [_, _, _]) (Nat.le_of_ble_eq_true rfl) lk rfl rfl Tryd.isAgg33 Tryd.sizeOf33 rfl rfl) (res_tmp (Nat.le_of_ble_eq_true rfl) lk), ?_⟩
           rw [hres]
           first | exact ⟨rfl, rfl⟩ | (refine ⟨?_, rfl⟩; clear hres hcv hav hl0 hl1 hbv hnv; generalize (cmpV a b == 0) = z1 at *; generalize (decide (cmpV a b < 0)) = z2 at *; subst_vars; simp_all; done)
          ·have hc11' := hc11
           (try simp only [V.cnd, ne_eq] at hc11')
           have hone : ¬ ((selV a b i).k ≠ 2 ∧ (selV a b i).k ≠ 0) := by simp_all
           refine CD.skip ?_
           refine CD.region ?_
           refine OD.still (wants_plain rfl) rfl (still_bin rfl ot opd_const (bin_add (wrap_i64 (by omega) (by omega)))) ?_
           refine OD.still (wants_plain rfl) rfl (still_mv rfl ot) ?_
           refine OD.wk (Wk.as_ (n := 106) (l' := [(0, _), (4, _), (5, _), (6, _), (73, _), (74, _)]) (S' := [⟨b11, 33, 3, [_, _, _]⟩, ⟨b6, 33, 3, [_, _, _]⟩, ⟨b5, 33, 3, [_, _, _]⟩, ⟨b4, 33, 3, [_, _, _]⟩]) rfl rfl ⟨lk, lk, lk, lk, lk, lk, trivial⟩) ?_
           refine OD.nil ?_
           refine ⟨(i + 1), ⟨106, [(0, .v (.int .i64 k)), (4, .v (.pointer (some ⟨b4, 0, none⟩))), (5, .v (.pointer (some ⟨b5, 0, none⟩))), (6, .v (.pointer (some ⟨b6, 0, none⟩))), (73, .agg [.v (.int .i64 a.k), .v (.int .i64 a.n), .v (.string a.s), .v (.int .i64 b.k), .v (.int .i64 b.n), .v (.string b.s)]), (74, .v (.int .i64 (((i + 1)) : Nat)))], [⟨b6, 33, 3, [.v (.int .i64 0), .v (.int .i64 0), .v (.string ⟨#[]⟩)]⟩, ⟨b5, 33, 3, [.v (.int .i64 b.k), .v (.int .i64 b.n), .v (.string b.s)]⟩, ⟨b4, 33, 3, [.v (.int .i64 a.k), .v (.int .i64 a.n), .v (.string a.s)]⟩]⟩, ?_, Wk.asS (n := 106) rfl (by repeat (first | exact List.Sublist.refl _ | apply List.Sublist.cons)) ⟨(by (repeat (first | exact look_hit | (apply look_at; focus (first | rfl | (simp; done) | (congr 2; omega))) | (apply look_miss; focus rfl))); done), (by (repeat (first | exact look_hit | (apply look_at; focus (first | rfl | (simp; done) | (congr 2; omega))) | (apply look_miss; focus rfl))); done), (by (repeat (first | exact look_hit | (apply look_at; focus (first | rfl | (simp; done) | (congr 2; omega))) | (apply look_miss; focus rfl))); done), (by (repeat (first | exact look_hit | (apply look_at; focus (first | rfl | (simp; done) | (congr 2; omega))) | (apply look_miss; focus rfl))); done), (by (repeat (first | exact look_hit | (apply look_at; focus (first | rfl | (simp; done) | (congr 2; omega))) | (apply look_miss; focus rfl))); done), (by (repeat (first | exact look_hit | (apply look_at; focus (first | rfl | (simp; done) | (congr 2; omega))) | (apply look_miss; focus rfl))); done), trivial⟩, (by omega), (sel_more (p := fun v => ¬ (v.k ≠ 2 ∧ v.k ≠ 0)) hall hone), rfl⟩
           first | omega | (simp only []; omega)
         ·have hg80' := hg80; (try simp only [V.cnd, ne_eq] at hg80')
          refine OD.skip (wants_F rfl rfl rfl lk (by first | rfl | assumption)) rfl ?_
          refine OD.skip (wants_F rfl rfl rfl lk (by first | rfl | assumption)) rfl ?_
          refine OD.skip (wants_F rfl rfl rfl lk (by first | rfl | assumption)) rfl ?_
          refine OD.still (wants_plain rfl) rfl (still_pickF rfl ot (by first | rfl | assumption) opd_const) ?_
          refine OD.wk (Wk.as_ (n := 106) (l' := [(0, _), (4, _), (5, _), (6, _), (73, _), (74, _), (84, _)]) (S' := [⟨b11, 33, 3, [_, _, _]⟩, ⟨b6, 33, 3, [_, _, _]⟩, ⟨b5, 33, 3, [_, _, _]⟩, ⟨b4, 33, 3, [_, _, _]⟩]) rfl rfl ⟨lk, lk, lk, lk, lk, lk, lk, trivial⟩) ?_
          refine OD.nil ?_
          refine CD.condF ot (by first | rfl | assumption) ?_
          have hone : ¬ ((selV a b i).k ≠ 2 ∧ (selV a b i).k ≠ 0) := by simp_all
          refine CD.skip ?_
          refine CD.region ?_
          refine OD.still (wants_plain rfl) rfl (still_bin rfl ot opd_const (bin_add (wrap_i64 (by omega) (by omega)))) ?_
          refine OD.still (wants_plain rfl) rfl (still_mv rfl ot) ?_
          refine OD.wk (Wk.as_ (n := 106) (l' := [(0, _), (4, _), (5, _), (6, _), (73, _), (74, _)]) (S' := [⟨b11, 33, 3, [_, _, _]⟩, ⟨b6, 33, 3, [_, _, _]⟩, ⟨b5, 33, 3, [_, _, _]⟩, ⟨b4, 33, 3, [_, _, _]⟩]) rfl rfl ⟨lk, lk, lk, lk, lk, lk, trivial⟩) ?_
          refine OD.nil ?_
          refine ⟨(i + 1), ⟨106, [(0, .v (.int .i64 k)), (4, .v (.pointer (some ⟨b4, 0, none⟩))), (5, .v (.pointer (some ⟨b5, 0, none⟩))), (6, .v (.pointer (some ⟨b6, 0, none⟩))), (73, .agg [.v (.int .i64 a.k), .v (.int .i64 a.n), .v (.string a.s), .v (.int .i64 b.k), .v (.int .i64 b.n), .v (.string b.s)]), (74, .v (.int .i64 (((i + 1)) : Nat)))], [⟨b6, 33, 3, [.v (.int .i64 0), .v (.int .i64 0), .v (.string ⟨#[]⟩)]⟩, ⟨b5, 33, 3, [.v (.int .i64 b.k), .v (.int .i64 b.n), .v (.string b.s)]⟩, ⟨b4, 33, 3, [.v (.int .i64 a.k), .v (.int .i64 a.n), .v (.string a.s)]⟩]⟩, ?_, Wk.asS (n := 106) rfl (by repeat (first | exact List.Sublist.refl _ | apply List.Sublist.cons)) ⟨(by (repeat (first | exact look_hit | (apply look_at; focus (first | rfl | (simp; done) | (congr 2; omega))) | (apply look_miss; focus rfl))); done), (by (repeat (first | exact look_hit | (apply look_at; focus (first | rfl | (simp; done) | (congr 2; omega))) | (apply look_miss; focus rfl))); done), (by (repeat (first | exact look_hit | (apply look_at; focus (first | rfl | (simp; done) | (congr 2; omega))) | (apply look_miss; focus rfl))); done), (by (repeat (first | exact look_hit | (apply look_at; focus (first | rfl | (simp; done) | (congr 2; omega))) | (apply look_miss; focus rfl))); done), (by (repeat (first | exact look_hit | (apply look_at; focus (first | rfl | (simp; done) | (congr 2; omega))) | (apply look_miss; focus rfl))); done), (by (repeat (first | exact look_hit | (apply look_at; focus (first | rfl | (simp; done) | (congr 2; omega))) | (apply look_miss; focus rfl))); done), trivial⟩, (by omega), (sel_more (p := fun v => ¬ (v.k ≠ 2 ∧ v.k ≠ 0)) hall hone), rfl⟩
          first | omega | (simp only []; omega)
        ·have hc10' := hc10
         (try simp only [V.cnd, ne_eq] at hc10')
         have hAB := sel_all (p := fun v => ¬ (v.k ≠ 2 ∧ v.k ≠ 0)) hall (by omega)
         have har := two_arith hb0 hk8 (fun h => h.elim hAB.1 hAB.2)
         refine CD.exit ?_
         refine CD.seq ?_
         refine CD.seq ?_
         refine CD.region ?_
         refine OD.still (wants_plain rfl) rfl (still_r1 (mk := Op.load 33) rfl ot (by first | exact ld_blks (k := 2) (ds := [_, _, _]) rfl rfl Tryd.isAgg33 Tryd.sizeOf33 rfl rfl | exact ld_is (ds := [_, _, _]) Tryd.isAgg33 Tryd.sizeOf33 rfl rfl)) ?_
         refine OD.still (wants_plain rfl) rfl (still_r1 (mk := Op.load 33) rfl ot (by first | exact ld_blks (k := 1) (ds := [_, _, _]) rfl rfl Tryd.isAgg33 Tryd.sizeOf33 rfl rfl | exact ld_is (ds := [_, _, _]) Tryd.isAgg33 Tryd.sizeOf33 rfl rfl)) ?_
         refine OD.callP (wants_plain rfl) rfl rfl rfl Tryd.call30 (hnv) ⟨ot, ot, trivial⟩ ?_
         refine OD.wk (Wk.as_ (n := 106) (l' := [(0, _), (4, _), (5, _), (6, _), (89, _)]) (S' := [⟨b6, 33, 3, [_, _, _]⟩, ⟨b5, 33, 3, [_, _, _]⟩, ⟨b4, 33, 3, [_, _, _]⟩]) rfl rfl ⟨lk, lk, lk, lk, lk, trivial⟩) ?_
         refine OD.nil ?_
         refine CD.cond ot (fun hc12 => ?_) (fun hc12 => ?_)
         ·have hc12' := hc12
          (try simp only [V.cnd, ne_eq] at hc12')
          have hres : twoF k a b = (noVl, 0) := by rw [har, if_pos hc12]
          refine CD.seq ?_
          refine CD.region ?_
          refine OD.still (wants_plain rfl) rfl (still_bld (pl := []) (ds := [_, _, _]) rfl Tryd.zeroValue33 Tryd.runUnderlying33 places33_Ex2 trivial rfl rfl) ?_
          refine OD.store (k := 0) (cs' := [_, _, _]) (wants_plain rfl) rfl rfl ot rfl rfl ot rfl rfl Tryd.sizeOf33 rfl rfl rfl ?_
          refine OD.still (wants_plain rfl) rfl (still_as rfl opd_const) ?_
          refine OD.wk (Wk.as_ (n := 106) (l' := [(6, _), (7, _)]) (S' := [⟨b6, 33, 3, [_, _, _]⟩, ⟨b5, 33, 3, [_, _, _]⟩, ⟨b4, 33, 3, [_, _, _]⟩]) rfl rfl ⟨lk, lk, trivial⟩) ?_
          refine OD.nil ?_
          refine CD.ret ?_
          refine ⟨.inr rfl, _, [], List.nil_sublist _, ret_two Tryd.results13 (res_cells (k := 0) (ds := [_, _, _]) (Nat.le_of_ble_eq_true rfl) lk rfl rfl Tryd.isAgg33 Tryd.sizeOf33 rfl rfl) (res_tmp (Nat.le_of_ble_eq_true rfl) lk), ?_⟩
          rw [hres]
          first | exact ⟨rfl, rfl⟩ | (refine ⟨?_, rfl⟩; clear hres hcv hav hl0 hl1 hbv hnv; generalize (cmpV a b == 0) = z1 at *; generalize (decide (cmpV a b < 0)) = z2 at *; subst_vars; simp_all; done)
         ·have hc12' := hc12
          (try simp only [V.cnd, ne_eq] at hc12')
          refine CD.skip ?_
          refine CD.seq ?_
          refine CD.region ?_
          refine OD.still (wants_plain rfl) rfl (still_mv rfl ot) ?_
          refine OD.still (wants_plain rfl) rfl (still_r1 (mk := fun y => Op.fieldAddr 33 y 1) rfl ot (by first | exact fa_ptr (off := 1) Tryd.runUnderlying33 rfl Tryd.sizeOf3 rfl | exact fa_iptr (off := 1) Tryd.runUnderlying33 rfl Tryd.sizeOf3 rfl)) ?_
          refine OD.still (wants_plain rfl) rfl (still_r1 (mk := Op.load 3) rfl ot (by first | exact ld_blk (k := 2) rfl rfl Tryd.isAgg3 rfl | exact ld_i Tryd.isAgg3 rfl)) ?_
          refine OD.still (wants_plain rfl) rfl (still_r1 (mk := fun y => Op.fieldAddr 33 y 1) rfl ot (by first | exact fa_ptr (off := 1) Tryd.runUnderlying33 rfl Tryd.sizeOf3 rfl | exact fa_iptr (off := 1) Tryd.runUnderlying33 rfl Tryd.sizeOf3 rfl)) ?_
          refine OD.still (wants_plain rfl) rfl (still_r1 (mk := Op.load 3) rfl ot (by first | exact ld_blk (k := 1) rfl rfl Tryd.isAgg3 rfl | exact ld_i Tryd.isAgg3 rfl)) ?_
          refine OD.callP (wants_plain rfl) rfl rfl rfl Tryd.call33 (hav) ⟨ot, ot, ot, trivial⟩ ?_
          refine OD.still (wants_plain rfl) rfl (still_mv rfl ot) ?_
          refine OD.still (wants_plain rfl) rfl (still_extract rfl ot rfl) ?_
          refine OD.still (wants_plain rfl) rfl (still_extract rfl ot rfl) ?_
          refine OD.still (wants_plain rfl) rfl (still_as rfl ot) ?_
          refine OD.still (wants_plain rfl) rfl (still_as rfl ot) ?_
          refine OD.wk (Wk.as_ (n := 106) (l' := [(6, _), (12, _), (13, _)]) (S' := [⟨b6, 33, 3, [_, _, _]⟩, ⟨b5, 33, 3, [_, _, _]⟩, ⟨b4, 33, 3, [_, _, _]⟩]) rfl rfl ⟨lk, lk, lk, trivial⟩) ?_
          refine OD.nil ?_
          refine CD.seq ?_
          refine CD.seq ?_
          refine CD.region ?_
          refine OD.still (wants_plain rfl) rfl (still_mv rfl ot) ?_
          refine OD.still (wants_plain rfl) rfl (still_un rfl ot un_not) ?_
          refine OD.wk (Wk.as_ (n := 106) (l' := [(6, _), (12, _), (101, _)]) (S' := [⟨b6, 33, 3, [_, _, _]⟩, ⟨b5, 33, 3, [_, _, _]⟩, ⟨b4, 33, 3, [_, _, _]⟩]) rfl rfl ⟨lk, lk, lk, trivial⟩) ?_
          refine OD.nil ?_
          refine CD.cond ot (fun hc13 => ?_) (fun hc13 => ?_)
          ·have hc13' := hc13
           (try simp only [V.cnd, ne_eq] at hc13')
           have hres : twoF k a b = (noVl, 5) := by rw [har, if_neg (by rw [hc12]; simp), if_neg (by simpa using hc13)]
           refine CD.seq ?_
           refine CD.region ?_
           refine OD.still (wants_plain rfl) rfl (still_bld (pl := []) (ds := [_, _, _]) rfl Tryd.zeroValue33 Tryd.runUnderlying33 places33_Ex2 trivial rfl rfl) ?_
           refine OD.store (k := 0) (cs' := [_, _, _]) (wants_plain rfl) rfl rfl ot rfl rfl ot rfl rfl Tryd.sizeOf33 rfl rfl rfl ?_
           refine OD.still (wants_plain rfl) rfl (still_as rfl opd_const) ?_
           refine OD.wk (Wk.as_ (n := 106) (l' := [(6, _), (7, _)]) (S' := [⟨b6, 33, 3, [_, _, _]⟩, ⟨b5, 33, 3, [_, _, _]⟩, ⟨b4, 33, 3, [_, _, _]⟩]) rfl rfl ⟨lk, lk, trivial⟩) ?_
           refine OD.nil ?_
           refine CD.ret ?_
           refine ⟨.inr rfl, _, [], List.nil_sublist _, ret_two Tryd.results13 (res_cells (k := 0) (ds := [_, _, _]) (Nat.le_of_ble_eq_true rfl) lk rfl rfl Tryd.isAgg33 Tryd.sizeOf33 rfl rfl) (res_tmp (Nat.le_of_ble_eq_true rfl) lk), ?_⟩
           rw [hres]
           first | exact ⟨rfl, rfl⟩ | (refine ⟨?_, rfl⟩; clear hres hcv hav hl0 hl1 hbv hnv; generalize (cmpV a b == 0) = z1 at *; generalize (decide (cmpV a b < 0)) = z2 at *; subst_vars; simp_all; done)
          ·have hc13' := hc13
           (try simp only [V.cnd, ne_eq] at hc13')
           have hres : twoF k a b = (⟨2, (arithF k a.n b.n).1, ⟨#[]⟩⟩, 0) := by rw [har, if_neg (by rw [hc12]; simp), if_pos (by simpa using hc13)]
           refine CD.skip ?_
           refine CD.seq ?_
           refine CD.region ?_
           refine OD.still (wants_plain rfl) rfl (still_mv rfl ot) ?_
           refine OD.still (wants_plain rfl) rfl (still_bld (pl := [(0, _), (1, _)]) (ds := [_, _, _]) rfl Tryd.zeroValue33 Tryd.runUnderlying33 places33_Ex2 ⟨rfl, opd_const, rfl, ot, trivial⟩ rfl rfl) ?_
           refine OD.store (k := 0) (cs' := [_, _, _]) (wants_plain rfl) rfl rfl ot rfl rfl ot rfl rfl Tryd.sizeOf33 rfl rfl rfl ?_
           refine OD.still (wants_plain rfl) rfl (still_as rfl opd_const) ?_
           refine OD.wk (Wk.as_ (n := 106) (l' := [(6, _), (7, _)]) (S' := [⟨b6, 33, 3, [_, _, _]⟩, ⟨b5, 33, 3, [_, _, _]⟩, ⟨b4, 33, 3, [_, _, _]⟩]) rfl rfl ⟨lk, lk, trivial⟩) ?_
           refine OD.nil ?_
           refine CD.ret ?_
           refine ⟨.inr rfl, _, [], List.nil_sublist _, ret_two Tryd.results13 (res_cells (k := 0) (ds := [_, _, _]) (Nat.le_of_ble_eq_true rfl) lk rfl rfl Tryd.isAgg33 Tryd.sizeOf33 rfl rfl) (res_tmp (Nat.le_of_ble_eq_true rfl) lk), ?_⟩
           rw [hres]
           first | exact ⟨rfl, rfl⟩ | (refine ⟨?_, rfl⟩; clear hres hcv hav hl0 hl1 hbv hnv; generalize (cmpV a b == 0) = z1 at *; generalize (decide (cmpV a b < 0)) = z2 at *; subst_vars; simp_all; done)
       ·have hc8' := hc8
        (try simp only [V.cnd, ne_eq] at hc8')
        refine CD.region ?_
        refine OD.still (wants_plain rfl) rfl (still_bin rfl ot opd_const bin_eql) ?_
        refine OD.still (wants_plain rfl) rfl (still_as rfl ot) ?_
        refine OD.wk (Wk.as_ (n := 106) (l' := [(0, _), (4, _), (5, _), (6, _), (67, _)]) (S' := [⟨b6, 33, 3, [_, _, _]⟩, ⟨b5, 33, 3, [_, _, _]⟩, ⟨b4, 33, 3, [_, _, _]⟩]) rfl rfl ⟨lk, lk, lk, lk, lk, trivial⟩) ?_
        refine OD.nil ?_
        refine CD.cond ot (fun hc9 => ?_) (fun hc9 => ?_)
        ·have hc9' := hc9
         (try simp only [V.cnd, ne_eq] at hc9')
         refine CD.seq ?_
         refine CD.seq ?_
         refine CD.region ?_
         refine OD.still (wants_plain rfl) rfl (still_r1 (mk := Op.load 33) rfl ot (by first | exact ld_blks (k := 2) (ds := [_, _, _]) rfl rfl Tryd.isAgg33 Tryd.sizeOf33 rfl rfl | exact ld_is (ds := [_, _, _]) Tryd.isAgg33 Tryd.sizeOf33 rfl rfl)) ?_
         refine OD.still (wants_plain rfl) rfl (still_r1 (mk := Op.load 33) rfl ot (by first | exact ld_blks (k := 1) (ds := [_, _, _]) rfl rfl Tryd.isAgg33 Tryd.sizeOf33 rfl rfl | exact ld_is (ds := [_, _, _]) Tryd.isAgg33 Tryd.sizeOf33 rfl rfl)) ?_
         refine OD.still (wants_plain rfl) rfl (still_bldA (pl := [(0, _), (1, _)]) (ds := [_, _, _, _, _, _]) rfl Tryd.zeroValue67 Tryd.runUnderlying67 Tryd.sizeOf33 ⟨rfl, ot, rfl, ot, trivial⟩ rfl rfl) ?_
         refine OD.still (wants_plain rfl) rfl (still_mv rfl opd_const) ?_
         refine OD.wk (Wk.as_ (n := 106) (l' := [(0, _), (4, _), (5, _), (6, _), (73, _), (74, _)]) (S' := [⟨b6, 33, 3, [_, _, _]⟩, ⟨b5, 33, 3, [_, _, _]⟩, ⟨b4, 33, 3, [_, _, _]⟩]) rfl rfl ⟨lk, lk, lk, lk, lk, lk, trivial⟩) ?_
         refine OD.nil ?_
         refine CD.block ?_
         refine CD.wk (Wk.asS (n := 106) (l' := [(0, .v (.int .i64 k)), (4, .v (.pointer (some ⟨b4, 0, none⟩))), (5, .v (.pointer (some ⟨b5, 0, none⟩))), (6, .v (.pointer (some ⟨b6, 0, none⟩))), (73, .agg [.v (.int .i64 a.k), .v (.int .i64 a.n), .v (.string a.s), .v (.int .i64 b.k), .v (.int .i64 b.n), .v (.string b.s)]), (74, .v (.int .i64 ((0) : Nat)))]) (S' := [⟨b6, 33, 3, [.v (.int .i64 0), .v (.int .i64 0), .v (.string ⟨#[]⟩)]⟩, ⟨b5, 33, 3, [.v (.int .i64 b.k), .v (.int .i64 b.n), .v (.string b.s)]⟩, ⟨b4, 33, 3, [.v (.int .i64 a.k), .v (.int .i64 a.n), .v (.string a.s)]⟩]) rfl (by repeat (first | exact List.Sublist.refl _ | apply List.Sublist.cons)) ⟨(by (repeat (first | exact look_hit | (apply look_at; focus (first | rfl | (simp; done) | (congr 2; omega))) | (apply look_miss; focus rfl))); done), (by (repeat (first | exact look_hit | (apply look_at; focus (first | rfl | (simp; done) | (congr 2; omega))) | (apply look_miss; focus rfl))); done), (by (repeat (first | exact look_hit | (apply look_at; focus (first | rfl | (simp; done) | (congr 2; omega))) | (apply look_miss; focus rfl))); done), (by (repeat (first | exact look_hit | (apply look_at; focus (first | rfl | (simp; done) | (congr 2; omega))) | (apply look_miss; focus rfl))); done), (by (repeat (first | exact look_hit | (apply look_at; focus (first | rfl | (simp; done) | (congr 2; omega))) | (apply look_miss; focus rfl))); done), (by (repeat (first | exact look_hit | (apply look_at; focus (first | rfl | (simp; done) | (congr 2; omega))) | (apply look_miss; focus rfl))); done), trivial⟩) (CD.loop (fun (i : Nat) y__ => (i ≤ 2) ∧ (∀ j, j < i → ¬ ((selV a b j).k ≠ 2 ∧ (selV a b j).k ≠ 0)) ∧ y__ = (⟨106, [(0, .v (.int .i64 k)), (4, .v (.pointer (some ⟨b4, 0, none⟩))), (5, .v (.pointer (some ⟨b5, 0, none⟩))), (6, .v (.pointer (some ⟨b6, 0, none⟩))), (73, .agg [.v (.int .i64 a.k), .v (.int .i64 a.n), .v (.string a.s), .v (.int .i64 b.k), .v (.int .i64 b.n), .v (.string b.s)]), (74, .v (.int .i64 (i : Nat)))], [⟨b6, 33, 3, [.v (.int .i64 0), .v (.int .i64 0), .v (.string ⟨#[]⟩)]⟩, ⟨b5, 33, 3, [.v (.int .i64 b.k), .v (.int .i64 b.n), .v (.string b.s)]⟩, ⟨b4, 33, 3, [.v (.int .i64 a.k), .v (.int .i64 a.n), .v (.string a.s)]⟩]⟩ : St)) (fun (i : Nat) => 2 - i) 0 ⟨(Nat.zero_le _), (fun j hj => absurd hj (Nat.not_lt_zero _)), rfl⟩ ?_)
         rintro i _ ⟨hi, hall, rfl⟩
         have hk8 : k = 8 ∨ k = 9 ∨ k = 10 := by omega
         refine CD.seq ?_
         refine CD.region ?_
         refine OD.still (wants_plain rfl) rfl (still_bin rfl ot opd_const bin_lss) ?_
         refine OD.wk (Wk.as_ (n := 106) (l' := [(0, _), (4, _), (5, _), (6, _), (73, _), (74, _), (75, _)]) (S' := [⟨b6, 33, 3, [_, _, _]⟩, ⟨b5, 33, 3, [_, _, _]⟩, ⟨b4, 33, 3, [_, _, _]⟩]) rfl rfl ⟨lk, lk, lk, lk, lk, lk, lk, trivial⟩) ?_
         refine OD.nil ?_
         refine CD.seq ?_
         refine CD.cond ot (fun hc10 => ?_) (fun hc10 => ?_)
         ·have hc10' := hc10
          (try simp only [V.cnd, ne_eq] at hc10')
          have hlt : i < 2 := by omega
          refine CD.skip ?_
          refine CD.seq ?_
          refine CD.block ?_
          refine CD.seq ?_
          refine CD.region ?_
          refine OD.still (wants_plain rfl) rfl (still_vidxs (j := i) rfl ot ot Tryd.runUnderlying67 Tryd.sizeOf33 Tryd.isAgg33 rfl hlt (sel_cells a b hlt)) ?_
          refine OD.alloc (ds := [_, _, _]) (wants_plain rfl) rfl rfl Tryd.zeroValue33 rfl (fun b11 => ?_)
          refine OD.store (k := 0) (cs' := [_, _, _]) (wants_plain rfl) rfl rfl ot rfl rfl ot rfl rfl Tryd.sizeOf33 rfl rfl rfl ?_
          refine OD.wk (Wk.as_ (n := 106) (l' := [(0, _), (4, _), (5, _), (6, _), (11, _), (73, _), (74, _)]) (S' := [⟨b11, 33, 3, [_, _, _]⟩, ⟨b6, 33, 3, [_, _, _]⟩, ⟨b5, 33, 3, [_, _, _]⟩, ⟨b4, 33, 3, [_, _, _]⟩]) rfl rfl ⟨lk, lk, lk, lk, lk, lk, lk, trivial⟩) ?_
          refine OD.nil ?_
          refine CD.seq ?_
          refine CD.region ?_
          refine OD.still (wants_plain rfl) rfl (still_r1 (mk := fun y => Op.fieldAddr 33 y 0) rfl ot (by first | exact fa_ptr (off := 0) Tryd.runUnderlying33 rfl Tryd.sizeOf3 rfl | exact fa_iptr (off := 0) Tryd.runUnderlying33 rfl Tryd.sizeOf3 rfl)) ?_
          refine OD.still (wants_plain rfl) rfl (still_r1 (mk := Op.load 3) rfl ot (by first | exact ld_blk (k := 0) rfl rfl Tryd.isAgg3 rfl | exact ld_i Tryd.isAgg3 rfl)) ?_
          refine OD.still (wants_plain rfl) rfl (still_bin rfl ot opd_const bin_neq) ?_
          refine OD.still (wants_plain rfl) rfl (still_mv rfl ot) ?_
          refine OD.split (t := 80) lk (fun hg80 => ?_) (fun hg80 => ?_)
          ·have hg80' := hg80; (try simp only [V.cnd, ne_eq] at hg80')
           refine OD.still (wants_T rfl rfl rfl lk (by first | rfl | assumption)) rfl (still_r1 (mk := fun y => Op.fieldAddr 33 y 0) rfl ot (by first | exact fa_ptr (off := 0) Tryd.runUnderlying33 rfl Tryd.sizeOf3 rfl | exact fa_iptr (off := 0) Tryd.runUnderlying33 rfl Tryd.sizeOf3 rfl)) ?_
           refine OD.still (wants_T rfl rfl rfl lk (by first | rfl | assumption)) rfl (still_r1 (mk := Op.load 3) rfl ot (by first | exact ld_blk (k := 0) rfl rfl Tryd.isAgg3 rfl | exact ld_i Tryd.isAgg3 rfl)) ?_
           refine OD.still (wants_T rfl rfl rfl lk (by first | rfl | assumption)) rfl (still_bin rfl ot opd_const bin_neq) ?_
           refine OD.still (wants_plain rfl) rfl (still_pickT rfl ot (by first | rfl | assumption) ot) ?_
           refine OD.wk (Wk.as_ (n := 106) (l' := [(0, _), (4, _), (5, _), (6, _), (73, _), (74, _), (84, _)]) (S' := [⟨b11, 33, 3, [_, _, _]⟩, ⟨b6, 33, 3, [_, _, _]⟩, ⟨b5, 33, 3, [_, _, _]⟩, ⟨b4, 33, 3, [_, _, _]⟩]) rfl rfl ⟨lk, lk, lk, lk, lk, lk, lk, trivial⟩) ?_
           refine OD.nil ?_
           refine CD.cond ot (fun hc11 => ?_) (fun hc11 => ?_)
           ·have hc11' := hc11
            (try simp only [V.cnd, ne_eq] at hc11')
            have hres : twoF k a b = (noVl, 4) := two_bad hb0 hk8 hlt (by simp_all) (by simp_all)
            refine CD.seq ?_
            refine CD.region ?_
            refine OD.still (wants_plain rfl) rfl (still_bld (pl := []) (ds := [_, _, _]) rfl Tryd.zeroValue33 Tryd.runUnderlying33 places33_Ex2 trivial rfl rfl) ?_
            refine OD.store (k := 1) (cs' := [_, _, _]) (wants_plain rfl) rfl rfl ot rfl rfl ot rfl rfl Tryd.sizeOf33 rfl rfl rfl ?_
            refine OD.still (wants_plain rfl) rfl (still_as rfl opd_const) ?_
            refine OD.wk (Wk.as_ (n := 106) (l' := [(6, _), (7, _)]) (S' := [⟨b11, 33, 3, [_, _, _]⟩, ⟨b6, 33, 3, [_, _, _]⟩, ⟨b5, 33, 3, [_, _, _]⟩, ⟨b4, 33, 3, [_, _, _]⟩]) rfl rfl ⟨lk, lk, trivial⟩) ?_
            refine OD.nil ?_
            refine CD.ret ?_
            refine ⟨.inr rfl, _, [], List.nil_sublist _, ret_two Tryd.results13 (res_cells (k := 1) (ds := [_, _, _]) (Nat.le_of_ble_eq_true rfl) lk rfl rfl Tryd.isAgg33 Tryd.sizeOf33 rfl rfl) (res_tmp (Nat.le_of_ble_eq_true rfl) lk), ?_⟩
            rw [hres]
            first | exact ⟨rfl, rfl⟩ | (refine ⟨?_, rfl⟩; clear hres hcv hav hl0 hl1 hbv hnv; generalize (cmpV a b == 0) = z1 at *; generalize (decide (cmpV a b < 0)) = z2 at *; subst_vars; simp_all; done)
           ·have hc11' := hc11
            (try simp only [V.cnd, ne_eq] at hc11')
            have hone : ¬ ((selV a b i).k ≠ 2 ∧ (selV a b i).k ≠ 0) := by simp_all
            refine CD.skip ?_
            refine CD.region ?_
            refine OD.still (wants_plain rfl) rfl (still_bin rfl ot opd_const (bin_add (wrap_i64 (by omega) (by omega)))) ?_
            refine OD.still (wants_plain rfl) rfl (still_mv rfl ot) ?_
            refine OD.wk (Wk.as_ (n := 106) (l' := [(0, _), (4, _), (5, _), (6, _), (73, _), (74, _)]) (S' := [⟨b11, 33, 3, [_, _, _]⟩, ⟨b6, 33, 3, [_, _, _]⟩, ⟨b5, 33, 3, [_, _, _]⟩, ⟨b4, 33, 3, [_, _, _]⟩]) rfl rfl ⟨lk, lk, lk, lk, lk, lk, trivial⟩) ?_
            refine OD.nil ?_
            refine ⟨(i + 1), ⟨106, [(0, .v (.int .i64 k)), (4, .v (.pointer (some ⟨b4, 0, none⟩))), (5, .v (.pointer (some ⟨b5, 0, none⟩))), (6, .v (.pointer (some ⟨b6, 0, none⟩))), (73, .agg [.v (.int .i64 a.k), .v (.int .i64 a.n), .v (.string a.s), .v (.int .i64 b.k), .v (.int .i64 b.n), .v (.string b.s)]), (74, .v (.int .i64 (((i + 1)) : Nat)))], [⟨b6, 33, 3, [.v (.int .i64 0), .v (.int .i64 0), .v (.string ⟨#[]⟩)]⟩, ⟨b5, 33, 3, [.v (.int .i64 b.k), .v (.int .i64 b.n), .v (.string b.s)]⟩, ⟨b4, 33, 3, [.v (.int .i64 a.k), .v (.int .i64 a.n), .v (.string a.s)]⟩]⟩, ?_, Wk.asS (n := 106) rfl (by repeat (first | exact List.Sublist.refl _ | apply List.Sublist.cons)) ⟨(by (repeat (first | exact look_hit | (apply look_at; focus (first | rfl | (simp; done) | (congr 2; omega))) | (apply look_miss; focus rfl))); done), (by (repeat (first | exact look_hit | (apply look_at; focus (first | rfl | (simp; done) | (congr 2; omega))) | (apply look_miss; focus rfl))); done), (by (repeat (first | exact look_hit | (apply look_at; focus (first | rfl | (simp; done) | (congr 2; omega))) | (apply look_miss; focus rfl))); done), (by (repeat (first | exact look_hit | (apply look_at; focus (first | rfl | (simp; done) | (congr 2; omega))) | (apply look_miss; focus rfl))); done), (by (repeat (first | exact look_hit | (apply look_at; focus (first | rfl | (simp; done) | (congr 2; omega))) | (apply look_miss; focus rfl))); done), (by (repeat (first | exact look_hit | (apply look_at; focus (first | rfl | (simp; done) | (congr 2; omega))) | (apply look_miss; focus rfl))); done), trivial⟩, (by omega), (sel_more (p := fun v => ¬ (v.k ≠ 2 ∧ v.k ≠ 0)) hall hone), rfl⟩
            first | omega | (simp only []; omega)
          ·have hg80' := hg80; (try simp only [V.cnd, ne_eq] at hg80')
           refine OD.skip (wants_F rfl rfl rfl lk (by first | rfl | assumption)) rfl ?_
           refine OD.skip (wants_F rfl rfl rfl lk (by first | rfl | assumption)) rfl ?_
           refine OD.skip (wants_F rfl rfl rfl lk (by first | rfl | assumption)) rfl ?_
           refine OD.still (wants_plain rfl) rfl (still_pickF rfl ot (by first | rfl | assumption) opd_const) ?_
           refine OD.wk (Wk.as_ (n := 106) (l' := [(0, _), (4, _), (5, _), (6, _), (73, _), (74, _), (84, _)]) (S' := [⟨b11, 33, 3, [_, _, _]⟩, ⟨b6, 33, 3, [_, _, _]⟩, ⟨b5, 33, 3, [_, _, _]⟩, ⟨b4, 33, 3, [_, _, _]⟩]) rfl rfl ⟨lk, lk, lk, lk, lk, lk, lk, trivial⟩) ?_
           refine OD.nil ?_
           refine CD.condF ot (by first | rfl | assumption) ?_
           have hone : ¬ ((selV a b i).k ≠ 2 ∧ (selV a b i).k ≠ 0) := by simp_all
           refine CD.skip ?_
           refine CD.region ?_
           refine OD.still (wants_plain rfl) rfl (still_bin rfl ot opd_const (bin_add (wrap_i64 (by omega) (by omega)))) ?_
           refine OD.still (wants_plain rfl) rfl (still_mv rfl ot) ?_
           refine OD.wk (Wk.as_ (n := 106) (l' := [(0, _), (4, _), (5, _), (6, _), (73, _), (74, _)]) (S' := [⟨b11, 33, 3, [_, _, _]⟩, ⟨b6, 33, 3, [_, _, _]⟩, ⟨b5, 33, 3, [_, _, _]⟩, ⟨b4, 33, 3, [_, _, _]⟩]) rfl rfl ⟨lk, lk, lk, lk, lk, lk, trivial⟩) ?_
           refine OD.nil ?_
           refine ⟨(i + 1), ⟨106, [(0, .v (.int .i64 k)), (4, .v (.pointer (some ⟨b4, 0, none⟩))), (5, .v (.pointer (some ⟨b5, 0, none⟩))), (6, .v (.pointer (some ⟨b6, 0, none⟩))), (73, .agg [.v (.int .i64 a.k), .v (.int .i64 a.n), .v (.string a.s), .v (.int .i64 b.k), .v (.int .i64 b.n), .v (.string b.s)]), (74, .v (.int .i64 (((i + 1)) : Nat)))], [⟨b6, 33, 3, [.v (.int .i64 0), .v (.int .i64 0), .v (.string ⟨#[]⟩)]⟩, ⟨b5, 33, 3, [.v (.int .i64 b.k), .v (.int .i64 b.n), .v (.string b.s)]⟩, ⟨b4, 33, 3, [.v (.int .i64 a.k), .v (.int .i64 a.n), .v (.string a.s)]⟩]⟩, ?_, Wk.asS (n := 106) rfl (by repeat (first | exact List.Sublist.refl _ | apply List.Sublist.cons)) ⟨(by (repeat (first | exact look_hit | (apply look_at; focus (first | rfl | (simp; done) | (congr 2; omega))) | (apply look_miss; focus rfl))); done), (by (repeat (first | exact look_hit | (apply look_at; focus (first | rfl | (simp; done) | (congr 2; omega))) | (apply look_miss; focus rfl))); done), (by (repeat (first | exact look_hit | (apply look_at; focus (first | rfl | (simp; done) | (congr 2; omega))) | (apply look_miss; focus rfl))); done), (by (repeat (first | exact look_hit | (apply look_at; focus (first | rfl | (simp; done) | (congr 2; omega))) | (apply look_miss; focus rfl))); done), (by (repeat (first | exact look_hit | (apply look_at; focus (first | rfl | (simp; done) | (congr 2; omega))) | (apply look_miss; focus rfl))); done), (by (repeat (first | exact look_hit | (apply look_at; focus (first | rfl | (simp; done) | (congr 2; omega))) | (apply look_miss; focus rfl))); done), trivial⟩, (by omega), (sel_more (p := fun v => ¬ (v.k ≠ 2 ∧ v.k ≠ 0)) hall hone), rfl⟩
           first | omega | (simp only []; omega)
         ·have hc10' := hc10
          (try simp only [V.cnd, ne_eq] at hc10')
          have hAB := sel_all (p := fun v => ¬ (v.k ≠ 2 ∧ v.k ≠ 0)) hall (by omega)
          have har := two_arith hb0 hk8 (fun h => h.elim hAB.1 hAB.2)
          refine CD.exit ?_
          refine CD.seq ?_
          refine CD.seq ?_
          refine CD.region ?_
          refine OD.still (wants_plain rfl) rfl (still_r1 (mk := Op.load 33) rfl ot (by first | exact ld_blks (k := 2) (ds := [_, _, _]) rfl rfl Tryd.isAgg33 Tryd.sizeOf33 rfl rfl | exact ld_is (ds := [_, _, _]) Tryd.isAgg33 Tryd.sizeOf33 rfl rfl)) ?_
          refine OD.still (wants_plain rfl) rfl (still_r1 (mk := Op.load 33) rfl ot (by first | exact ld_blks (k := 1) (ds := [_, _, _]) rfl rfl Tryd.isAgg33 Tryd.sizeOf33 rfl rfl | exact ld_is (ds := [_, _, _]) Tryd.isAgg33 Tryd.sizeOf33 rfl rfl)) ?_
          refine OD.callP (wants_plain rfl) rfl rfl rfl Tryd.call30 (hnv) ⟨ot, ot, trivial⟩ ?_
          refine OD.wk (Wk.as_ (n := 106) (l' := [(0, _), (4, _), (5, _), (6, _), (89, _)]) (S' := [⟨b6, 33, 3, [_, _, _]⟩, ⟨b5, 33, 3, [_, _, _]⟩, ⟨b4, 33, 3, [_, _, _]⟩]) rfl rfl ⟨lk, lk, lk, lk, lk, trivial⟩) ?_
          refine OD.nil ?_
          refine CD.cond ot (fun hc12 => ?_) (fun hc12 => ?_)
          ·have hc12' := hc12
           (try simp only [V.cnd, ne_eq] at hc12')
           have hres : twoF k a b = (noVl, 0) := by rw [har, if_pos hc12]
           refine CD.seq ?_
           refine CD.region ?_
           refine OD.still (wants_plain rfl) rfl (still_bld (pl := []) (ds := [_, _, _]) rfl Tryd.zeroValue33 Tryd.runUnderlying33 places33_Ex2 trivial rfl rfl) ?_
           refine OD.store (k := 0) (cs' := [_, _, _]) (wants_plain rfl) rfl rfl ot rfl rfl ot rfl rfl Tryd.sizeOf33 rfl rfl rfl ?_
           refine OD.still (wants_plain rfl) rfl (still_as rfl opd_const) ?_
           refine OD.wk (Wk.as_ (n := 106) (l' := [(6, _), (7, _)]) (S' := [⟨b6, 33, 3, [_, _, _]⟩, ⟨b5, 33, 3, [_, _, _]⟩, ⟨b4, 33, 3, [_, _, _]⟩]) rfl rfl ⟨lk, lk, trivial⟩) ?_
           refine OD.nil ?_
           refine CD.ret ?_
           refine ⟨.inr rfl, _, [], List.nil_sublist _, ret_two Tryd.results13 (res_cells (k := 0) (ds := [_, _, _]) (Nat.le_of_ble_eq_true rfl) lk rfl rfl Tryd.isAgg33 Tryd.sizeOf33 rfl rfl) (res_tmp (Nat.le_of_ble_eq_true rfl) lk), ?_⟩
           rw [hres]
           first | exact ⟨rfl, rfl⟩ | (refine ⟨?_, rfl⟩; clear hres hcv hav hl0 hl1 hbv hnv; generalize (cmpV a b == 0) = z1 at *; generalize (decide (cmpV a b < 0)) = z2 at *; subst_vars; simp_all; done)
          ·have hc12' := hc12
           (try simp only [V.cnd, ne_eq] at hc12')
           refine CD.skip ?_
           refine CD.seq ?_
           refine CD.region ?_
           refine OD.still (wants_plain rfl) rfl (still_mv rfl ot) ?_
           refine OD.still (wants_plain rfl) rfl (still_r1 (mk := fun y => Op.fieldAddr 33 y 1) rfl ot (by first | exact fa_ptr (off := 1) Tryd.runUnderlying33 rfl Tryd.sizeOf3 rfl | exact fa_iptr (off := 1) Tryd.runUnderlying33 rfl Tryd.sizeOf3 rfl)) ?_
           refine OD.still (wants_plain rfl) rfl (still_r1 (mk := Op.load 3) rfl ot (by first | exact ld_blk (k := 2) rfl rfl Tryd.isAgg3 rfl | exact ld_i Tryd.isAgg3 rfl)) ?_
           refine OD.still (wants_plain rfl) rfl (still_r1 (mk := fun y => Op.fieldAddr 33 y 1) rfl ot (by first | exact fa_ptr (off := 1) Tryd.runUnderlying33 rfl Tryd.sizeOf3 rfl | exact fa_iptr (off := 1) Tryd.runUnderlying33 rfl Tryd.sizeOf3 rfl)) ?_
           refine OD.still (wants_plain rfl) rfl (still_r1 (mk := Op.load 3) rfl ot (by first | exact ld_blk (k := 1) rfl rfl Tryd.isAgg3 rfl | exact ld_i Tryd.isAgg3 rfl)) ?_
           refine OD.callP (wants_plain rfl) rfl rfl rfl Tryd.call33 (hav) ⟨ot, ot, ot, trivial⟩ ?_
           refine OD.still (wants_plain rfl) rfl (still_mv rfl ot) ?_
           refine OD.still (wants_plain rfl) rfl (still_extract rfl ot rfl) ?_
           refine OD.still (wants_plain rfl) rfl (still_extract rfl ot rfl) ?_
           refine OD.still (wants_plain rfl) rfl (still_as rfl ot) ?_
           refine OD.still (wants_plain rfl) rfl (still_as rfl ot) ?_
           refine OD.wk (Wk.as_ (n := 106) (l' := [(6, _), (12, _), (13, _)]) (S' := [⟨b6, 33, 3, [_, _, _]⟩, ⟨b5, 33, 3, [_, _, _]⟩, ⟨b4, 33, 3, [_, _, _]⟩]) rfl rfl ⟨lk, lk, lk, trivial⟩) ?_
           refine OD.nil ?_
           refine CD.seq ?_
           refine CD.seq ?_
           refine CD.region ?_
           refine OD.still (wants_plain rfl) rfl (still_mv rfl ot) ?_
           refine OD.still (wants_plain rfl) rfl (still_un rfl ot un_not) ?_
           refine OD.wk (Wk.as_ (n := 106) (l' := [(6, _), (12, _), (101, _)]) (S' := [⟨b6, 33, 3, [_, _, _]⟩, ⟨b5, 33, 3, [_, _, _]⟩, ⟨b4, 33, 3, [_, _, _]⟩]) rfl rfl ⟨lk, lk, lk, trivial⟩) ?_
           refine OD.nil ?_
           refine CD.cond ot (fun hc13 => ?_) (fun hc13 => ?_)
           ·have hc13' := hc13
            (try simp only [V.cnd, ne_eq] at hc13')
            have hres : twoF k a b = (noVl, 5) := by rw [har, if_neg (by rw [hc12]; simp), if_neg (by simpa using hc13)]
            refine CD.seq ?_
            refine CD.region ?_
            refine OD.still (wants_plain rfl) rfl (still_bld (pl := []) (ds := [_, _, _]) rfl Tryd.zeroValue33 Tryd.runUnderlying33 places33_Ex2 trivial rfl rfl) ?_
            refine OD.store (k := 0) (cs' := [_, _, _]) (wants_plain rfl) rfl rfl ot rfl rfl ot rfl rfl Tryd.sizeOf33 rfl rfl rfl ?_
            refine OD.still (wants_plain rfl) rfl (still_as rfl opd_const) ?_
            refine OD.wk (Wk.as_ (n := 106) (l' := [(6, _), (7, _)]) (S' := [⟨b6, 33, 3, [_, _, _]⟩, ⟨b5, 33, 3, [_, _, _]⟩, ⟨b4, 33, 3, [_, _, _]⟩]) rfl rfl ⟨lk, lk, trivial⟩) ?_
            refine OD.nil ?_
            refine CD.ret ?_
            refine ⟨.inr rfl, _, [], List.nil_sublist _, ret_two Tryd.results13 (res_cells (k := 0) (ds := [_, _, _]) (Nat.le_of_ble_eq_true rfl) lk rfl rfl Tryd.isAgg33 Tryd.sizeOf33 rfl rfl) (res_tmp (Nat.le_of_ble_eq_true rfl) lk), ?_⟩
            rw [hres]
            first | exact ⟨rfl, rfl⟩ | (refine ⟨?_, rfl⟩; clear hres hcv hav hl0 hl1 hbv hnv; generalize (cmpV a b == 0) = z1 at *; generalize (decide (cmpV a b < 0)) = z2 at *; subst_vars; simp_all; done)
           ·have hc13' := hc13
            (try simp only [V.cnd, ne_eq] at hc13')
            have hres : twoF k a b = (⟨2, (arithF k a.n b.n).1, ⟨#[]⟩⟩, 0) := by rw [har, if_neg (by rw [hc12]; simp), if_pos (by simpa using hc13)]
            refine CD.skip ?_
            refine CD.seq ?_
            refine CD.region ?_
            refine OD.still (wants_plain rfl) rfl (still_mv rfl ot) ?_
            refine OD.still (wants_plain rfl) rfl (still_bld (pl := [(0, _), (1, _)]) (ds := [_, _, _]) rfl Tryd.zeroValue33 Tryd.runUnderlying33 places33_Ex2 ⟨rfl, opd_const, rfl, ot, trivial⟩ rfl rfl) ?_
            refine OD.store (k := 0) (cs' := [_, _, _]) (wants_plain rfl) rfl rfl ot rfl rfl ot rfl rfl Tryd.sizeOf33 rfl rfl rfl ?_
            refine OD.still (wants_plain rfl) rfl (still_as rfl opd_const) ?_
            refine OD.wk (Wk.as_ (n := 106) (l' := [(6, _), (7, _)]) (S' := [⟨b6, 33, 3, [_, _, _]⟩, ⟨b5, 33, 3, [_, _, _]⟩, ⟨b4, 33, 3, [_, _, _]⟩]) rfl rfl ⟨lk, lk, trivial⟩) ?_
            refine OD.nil ?_
            refine CD.ret ?_
            refine ⟨.inr rfl, _, [], List.nil_sublist _, ret_two Tryd.results13 (res_cells (k := 0) (ds := [_, _, _]) (Nat.le_of_ble_eq_true rfl) lk rfl rfl Tryd.isAgg33 Tryd.sizeOf33 rfl rfl) (res_tmp (Nat.le_of_ble_eq_true rfl) lk), ?_⟩
            rw [hres]
            first | exact ⟨rfl, rfl⟩ | (refine ⟨?_, rfl⟩; clear hres hcv hav hl0 hl1 hbv hnv; generalize (cmpV a b == 0) = z1 at *; generalize (decide (cmpV a b < 0)) = z2 at *; subst_vars; simp_all; done)
        ·have hc9' := hc9
         (try simp only [V.cnd, ne_eq] at hc9')
         have hres : twoF k a b = (noVl, 2) := by unfold twoF; rw [if_neg (by simp [hb0]), if_neg (by omega), if_neg (by omega), if_neg (by omega), if_neg (by omega)]
         refine CD.skip ?_
         refine CD.seq ?_
         refine CD.region ?_
         refine OD.still (wants_plain rfl) rfl (still_bld (pl := []) (ds := [_, _, _]) rfl Tryd.zeroValue33 Tryd.runUnderlying33 places33_Ex2 trivial rfl rfl) ?_
         refine OD.store (k := 0) (cs' := [_, _, _]) (wants_plain rfl) rfl rfl ot rfl rfl ot rfl rfl Tryd.sizeOf33 rfl rfl rfl ?_
         refine OD.still (wants_plain rfl) rfl (still_as rfl opd_const) ?_
         refine OD.wk (Wk.as_ (n := 106) (l' := [(6, _), (7, _)]) (S' := [⟨b6, 33, 3, [_, _, _]⟩, ⟨b5, 33, 3, [_, _, _]⟩, ⟨b4, 33, 3, [_, _, _]⟩]) rfl rfl ⟨lk, lk, trivial⟩) ?_
         refine OD.nil ?_
         refine CD.ret ?_
         refine ⟨.inr rfl, _, [], List.nil_sublist _, ret_two Tryd.results13 (res_cells (k := 0) (ds := [_, _, _]) (Nat.le_of_ble_eq_true rfl) lk rfl rfl Tryd.isAgg33 Tryd.sizeOf33 rfl rfl) (res_tmp (Nat.le_of_ble_eq_true rfl) lk), ?_⟩
         rw [hres]
         first | exact ⟨rfl, rfl⟩ | (refine ⟨?_, rfl⟩; clear hres hcv hav hl0 hl1 hbv hnv; generalize (cmpV a b == 0) = z1 at *; generalize (decide (cmpV a b < 0)) = z2 at *; subst_vars; simp_all; done)

end Go.Proofs.YtfooincnmobemaaDoor.Ex
